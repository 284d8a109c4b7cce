/- A lemma text of the proof that what the evaluator answers holds of every run of the model. No condition beyond those that each theorem states. -/
import Derived.Test.YtbefibijhfgkdaaGreatDoorSC
import Derived.Lib.UnsafeStr
namespace Go.Ev
open Go
set_option linter.unusedSimpArgs false
set_option linter.unusedVariables false
section
variable {E : Env} {P : Program} {X A : Nat → Prop} {ρ : Rho} {s s' : St} {w : World} {v v' x y x' y' : Value}

theorem strCells_eq (l : List UInt8) : strCells l = l.map fun c => Value.int .u8 (c.toNat : Int) := by
  induction l with
  | nil => rfl
  | cons c l ih => exact congrArg (Value.int .u8 (c.toNat : Int) :: ·) ih
theorem strCells_ground (l : List UInt8) (ρ : Rho) : (strCells l).map (vmap ρ) = strCells l := by
  rw [strCells_eq, List.map_map]; apply List.map_congr_left; intro c _; simp
theorem StateR.drew {g : Nat → Option AObj} (h : StateR P X A ρ g w) : StateR P X A ρ g w.drew := ⟨h.obj, h.inj⟩

theorem srcV_ok {β : Type} {sz : Nat} {k : Nat → List Value → St → Option β} {r : β} (h : srcV s sz x k = some r) : ∃ n new s1, k n new s1 = some r ∧ s1.heap = s.heap ∧ s1.next = s.next ∧ s1.wr = s.wr ∧ Grows s s1 ∧ new.length = n * sz ∧
    ∀ X A ρ w x', (∀ b, In s1.acc b → X b) → StateR P X A ρ s.heap.get w → VR A ρ x x' → ∃ new', LR A ρ new new' ∧ new' = new.map (vmap ρ) ∧
      ∀ w2, w2.heap = w.heap → (Builtin.lenOf x').run P w2 = .ok n w2 ∧ ∀ m, m ≤ n → (Builtin.firstCells sz m x').run P w2 = .ok ⟨new'.take (m * sz)⟩ w2 := by
  unfold srcV at h
  split at h
  · rename_i z
    obtain ⟨h1, h2⟩ := chk_eq h
    have h1 : sz = 1 := by simpa using h1
    subst h1
    refine ⟨_, _, s, h2, rfl, rfl, rfl, Grows.refl s, by rw [strCells_eq]; simp, fun X A ρ w x' hX hst hx => ⟨strCells z, fun ρ' _ => strCells_ground z ρ', (strCells_ground z ρ).symm, fun w2 hw => ⟨?_, fun m hm => ?_⟩⟩⟩
    · rw [hx.unstr, lenL_eq]; rfl
    · rw [hx.unstr]
      unfold Builtin.firstCells
      simp only [Sem.run_pure, extract_mk, Nat.sub_zero, List.drop_zero, Nat.mul_one]
      congr 1
      apply Array.ext'
      simp [strCells_eq, List.map_take]
  · rename_i n c
    obtain ⟨h1, h2⟩ := chk_eq h
    have h1 : n = 0 := by simpa using h1
    subst h1
    refine ⟨_, _, s, h2, rfl, rfl, rfl, Grows.refl s, by simp, fun X A ρ w x' hX hst hx => ⟨[], LR.nil, rfl, fun w2 hw => ⟨?_, fun m hm => ?_⟩⟩⟩
    · rw [hx.unslice0]; rfl
    · rw [hx.unslice0]; simp [Builtin.firstCells]
  · rename_i b o n c
    obtain ⟨cs, e, u, hg, h1⟩ := row_eq h
    obtain ⟨new, hn, h2⟩ := ob_eq h1
    rw [dropN_eq] at hn
    obtain ⟨h3, h4⟩ := takeN_some hn
    rw [List.length_drop] at h3
    have hmul : Nat.mul n sz = n * sz := rfl
    rw [hmul] at h3 h4
    refine ⟨_, _, s.read b, h2, by simp, by simp, by simp, Grows.read s b, by rw [h4]; simp; omega, fun X A ρ w x' hX hst hx => ?_⟩
    obtain ⟨hA, c', rest, fr, r1, r2, r3, r4, r5, r6⟩ := hst.row (hX b (read_in s b)) hg
    refine ⟨(c'.drop o).take (n * sz), ?_, ?_, fun w2 hw => ⟨?_, fun m hm => ?_⟩⟩
    · rw [h4]; exact (r2.drop o).take _
    · rw [h4, ← r2.self, List.map_take, List.map_drop]
    · rw [hx.unslice]; rfl
    · rw [hx.unslice]
      unfold Builtin.firstCells
      have hms : m * sz ≤ n * sz := Nat.mul_le_mul_right _ hm
      rcases Nat.eq_zero_or_pos (m * sz) with h0 | h0
      · simp only [h0, loadCells, loadCellsFrom, List.take_zero]; rfl
      · rw [run_loadCells_at P (by rw [hw]; exact r1) o (m * sz) (by simp; omega)]
        congr 1
        apply Array.ext'
        simp only []
        rw [List.drop_append_of_le_length (by omega), List.take_append_of_le_length (by simp; omega), List.take_take, Nat.min_eq_left hms]
  · cases h
end
end Go.Ev
