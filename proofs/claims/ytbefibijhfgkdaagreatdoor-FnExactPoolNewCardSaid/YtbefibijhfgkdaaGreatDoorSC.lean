/- A lemma text of the proof that what the evaluator answers holds of every run of the model. No condition beyond those that each theorem states. -/
import Derived.Test.YtbefibijhfgkdaaGreatDoorSB
namespace Go.Ev
open Go
set_option linter.unusedSimpArgs false
set_option linter.unusedVariables false
section
variable {E : Env} {P : Program} {X A : Nat → Prop} {ρ : Rho} {s s' : St} {w : World} {v v' x y x' y' : Value}

theorem buildSliceV_ok (hE : EnvOk E P) {t : TypeId} {n : Nat} {ev : Operand → Value} {ps : List (Nat × Operand)} (h : buildSliceV E ev s t n ps = some (v, s')) : Grows s s' ∧ ∀ X A ρ w (ev' : Operand → Value), Pre P X A ρ s s' w → (∀ p ∈ ps, VR A ρ (ev p.2) (ev' p.2)) →
    SemOk P X A ρ s s' w v (Instr.buildSlice t n (ps.map fun x => (x.1, ev' x.2)).toArray) := by
  obtain ⟨t', e, ht, hd, h1⟩ := elemOf_eq h
  have := Option.some.inj ht
  subst this
  obtain ⟨sz, hsz, h2⟩ := ob_eq h1
  obtain ⟨z, hz, h3⟩ := ob_eq h2
  obtain ⟨hc, h4⟩ := chk_eq h3
  obtain ⟨cs, hcs, h5⟩ := ob_eq h4
  have := some2_eq h5
  simp only [Prod.mk.injEq] at this
  obtain ⟨rfl, rfl⟩ := this
  clear h h1 h2 h3 h4 h5 ht
  simp only [Bool.and_eq_true, Nat.beq_eq, Nat.ble_eq, lenL_eq, cellsL_eq] at hc
  obtain ⟨⟨hc1, hc2⟩, hc3⟩ := hc
  have hmul : Nat.mul n sz = n * sz := rfl
  rw [hmul] at hc3
  have hu := und_ok hE hd
  refine ⟨Grows.mk_new s _, fun X A ρ w ev' hp hev => ?_⟩
  rw [cellsL_eq] at hcs
  obtain ⟨r', h5, h6⟩ := fillV_ok (rowPlace sz) (fun i => some (i * sz, sz)) _ _ hcs (fun i q hq => hq) A ρ _ _ (evParts_ok ev ev' ps hev) (repV_ground (cells_ground (zero_ground hE hz)) n)
  refine newRow_ok n n (by simp [unk]; have : n ≤ n * sz := Nat.le_mul_of_pos_right n hc2; omega) hp h6 ?_
  unfold Instr.buildSlice
  simp only [Sem.run_bind, run_underlying hu, Result.andThen_ok, run_sizeOf hE hsz]
  rw [if_neg (by omega)]
  have hm := made_eq z n sz (by simpa using hc1) hc2
  by_cases h0 : n * sz = 0
  · have hn : n = 0 := by
      rcases Nat.mul_eq_zero.1 h0 with h | h
      · exact h
      · omega
    subst hn
    simp only [Nat.zero_mul, if_true, Sem.run_pure, Result.andThen_ok]
    have e1 : ∀ f : Nat → Value, (Array.map f (Array.range 0)) = ⟨repV z.cells.toList 0⟩ := fun f => by
      apply Array.ext'
      show _ = ([] : List Value)
      simp
    simp only [Sem.run_bind, Sem.run_pure, Result.andThen_ok, e1, h5, run_newRow]
  · simp only [h0, if_false, Sem.run_bind, run_zeroValue hE hz, Result.andThen_ok, Sem.run_pure]
    rw [hm, h5]
    simp only [Sem.run_bind, run_newRow, Result.andThen_ok, Sem.run_pure]

theorem makeSliceV_ok (hE : EnvOk E P) {t : TypeId} (h : makeSliceV E s t x y = some (v, s')) : Grows s s' ∧ ∀ X A ρ w x' y', Pre P X A ρ s s' w → VR A ρ x x' → VR A ρ y y' → SemOk P X A ρ s s' w v (Instr.makeSlice t x' y') := by
  obtain ⟨t', e, ht, hd, h1⟩ := elemOf_eq h
  have := Option.some.inj ht
  subst this
  obtain ⟨i, hi, h2⟩ := ob_eq h1
  obtain ⟨z, hz, h3⟩ := ob_eq h2
  clear h h1 h2 ht
  split at h3
  · rename_i kl l kc c
    obtain ⟨hc, h4⟩ := chk_eq h3
    have := some2_eq h4
    simp only [Prod.mk.injEq] at this
    obtain ⟨rfl, rfl⟩ := this
    clear h3 h4
    simp only [Bool.and_eq_true, Nat.beq_eq, Nat.ble_eq, lenL_eq, cellsL_eq] at hc
    obtain ⟨⟨⟨⟨hc1, hc2⟩, hc3⟩, hc4⟩, hc5⟩ := hc
    have hu := und_ok hE hd
    have hI := hE.ty _ _ hi
    refine ⟨Grows.mk_new s _, fun X A ρ w x' y' hp hx hy => ?_⟩
    rw [hx.unint, hy.unint]
    rw [cellsL_eq] at hp ⊢
    refine newRow_ok l c (by simp [unk]; omega) hp (repV_ground (cells_ground (hE.zs _ _ _ hi hz)) c) ?_
    have hb : (i.bytes : Int) * (c : Int) ≤ 281474976710656 := by
      have : i.bytes * c ≤ 1000000 * 1000000 := Nat.mul_le_mul hc3 hc2
      have h2 : ((i.bytes * c : Nat) : Int) ≤ 281474976710656 := by omega
      rwa [Int.natCast_mul] at h2
    have := run_makeSlice (P := P) w t e i z hu hI hz kl kc (l : Int) (c : Int) (by omega) (by omega)
    rw [show (Int.ofNat l) = (l : Int) from rfl, show (Int.ofNat c) = (c : Int) from rfl]
    rw [run_make w t e i z hu hI hz kl kc (l : Int) (c : Int) (by omega) (by omega) hb (by omega)]
    simp only [Int.toNat_natCast]
    have hm := made_eq z c i.size (by simpa using hc4) hc5
    rw [show madeCells z.cells (c * i.size) = ⟨repV z.cells.toList c⟩ from hm]
  · cases h3

theorem nilV_ok (h : nilV x s = some (v, s')) : s' = s ∧ v = x ∧ ((∃ a, x = .pointer (some a)) ∨ ∃ f a b, x = .func (.func f) a b) := by
  unfold nilV at h
  split at h
  · rename_i a
    have := some2_eq h
    simp only [Prod.mk.injEq] at this
    exact ⟨this.2.symm ▸ rfl, this.1 ▸ rfl, .inl ⟨a, rfl⟩⟩
  · rename_i f a b
    have := some2_eq h
    simp only [Prod.mk.injEq] at this
    exact ⟨this.2.symm ▸ rfl, this.1 ▸ rfl, .inr ⟨f, a, b, rfl⟩⟩
  · cases h
end
end Go.Ev
