/- A lemma text of the proof that what the evaluator answers holds of every run of the model. No condition beyond those that each theorem states. -/
import Derived.Test.YtbefibijhfgkdaaGreatDoorS4
namespace Go.Ev
open Go
set_option linter.unusedSimpArgs false
set_option linter.unusedVariables false

/-- The program's variables lie where they lie. -/
def Gl (A : Nat → Prop) (ρ : Rho) : Prop := ∀ g, g < 16 → A g ∧ (ρ g).1 = g
structure Pre (P : Program) (X A : Nat → Prop) (ρ : Rho) (s s' : St) (w : World) : Prop where
  lt : ∀ i, A i → i < s.next
  above : ∀ b, s.next ≤ b → s.heap.get b = none
  acc : ∀ b, In s'.acc b → X b
  st : StateR P X A ρ s.heap.get w
def SemOk (P : Program) (X A : Nat → Prop) (ρ : Rho) (s s' : St) (w : World) (v : Value) (m : Sem Value) : Prop :=
  ∃ v' w' ρ', m.run P w = .ok v' w' ∧ VR (SetAdd A s.next s'.next) ρ' v v' ∧ Good P X A ρ s s' w w' ρ'

section
variable {E : Env} {P : Program} {X A : Nat → Prop} {ρ : Rho} {s s' : St} {w : World} {v v' : Value} {m : Sem Value}
theorem SemOk.same (h : Pre P X A ρ s s' w) (hn : s'.next = s.next) (hg : s'.heap = s.heap) (hr : m.run P w = .ok v' w) (hv : VR A ρ v v') : SemOk P X A ρ s s' w v m :=
  ⟨v', w, ρ, hr, hv.mono (fun i hi => .inl hi) (fun _ _ => rfl), Good.same' h.st h.above hn hg rfl rfl rfl rfl⟩
theorem SemOk.pure (h : Pre P X A ρ s s w) (hr : m.run P w = .ok v' w) (hv : VR A ρ v v') : SemOk P X A ρ s s w v m := SemOk.same h rfl rfl hr hv

theorem read_in (s : St) (b : Nat) : In (s.read b).acc b := by rw [read_acc]; exact (in_or _ _ _).2 (.inr rfl)
theorem put_in_acc (s : St) (b : Nat) (o : Option AObj) : In (s.put b o).acc b := by rw [put_acc]; exact (in_or _ _ _).2 (.inr rfl)
theorem put_in_wr (s : St) (b : Nat) (o : Option AObj) : In (s.put b o).wr b := by rw [put_wr]; exact (in_or _ _ _).2 (.inr rfl)
theorem new_in_wr (s : St) (o : AObj) : In (s.new o).wr s.next := by rw [new_wr]; exact (in_or _ _ _).2 (.inr rfl)
theorem new_in_acc (s : St) (o : AObj) : In (s.new o).acc s.next := by rw [new_acc]; exact (in_or _ _ _).2 (.inr rfl)
theorem run_newRow (e : TypeId) (cs : Array Value) (w : World) : (newRow e cs).run P w = .ok ⟨w.heap.size, 0, none⟩ (w.alloc (.cells cs e)) := rfl

theorem newV_ok {c : List Value} {t : TypeId} (h : newV s c t = some (v, s')) : Grows s s' ∧ ∀ X A ρ w c', Pre P X A ρ s s' w → LR A ρ c c' → SemOk P X A ρ s s' w v (do pure (.pointer (some (← newRow t ⟨c'⟩)))) := by
  simp only [newV, some2, Option.some.injEq, Prod.mk.injEq] at h
  obtain ⟨rfl, rfl⟩ := h
  refine ⟨Grows.mk_new s _, fun X A ρ w c' hp hc => ⟨.pointer (some ⟨w.heap.size, 0, none⟩), w.alloc (.cells ⟨c'⟩ t), ρ.at s.next (w.heap.size, 0), ?_, ?_, ?_⟩⟩
  · simp only [Sem.run_bind, run_newRow, Result.andThen_ok]; rfl
  · have := VR.ptr (A := SetAdd A s.next (s.new (.cells c t false)).next) (ρ := ρ.at s.next (w.heap.size, 0)) (b := s.next) (o := 0) (s := none) (.inr ⟨Nat.le_refl _, by simp⟩)
    simpa using this
  · refine Good.alloc (o := .cells c t false) (x := .cells ⟨c'⟩ t) hp.st hp.above hp.lt (fun c => by simp) (by simp) (new_in_wr s _) (Nat.le_refl _) (heap_alloc_new w _) ?_ (Fr.alloc w _)
    exact ⟨c', [], (0, 0), by simp, hc, (fun h => by cases h), fun _ => .inl ⟨rfl, rfl⟩⟩

theorem allocV_ok (hE : EnvOk E P) {t : TypeId} (h : allocV E s t = some (v, s')) : Grows s s' ∧ ∀ X A ρ w, Pre P X A ρ s s' w → SemOk P X A ρ s s' w v (Instr.alloc t true (.tuple #[])) := by
  obtain ⟨z, hz, h⟩ := ob_eq h
  obtain ⟨hg, hk⟩ := newV_ok (P := P) h
  refine ⟨hg, fun X A ρ w hp => ?_⟩
  have hc : LR A ρ (cellsL z) z.cells.toList := by rw [cellsL_eq]; exact (VR.ground (zero_ground hE hz)).cells
  obtain ⟨v', w', ρ', h1, h2, h3⟩ := hk X A ρ w _ hp hc
  refine ⟨v', w', ρ', ?_, h2, h3⟩
  rw [← h1]
  unfold Instr.alloc
  simp only [Sem.run_bind, run_zeroValue hE hz, Result.andThen_ok]
  rfl

theorem atP_eq {β : Type} {x : Value} {k : Nat → Nat → Option β} {r : β} (h : atP x k = some r) : ∃ b o, x = .pointer (some ⟨b, o, none⟩) ∧ k b o = some r := by
  unfold atP at h
  split at h
  · exact ⟨_, _, rfl, h⟩
  · cases h
theorem VR.unptr {b o : Nat} {t : Option Nat} (h : VR A ρ (.pointer (some ⟨b, o, t⟩)) v') : v' = .pointer (some ⟨(ρ b).1, o, t⟩) := by rw [← h.self, vmap_ptr]
theorem VR.unslice {b o l c : Nat} {t : Option Nat} (h : VR A ρ (.slice (some ⟨b, o, t⟩) l c) v') : v' = .slice (some ⟨(ρ b).1, o, t⟩) l (capMap (ρ b) c) := by rw [← h.self, vmap_slice]
theorem VR.unslice0 {l c : Nat} (h : VR A ρ (.slice none l c) v') : v' = .slice none l c := by rw [← h.self]; simp

theorem load_ok (hE : EnvOk E P) {t : TypeId} {a : Value} (h : (atP a fun b o => loadV E s t b o) = some (v, s')) : Grows s s' ∧ ∀ X A ρ w a', Pre P X A ρ s s' w → VR A ρ a a' → SemOk P X A ρ s s' w v (Instr.loadAt t a') := by
  obtain ⟨b, o, rfl, h'⟩ := atP_eq h
  clear h; replace h := h'; clear h'
  obtain ⟨rfl, hk⟩ := loadV_ok hE h
  refine ⟨Grows.read s b, fun X A ρ w a' hp ha => ?_⟩
  obtain ⟨v', h1, h2⟩ := hk X A ρ w (hp.acc b (read_in s b)) hp.st
  refine SemOk.same hp (by simp) (by simp) ?_ h2
  rw [ha.unptr]
  exact h1

theorem store_ok (hE : EnvOk E P) {t : TypeId} {a x : Value} (h : (atP a fun b o => storeV E s t b o x) = some (v, s')) : Grows s s' ∧ ∀ X A ρ w a' x', Pre P X A ρ s s' w → VR A ρ a a' → VR A ρ x x' →
    v = .tuple ⟨[]⟩ ∧ ∃ w' ρ', (Instr.storeAt t a' x').run P w = .ok () w' ∧ Good P X A ρ s s' w w' ρ' := by
  obtain ⟨b, o, rfl, h'⟩ := atP_eq h
  clear h; replace h := h'; clear h'
  obtain ⟨c, e, u, hg, h⟩ := row_eq h
  obtain ⟨n, hn, h⟩ := ob_eq h
  obtain ⟨hl, h⟩ := chk_eq h
  obtain ⟨hf, h⟩ := chk_eq h
  obtain ⟨cs, hcs, h⟩ := ob_eq h
  simp only [Option.some.injEq, Prod.mk.injEq] at h
  obtain ⟨rfl, rfl⟩ := h
  refine ⟨(Grows.read s b).trans (Grows.put _ b _ (by rw [read_heap, hg]; simp)), fun X A ρ w a' x' hp ha hx => ⟨rfl, ?_⟩⟩
  have hX : X b := hp.acc b (put_in_acc _ b _)
  obtain ⟨hA, c', rest, fr, h2, h3, h4, h5, h6, h7⟩ := hp.st.row hX hg
  rw [cellsL_eq] at hcs hl hf
  rw [lenL_eq] at hl
  obtain ⟨h8, h9⟩ := putAt_some _ _ hcs
  have hxc := hx.cells
  have hxl := hxc.length
  have hl' : x'.cells.toList.length = n := by rw [hxl]; simpa using hl
  rw [ha.unptr]
  refine ⟨w.setRow (ρ b).1 (⟨(c' ++ rest).take o ++ x'.cells.toList ++ (c' ++ rest).drop (o + x'.cells.toList.length)⟩), ρ, ?_, ?_⟩
  · unfold Instr.storeAt Instr.sureAddr storeVar
    have hsz : x'.cells.size = n := by simpa using hl'
    have hrun := run_storeCells_any P (ρ b).1 o e fr x'.cells.toList 0 ⟨c' ++ rest⟩ w h2 (by simpa using h5) (by simp at h8 hxl ⊢; omega) (fun y hy => by rw [← flat_one]; exact hxc.flats ((flats_iff _).1 hf) y hy)
    simp only [Sem.run_bind, Sem.run_pure, Result.andThen_ok, run_sizeOf hE hn, hsz, ne_eq, not_true, if_false, ite_false]
    simpa using hrun
  · have hlen : (c' ++ rest).take o ++ x'.cells.toList ++ (c' ++ rest).drop (o + x'.cells.toList.length) = (c'.take o ++ x'.cells.toList ++ c'.drop (o + x'.cells.toList.length)) ++ rest := by
      rw [List.take_append_of_le_length (by omega), List.drop_append_of_le_length (by omega)]
      simp
    refine Good.write (o := .cells c e u) (o' := .cells cs e u) hp.st hp.above hX hg (fun c => by simp) (by simp) (put_in_wr _ b _) (setRow_heap w _ _ _ _ _ h2) ?_ (Fr.setRow w _ _)
    have h8' : o + x.cells.size ≤ c.length := by simpa using h8
    have hcl : cs.length = c.length := by rw [h9]; simp; omega
    refine ⟨c'.take o ++ x'.cells.toList ++ c'.drop (o + x'.cells.toList.length), rest, fr, by rw [hlen], ?_, ?_, ?_⟩
    · rw [h9, hxl]
      exact ((h3.take o).append hxc).append (h3.drop _)
    · rw [hcl]; exact h6
    · rw [hcl]; exact h7
end
end Go.Ev
