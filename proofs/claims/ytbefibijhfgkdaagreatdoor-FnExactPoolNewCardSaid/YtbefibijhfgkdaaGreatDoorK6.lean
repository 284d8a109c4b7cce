/- A text of the closed facts about this program that the evaluator is run on. No condition. -/
import Derived.Test.YtbefibijhfgkdaaGreatDoorK6t
import Derived.Test.YtbefibijhfgkdaaGreatDoorK6f
namespace Go.Proofs.YtbefibijhfgkdaaGreatDoor
open Go Go.Ev
set_option maxRecDepth 100000
set_option linter.unusedVariables false
set_option linter.unusedSimpArgs false
theorem st0_get (b : Nat) : st0.heap.get b = if b = 0 then some (.glob powC) else none := by
  show (T.node (some (AObj.glob powC)) .nil .nil).get b = _
  rw [T.get_node]
  split
  · rfl
  · split <;> exact T.get_nil _
/-- THE LAW's WALK: in whatever world in which the table lies, it returns true, and all that lay lies as it did. -/
theorem law (w : World) (a : Bool) (hw : ∃ rest t fr, w.heap[0]? = some (.cells ⟨powC ++ rest⟩ t fr)) : CallUp Tryz.prog 3 ⟨[.bool a]⟩ w fun v w' => v = .bool true ∧ Fr w w' fun _ => False := by
  have key : ∀ (tab : List Ent), (∀ e ∈ tab, ∃ s1, EntOk Tryz.prog e s1) → boolOf (callV env extN 1000000 tab 1000 3 [.bool a] st0) = true → CallUp Tryz.prog 3 ⟨[.bool a]⟩ w fun v w' => v = .bool true ∧ Fr w w' fun _ => False := by
    intro tab hT h
    unfold boolOf at h
    split at h
    · rename_i b s hc
      rw [bo_eq] at h
      split at h
      · rename_i hb
        subst hb
        have hC := callV_ok envOk fnOk mixed 1000000 (tab := tab) hT 1000
        obtain ⟨hgr, hk⟩ := hC _ _ _ _ _ hc
        have hst : StateR Tryz.prog (fun b => In s.acc b) (fun i => i < 16) (fun i => (i, 0)) st0.heap.get w := by
          refine ⟨fun b o _ h => ?_, fun b b' o o' _ _ h h' _ => ?_⟩
          · rw [st0_get] at h
            split at h
            · rename_i h0
              subst h0
              have := Option.some.inj h; subst this
              obtain ⟨rest, t, fr, h1⟩ := hw
              exact ⟨by decide, _, h1, powC, rest, t, fr, rfl, fun ρ' _ => by simp [powC]⟩
            · cases h
          · rw [st0_get] at h h'
            split at h
            · split at h'
              · omega
              · cases h'
            · cases h
        have habove : ∀ b, st0.next ≤ b → st0.heap.get b = none := fun b hb => by
          rw [st0_get, if_neg]
          have : (16 : Nat) ≤ b := hb
          omega
        have := hk (fun b => In s.acc b) (fun i => i < 16) (fun i => (i, 0)) w [.bool a] ⟨fun i hi => hi, habove, fun b hb => hb, hst⟩ (fun g hg => ⟨hg, rfl⟩) (LR.cons (VR.bool a) LR.nil)
        refine this.mono fun v w' hp => ?_
        obtain ⟨ρ', hv, hG⟩ := hp
        refine ⟨hv.unbool, ⟨hG.frame.os, hG.frame.tape, hG.frame.output, hG.frame.size, fun r hr _ => hG.frame.block r hr ?_⟩⟩
        rintro ⟨b, o, hw2, _, h2, _⟩
        rw [st0_get] at h2
        split at h2
        · rename_i h0
          subst h0
          have hw3 : s.wr.testBit 0 = true := hw2
          rw [hw3] at h
          cases h
        · cases h2
      · cases h
    · cases h
  cases a with
  | true => exact key maint mainOkt main_t
  | false => exact key mainf mainOkf main_f
end Go.Proofs.YtbefibijhfgkdaaGreatDoor
