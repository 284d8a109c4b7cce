/- A text of the closed facts about this program that the evaluator is run on. No condition. -/
import Derived.Test.YtolpljfjfgejeaaGreatDoorK2
import Derived.Test.YtolpljfjfgejeaaGreatDoorK5a
import Derived.Test.YtolpljfjfgejeaaGreatDoorK5b
import Derived.Test.YtolpljfjfgejeaaGreatDoorK5c
import Derived.Test.YtolpljfjfgejeaaGreatDoorK5d
namespace Go.Proofs.YtolpljfjfgejeaaGreatDoor
open Go Go.Ev
set_option maxRecDepth 100000
theorem tn {p : Ent → Prop} : ∀ e ∈ ([] : List Ent), p e := fun e h => (by cases h)
theorem tc {p : Ent → Prop} {a : Ent} {l : List Ent} (h : p a) (k : ∀ e ∈ l, p e) : ∀ e ∈ a :: l, p e := fun e he => by
  rcases List.mem_cons.1 he with rfl | he
  · exact h
  · exact k e he
theorem mixed : Tryz.prog.follows .mixedOrders = true := by kernel_rfl
theorem o31_28 : ∃ s1, EntOk Tryz.prog e31_28 s1 := check_ok envOk fnOk mixed 1000000 (tab := []) tn 1000 c31_28
theorem o10_17 : ∃ s1, EntOk Tryz.prog e10_17 s1 := check_ok envOk fnOk mixed 1000000 (tab := [e31_28]) (tc o31_28 tn) 1000 c10_17
theorem o31_125 : ∃ s1, EntOk Tryz.prog e31_125 s1 := check_ok envOk fnOk mixed 1000000 (tab := []) tn 1000 c31_125
theorem o60_143 : ∃ s1, EntOk Tryz.prog e60_143 s1 := check_ok envOk fnOk mixed 1000000 (tab := []) tn 1000 c60_143
theorem o38_457 : ∃ s1, EntOk Tryz.prog e38_457 s1 := check_ok envOk fnOk mixed 1000000 (tab := []) tn 1000 c38_457
theorem o16_124 : ∃ s1, EntOk Tryz.prog e16_124 s1 := check_ok envOk fnOk mixed 1000000 (tab := [e31_125, e60_143, e38_457]) (tc o31_125 (tc o60_143 (tc o38_457 tn))) 1000 c16_124
theorem o60_584 : ∃ s1, EntOk Tryz.prog e60_584 s1 := check_ok envOk fnOk mixed 1000000 (tab := []) tn 1000 c60_584
theorem o17_575 : ∃ s1, EntOk Tryz.prog e17_575 s1 := check_ok envOk fnOk mixed 1000000 (tab := [e60_584]) (tc o60_584 tn) 1000 c17_575
theorem o4_16 : ∃ s1, EntOk Tryz.prog e4_16 s1 := check_ok envOk fnOk mixed 1000000 (tab := [e10_17, e16_124, e17_575]) (tc o10_17 (tc o16_124 (tc o17_575 tn))) 1000 c4_16
theorem o72_909 : ∃ s1, EntOk Tryz.prog e72_909 s1 := check_ok envOk fnOk mixed 1000000 (tab := []) tn 1000 c72_909
theorem o75_931 : ∃ s1, EntOk Tryz.prog e75_931 s1 := check_ok envOk fnOk mixed 1000000 (tab := []) tn 1000 c75_931
theorem o75_1008 : ∃ s1, EntOk Tryz.prog e75_1008 s1 := check_ok envOk fnOk mixed 1000000 (tab := []) tn 1000 c75_1008
theorem o76_1004 : ∃ s1, EntOk Tryz.prog e76_1004 s1 := check_ok envOk fnOk mixed 1000000 (tab := [e75_1008]) (tc o75_1008 tn) 1000 c76_1004
theorem o44_904 : ∃ s1, EntOk Tryz.prog e44_904 s1 := check_ok envOk fnOk mixed 1000000 (tab := [e72_909, e75_931, e76_1004]) (tc o72_909 (tc o75_931 (tc o76_1004 tn))) 1000 c44_904
theorem o12_1082 : ∃ s1, EntOk Tryz.prog e12_1082 s1 := check_ok envOk fnOk mixed 1000000 (tab := []) tn 1000 c12_1082
theorem o5_894 : ∃ s1, EntOk Tryz.prog e5_894 s1 := check_ok envOk fnOk mixed 1000000 (tab := [e44_904, e12_1082]) (tc o44_904 (tc o12_1082 tn)) 1000 c5_894
theorem o72_1279 : ∃ s1, EntOk Tryz.prog e72_1279 s1 := check_ok envOk fnOk mixed 1000000 (tab := []) tn 1000 c72_1279
theorem o75_1301 : ∃ s1, EntOk Tryz.prog e75_1301 s1 := check_ok envOk fnOk mixed 1000000 (tab := []) tn 1000 c75_1301
theorem o75_1378 : ∃ s1, EntOk Tryz.prog e75_1378 s1 := check_ok envOk fnOk mixed 1000000 (tab := []) tn 1000 c75_1378
theorem o76_1374 : ∃ s1, EntOk Tryz.prog e76_1374 s1 := check_ok envOk fnOk mixed 1000000 (tab := [e75_1378]) (tc o75_1378 tn) 1000 c76_1374
theorem o44_1274 : ∃ s1, EntOk Tryz.prog e44_1274 s1 := check_ok envOk fnOk mixed 1000000 (tab := [e72_1279, e75_1301, e76_1374]) (tc o72_1279 (tc o75_1301 (tc o76_1374 tn))) 1000 c44_1274
theorem o12_1452 : ∃ s1, EntOk Tryz.prog e12_1452 s1 := check_ok envOk fnOk mixed 1000000 (tab := []) tn 1000 c12_1452
theorem o5_1264 : ∃ s1, EntOk Tryz.prog e5_1264 s1 := check_ok envOk fnOk mixed 1000000 (tab := [e44_1274, e12_1452]) (tc o44_1274 (tc o12_1452 tn)) 1000 c5_1264
def st0 : St := ⟨.nil, 16, 0, 0⟩
noncomputable def mainB : Bool := match callV env extN 1000000 [e4_16, e5_894, e5_1264] 1000 3 [] st0 with
  | some (.bool b, _) => b
  | _ => false
theorem mainB_true : mainB = true := by kernel_rfl
/-- THE LAW's WALK: in whatever world, it returns true, and all that lay lies as it did. -/
theorem law (w : World) : CallUp Tryz.prog 3 ⟨[]⟩ w fun v w' => v = .bool true ∧ Fr w w' fun _ => False := by
  have h := mainB_true
  unfold mainB at h
  split at h
  · rename_i b s hc
    subst h
    have hC := callV_ok envOk fnOk mixed 1000000 (tab := [e4_16, e5_894, e5_1264]) (tc o4_16 (tc o5_894 (tc o5_1264 tn))) 1000
    obtain ⟨hg, hk⟩ := hC _ _ _ _ _ hc
    have hst : ∀ b, st0.heap.get b = none := fun b => rfl
    have := hk (fun b => In s.acc b) (fun i => i < 16) (fun i => (i, 0)) w [] ⟨fun i hi => hi, fun b _ => hst b, fun b hb => hb, ⟨fun b o _ h => (by rw [hst] at h; cases h), fun b b' o o' _ _ h => (by rw [hst] at h; cases h)⟩⟩ (fun g hg => ⟨hg, rfl⟩) LR.nil
    refine this.mono fun v w' hp => ?_
    obtain ⟨ρ', hv, hG⟩ := hp
    refine ⟨hv.unbool, ⟨hG.frame.os, hG.frame.tape, hG.frame.output, hG.frame.size, fun r hr _ => hG.frame.block r hr ?_⟩⟩
    rintro ⟨b, o, _, _, h, _⟩
    rw [hst] at h; cases h
  · cases h
end Go.Proofs.YtolpljfjfgejeaaGreatDoor
