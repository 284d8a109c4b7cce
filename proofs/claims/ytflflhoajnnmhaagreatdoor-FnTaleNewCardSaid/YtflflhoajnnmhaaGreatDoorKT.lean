/- A text of the closed facts about this program that the evaluator is run on. No condition. -/
import Derived.Test.YtflflhoajnnmhaaGreatDoorK2
import Derived.Test.YtflflhoajnnmhaaGreatDoorK5a
import Derived.Test.YtflflhoajnnmhaaGreatDoorK5b
import Derived.Test.YtflflhoajnnmhaaGreatDoorK5c
import Derived.Test.YtflflhoajnnmhaaGreatDoorK5d
namespace Go.Proofs.YtflflhoajnnmhaaGreatDoor
open Go Go.Ev
set_option maxRecDepth 100000
theorem tn {p : Ent → Prop} : ∀ e ∈ ([] : List Ent), p e := fun e h => (by cases h)
theorem tc {p : Ent → Prop} {a : Ent} {l : List Ent} (h : p a) (k : ∀ e ∈ l, p e) : ∀ e ∈ a :: l, p e := fun e he => by
  rcases List.mem_cons.1 he with rfl | he
  · exact h
  · exact k e he
theorem mixed : Tryz.prog.follows .mixedOrders = true := by kernel_rfl
theorem o58_37 : ∃ s1, EntOk Tryz.prog e58_37 s1 := check_ok envOk fnOk mixed 1000000 (tab := []) tn 1000 c58_37
theorem o27_36 : ∃ s1, EntOk Tryz.prog e27_36 s1 := check_ok envOk fnOk mixed 1000000 (tab := [e58_37]) (tc o58_37 tn) 1000 c27_36
theorem o58_59 : ∃ s1, EntOk Tryz.prog e58_59 s1 := check_ok envOk fnOk mixed 1000000 (tab := []) tn 1000 c58_59
theorem o27_58 : ∃ s1, EntOk Tryz.prog e27_58 s1 := check_ok envOk fnOk mixed 1000000 (tab := [e58_59]) (tc o58_59 tn) 1000 c27_58
theorem o58_136 : ∃ s1, EntOk Tryz.prog e58_136 s1 := check_ok envOk fnOk mixed 1000000 (tab := []) tn 1000 c58_136
theorem o27_135 : ∃ s1, EntOk Tryz.prog e27_135 s1 := check_ok envOk fnOk mixed 1000000 (tab := [e58_136]) (tc o58_136 tn) 1000 c27_135
theorem o121_233 : ∃ s1, EntOk Tryz.prog e121_233 s1 := check_ok envOk fnOk mixed 1000000 (tab := []) tn 1000 c121_233
theorem o4_17 : ∃ s1, EntOk Tryz.prog e4_17 s1 := check_ok envOk fnOk mixed 1000000 (tab := [e27_36, e27_58, e27_135, e121_233]) (tc o27_36 (tc o27_58 (tc o27_135 (tc o121_233 tn)))) 1000 c4_17
theorem o90_380 : ∃ s1, EntOk Tryz.prog e90_380 s1 := check_ok envOk fnOk mixed 1000000 (tab := []) tn 1000 c90_380
theorem o24_376 : ∃ s1, EntOk Tryz.prog e24_376 s1 := check_ok envOk fnOk mixed 1000000 (tab := [e90_380]) (tc o90_380 tn) 1000 c24_376
theorem o90_477 : ∃ s1, EntOk Tryz.prog e90_477 s1 := check_ok envOk fnOk mixed 1000000 (tab := []) tn 1000 c90_477
theorem o152_496 : ∃ s1, EntOk Tryz.prog e152_496 s1 := check_ok envOk fnOk mixed 1000000 (tab := []) tn 1000 c152_496
theorem o101_494 : ∃ s1, EntOk Tryz.prog e101_494 s1 := check_ok envOk fnOk mixed 1000000 (tab := [e152_496]) (tc o152_496 tn) 1000 c101_494
theorem o107_809 : ∃ s1, EntOk Tryz.prog e107_809 s1 := check_ok envOk fnOk mixed 1000000 (tab := []) tn 1000 c107_809
theorem o22_475 : ∃ s1, EntOk Tryz.prog e22_475 s1 := check_ok envOk fnOk mixed 1000000 (tab := [e90_477, e101_494, e107_809]) (tc o90_477 (tc o101_494 (tc o107_809 tn))) 1000 c22_475
theorem o152_937 : ∃ s1, EntOk Tryz.prog e152_937 s1 := check_ok envOk fnOk mixed 1000000 (tab := []) tn 1000 c152_937
theorem o101_935 : ∃ s1, EntOk Tryz.prog e101_935 s1 := check_ok envOk fnOk mixed 1000000 (tab := [e152_937]) (tc o152_937 tn) 1000 c101_935
theorem o23_926 : ∃ s1, EntOk Tryz.prog e23_926 s1 := check_ok envOk fnOk mixed 1000000 (tab := [e101_935]) (tc o101_935 tn) 1000 c23_926
theorem o58_1268 : ∃ s1, EntOk Tryz.prog e58_1268 s1 := check_ok envOk fnOk mixed 1000000 (tab := []) tn 1000 c58_1268
theorem o27_1267 : ∃ s1, EntOk Tryz.prog e27_1267 s1 := check_ok envOk fnOk mixed 1000000 (tab := [e58_1268]) (tc o58_1268 tn) 1000 c27_1267
theorem o58_1290 : ∃ s1, EntOk Tryz.prog e58_1290 s1 := check_ok envOk fnOk mixed 1000000 (tab := []) tn 1000 c58_1290
theorem o27_1289 : ∃ s1, EntOk Tryz.prog e27_1289 s1 := check_ok envOk fnOk mixed 1000000 (tab := [e58_1290]) (tc o58_1290 tn) 1000 c27_1289
theorem o58_1367 : ∃ s1, EntOk Tryz.prog e58_1367 s1 := check_ok envOk fnOk mixed 1000000 (tab := []) tn 1000 c58_1367
theorem o27_1366 : ∃ s1, EntOk Tryz.prog e27_1366 s1 := check_ok envOk fnOk mixed 1000000 (tab := [e58_1367]) (tc o58_1367 tn) 1000 c27_1366
theorem o39_1258 : ∃ s1, EntOk Tryz.prog e39_1258 s1 := check_ok envOk fnOk mixed 1000000 (tab := [e27_1267, e27_1289, e27_1366]) (tc o27_1267 (tc o27_1289 (tc o27_1366 tn))) 1000 c39_1258
theorem o58_1439 : ∃ s1, EntOk Tryz.prog e58_1439 s1 := check_ok envOk fnOk mixed 1000000 (tab := []) tn 1000 c58_1439
theorem o27_1438 : ∃ s1, EntOk Tryz.prog e27_1438 s1 := check_ok envOk fnOk mixed 1000000 (tab := [e58_1439]) (tc o58_1439 tn) 1000 c27_1438
theorem o121_1478 : ∃ s1, EntOk Tryz.prog e121_1478 s1 := check_ok envOk fnOk mixed 1000000 (tab := []) tn 1000 c121_1478
theorem o121_1627 : ∃ s1, EntOk Tryz.prog e121_1627 s1 := check_ok envOk fnOk mixed 1000000 (tab := []) tn 1000 c121_1627
theorem o31_1455 : ∃ s1, EntOk Tryz.prog e31_1455 s1 := check_ok envOk fnOk mixed 1000000 (tab := [e121_1478, e121_1627]) (tc o121_1478 (tc o121_1627 tn)) 1000 c31_1455
theorem o121_1774 : ∃ s1, EntOk Tryz.prog e121_1774 s1 := check_ok envOk fnOk mixed 1000000 (tab := []) tn 1000 c121_1774
theorem o14_1437 : ∃ s1, EntOk Tryz.prog e14_1437 s1 := check_ok envOk fnOk mixed 1000000 (tab := [e27_1438, e31_1455, e121_1774]) (tc o27_1438 (tc o31_1455 (tc o121_1774 tn))) 1000 c14_1437
theorem o121_1925 : ∃ s1, EntOk Tryz.prog e121_1925 s1 := check_ok envOk fnOk mixed 1000000 (tab := []) tn 1000 c121_1925
theorem o58_2078 : ∃ s1, EntOk Tryz.prog e58_2078 s1 := check_ok envOk fnOk mixed 1000000 (tab := []) tn 1000 c58_2078
theorem o27_2077 : ∃ s1, EntOk Tryz.prog e27_2077 s1 := check_ok envOk fnOk mixed 1000000 (tab := [e58_2078]) (tc o58_2078 tn) 1000 c27_2077
theorem o58_2100 : ∃ s1, EntOk Tryz.prog e58_2100 s1 := check_ok envOk fnOk mixed 1000000 (tab := []) tn 1000 c58_2100
theorem o27_2099 : ∃ s1, EntOk Tryz.prog e27_2099 s1 := check_ok envOk fnOk mixed 1000000 (tab := [e58_2100]) (tc o58_2100 tn) 1000 c27_2099
theorem o58_2177 : ∃ s1, EntOk Tryz.prog e58_2177 s1 := check_ok envOk fnOk mixed 1000000 (tab := []) tn 1000 c58_2177
theorem o27_2176 : ∃ s1, EntOk Tryz.prog e27_2176 s1 := check_ok envOk fnOk mixed 1000000 (tab := [e58_2177]) (tc o58_2177 tn) 1000 c27_2176
theorem o58_2249 : ∃ s1, EntOk Tryz.prog e58_2249 s1 := check_ok envOk fnOk mixed 1000000 (tab := []) tn 1000 c58_2249
theorem o27_2248 : ∃ s1, EntOk Tryz.prog e27_2248 s1 := check_ok envOk fnOk mixed 1000000 (tab := [e58_2249]) (tc o58_2249 tn) 1000 c27_2248
theorem o121_2288 : ∃ s1, EntOk Tryz.prog e121_2288 s1 := check_ok envOk fnOk mixed 1000000 (tab := []) tn 1000 c121_2288
theorem o121_2437 : ∃ s1, EntOk Tryz.prog e121_2437 s1 := check_ok envOk fnOk mixed 1000000 (tab := []) tn 1000 c121_2437
theorem o31_2265 : ∃ s1, EntOk Tryz.prog e31_2265 s1 := check_ok envOk fnOk mixed 1000000 (tab := [e121_2288, e121_2437]) (tc o121_2288 (tc o121_2437 tn)) 1000 c31_2265
theorem o121_2584 : ∃ s1, EntOk Tryz.prog e121_2584 s1 := check_ok envOk fnOk mixed 1000000 (tab := []) tn 1000 c121_2584
theorem o14_2247 : ∃ s1, EntOk Tryz.prog e14_2247 s1 := check_ok envOk fnOk mixed 1000000 (tab := [e27_2248, e31_2265, e121_2584]) (tc o27_2248 (tc o31_2265 (tc o121_2584 tn))) 1000 c14_2247
theorem o121_2735 : ∃ s1, EntOk Tryz.prog e121_2735 s1 := check_ok envOk fnOk mixed 1000000 (tab := []) tn 1000 c121_2735
abbrev main : List Ent := [e4_17, e24_376, e22_475, e23_926, e39_1258, e14_1437, e121_1925, e27_2077, e27_2099, e27_2176, e14_2247, e121_2735]
theorem mainOk : ∀ e ∈ main, ∃ s1, EntOk Tryz.prog e s1 := (tc o4_17 (tc o24_376 (tc o22_475 (tc o23_926 (tc o39_1258 (tc o14_1437 (tc o121_1925 (tc o27_2077 (tc o27_2099 (tc o27_2176 (tc o14_2247 (tc o121_2735 tn))))))))))))
end Go.Proofs.YtflflhoajnnmhaaGreatDoor
