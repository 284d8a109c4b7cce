/- A text of the closed facts about this program that the evaluator is run on. No condition. -/
import Derived.Test.YtbefibijhfgkdaaGreatDoorK2
import Derived.Test.YtbefibijhfgkdaaGreatDoorK5a
import Derived.Test.YtbefibijhfgkdaaGreatDoorK5b
import Derived.Test.YtbefibijhfgkdaaGreatDoorK5c
import Derived.Test.YtbefibijhfgkdaaGreatDoorK5d
namespace Go.Proofs.YtbefibijhfgkdaaGreatDoor
open Go Go.Ev
set_option maxRecDepth 100000
theorem tn {p : Ent → Prop} : ∀ e ∈ ([] : List Ent), p e := fun e h => (by cases h)
theorem tc {p : Ent → Prop} {a : Ent} {l : List Ent} (h : p a) (k : ∀ e ∈ l, p e) : ∀ e ∈ a :: l, p e := fun e he => by
  rcases List.mem_cons.1 he with rfl | he
  · exact h
  · exact k e he
theorem mixed : Tryz.prog.follows .mixedOrders = true := by kernel_rfl
theorem ot135_47 : ∃ s1, EntOk Tryz.prog et135_47 s1 := check_ok envOk fnOk mixed 1000000 (tab := []) tn 1000 ct135_47
theorem ot69_46 : ∃ s1, EntOk Tryz.prog et69_46 s1 := check_ok envOk fnOk mixed 1000000 (tab := [et135_47]) (tc ot135_47 tn) 1000 ct69_46
theorem ot27_43 : ∃ s1, EntOk Tryz.prog et27_43 s1 := check_ok envOk fnOk mixed 1000000 (tab := [et69_46]) (tc ot69_46 tn) 1000 ct27_43
theorem ot62_303 : ∃ s1, EntOk Tryz.prog et62_303 s1 := check_ok envOk fnOk mixed 1000000 (tab := []) tn 1000 ct62_303
theorem ot4_16 : ∃ s1, EntOk Tryz.prog et4_16 s1 := check_ok envOk fnOk mixed 1000000 (tab := [et27_43, et62_303]) (tc ot27_43 (tc ot62_303 tn)) 1000 ct4_16
theorem ot249_687 : ∃ s1, EntOk Tryz.prog et249_687 s1 := check_ok envOk fnOk mixed 1000000 (tab := []) tn 1000 ct249_687
theorem ot229_686 : ∃ s1, EntOk Tryz.prog et229_686 s1 := check_ok envOk fnOk mixed 1000000 (tab := [et249_687]) (tc ot249_687 tn) 1000 ct229_686
theorem ot249_709 : ∃ s1, EntOk Tryz.prog et249_709 s1 := check_ok envOk fnOk mixed 1000000 (tab := []) tn 1000 ct249_709
theorem ot229_708 : ∃ s1, EntOk Tryz.prog et229_708 s1 := check_ok envOk fnOk mixed 1000000 (tab := [et249_709]) (tc ot249_709 tn) 1000 ct229_708
theorem ot249_786 : ∃ s1, EntOk Tryz.prog et249_786 s1 := check_ok envOk fnOk mixed 1000000 (tab := []) tn 1000 ct249_786
theorem ot229_785 : ∃ s1, EntOk Tryz.prog et229_785 s1 := check_ok envOk fnOk mixed 1000000 (tab := [et249_786]) (tc ot249_786 tn) 1000 ct229_785
theorem ot142_777 : ∃ s1, EntOk Tryz.prog et142_777 s1 := check_ok envOk fnOk mixed 1000000 (tab := [et229_785]) (tc ot229_785 tn) 1000 ct142_777
theorem ot81_891 : ∃ s1, EntOk Tryz.prog et81_891 s1 := check_ok envOk fnOk mixed 1000000 (tab := []) tn 1000 ct81_891
theorem ot14_855 : ∃ s1, EntOk Tryz.prog et14_855 s1 := check_ok envOk fnOk mixed 1000000 (tab := [et81_891]) (tc ot81_891 tn) 1000 ct14_855
theorem ot210_1215 : ∃ s1, EntOk Tryz.prog et210_1215 s1 := check_ok envOk fnOk mixed 1000000 (tab := []) tn 1000 ct210_1215
theorem ot86_1221 : ∃ s1, EntOk Tryz.prog et86_1221 s1 := check_ok envOk fnOk mixed 1000000 (tab := []) tn 1000 ct86_1221
theorem ot210_1282 : ∃ s1, EntOk Tryz.prog et210_1282 s1 := check_ok envOk fnOk mixed 1000000 (tab := []) tn 1000 ct210_1282
theorem ot86_1291 : ∃ s1, EntOk Tryz.prog et86_1291 s1 := check_ok envOk fnOk mixed 1000000 (tab := []) tn 1000 ct86_1291
theorem ot210_1357 : ∃ s1, EntOk Tryz.prog et210_1357 s1 := check_ok envOk fnOk mixed 1000000 (tab := []) tn 1000 ct210_1357
theorem ot86_1369 : ∃ s1, EntOk Tryz.prog et86_1369 s1 := check_ok envOk fnOk mixed 1000000 (tab := []) tn 1000 ct86_1369
theorem ot210_1439 : ∃ s1, EntOk Tryz.prog et210_1439 s1 := check_ok envOk fnOk mixed 1000000 (tab := []) tn 1000 ct210_1439
theorem ot97_1448 : ∃ s1, EntOk Tryz.prog et97_1448 s1 := check_ok envOk fnOk mixed 1000000 (tab := []) tn 1000 ct97_1448
theorem ot86_1542 : ∃ s1, EntOk Tryz.prog et86_1542 s1 := check_ok envOk fnOk mixed 1000000 (tab := []) tn 1000 ct86_1542
theorem ot210_1599 : ∃ s1, EntOk Tryz.prog et210_1599 s1 := check_ok envOk fnOk mixed 1000000 (tab := []) tn 1000 ct210_1599
theorem ot86_1608 : ∃ s1, EntOk Tryz.prog et86_1608 s1 := check_ok envOk fnOk mixed 1000000 (tab := []) tn 1000 ct86_1608
theorem ot5_653 : ∃ s1, EntOk Tryz.prog et5_653 s1 := check_ok envOk fnOk mixed 1000000 (tab := [et229_686, et229_708, et142_777, et14_855, et210_1215, et86_1221, et210_1282, et86_1291, et210_1357, et86_1369, et210_1439, et97_1448, et86_1542, et210_1599, et86_1608]) (tc ot229_686 (tc ot229_708 (tc ot142_777 (tc ot14_855 (tc ot210_1215 (tc ot86_1221 (tc ot210_1282 (tc ot86_1291 (tc ot210_1357 (tc ot86_1369 (tc ot210_1439 (tc ot97_1448 (tc ot86_1542 (tc ot210_1599 (tc ot86_1608 tn))))))))))))))) 1000 ct5_653
theorem ot45_1668 : ∃ s1, EntOk Tryz.prog et45_1668 s1 := check_ok envOk fnOk mixed 1000000 (tab := []) tn 1000 ct45_1668
theorem ot46_1676 : ∃ s1, EntOk Tryz.prog et46_1676 s1 := check_ok envOk fnOk mixed 1000000 (tab := []) tn 1000 ct46_1676
theorem ot111_2361 : ∃ s1, EntOk Tryz.prog et111_2361 s1 := check_ok envOk fnOk mixed 1000000 (tab := []) tn 1000 ct111_2361
theorem ot111_2480 : ∃ s1, EntOk Tryz.prog et111_2480 s1 := check_ok envOk fnOk mixed 1000000 (tab := []) tn 1000 ct111_2480
theorem ot111_2638 : ∃ s1, EntOk Tryz.prog et111_2638 s1 := check_ok envOk fnOk mixed 1000000 (tab := []) tn 1000 ct111_2638
theorem ot111_2832 : ∃ s1, EntOk Tryz.prog et111_2832 s1 := check_ok envOk fnOk mixed 1000000 (tab := []) tn 1000 ct111_2832
theorem ot21_2830 : ∃ s1, EntOk Tryz.prog et21_2830 s1 := check_ok envOk fnOk mixed 1000000 (tab := [et111_2832]) (tc ot111_2832 tn) 1000 ct21_2830
theorem ot249_3062 : ∃ s1, EntOk Tryz.prog et249_3062 s1 := check_ok envOk fnOk mixed 1000000 (tab := []) tn 1000 ct249_3062
theorem ot229_3061 : ∃ s1, EntOk Tryz.prog et229_3061 s1 := check_ok envOk fnOk mixed 1000000 (tab := [et249_3062]) (tc ot249_3062 tn) 1000 ct229_3061
theorem ot249_3084 : ∃ s1, EntOk Tryz.prog et249_3084 s1 := check_ok envOk fnOk mixed 1000000 (tab := []) tn 1000 ct249_3084
theorem ot229_3083 : ∃ s1, EntOk Tryz.prog et229_3083 s1 := check_ok envOk fnOk mixed 1000000 (tab := [et249_3084]) (tc ot249_3084 tn) 1000 ct229_3083
theorem ot249_3161 : ∃ s1, EntOk Tryz.prog et249_3161 s1 := check_ok envOk fnOk mixed 1000000 (tab := []) tn 1000 ct249_3161
theorem ot229_3160 : ∃ s1, EntOk Tryz.prog et229_3160 s1 := check_ok envOk fnOk mixed 1000000 (tab := [et249_3161]) (tc ot249_3161 tn) 1000 ct229_3160
theorem ot142_3152 : ∃ s1, EntOk Tryz.prog et142_3152 s1 := check_ok envOk fnOk mixed 1000000 (tab := [et229_3160]) (tc ot229_3160 tn) 1000 ct142_3152
theorem ot81_3266 : ∃ s1, EntOk Tryz.prog et81_3266 s1 := check_ok envOk fnOk mixed 1000000 (tab := []) tn 1000 ct81_3266
theorem ot14_3230 : ∃ s1, EntOk Tryz.prog et14_3230 s1 := check_ok envOk fnOk mixed 1000000 (tab := [et81_3266]) (tc ot81_3266 tn) 1000 ct14_3230
theorem ot210_3590 : ∃ s1, EntOk Tryz.prog et210_3590 s1 := check_ok envOk fnOk mixed 1000000 (tab := []) tn 1000 ct210_3590
theorem ot86_3596 : ∃ s1, EntOk Tryz.prog et86_3596 s1 := check_ok envOk fnOk mixed 1000000 (tab := []) tn 1000 ct86_3596
theorem ot210_3657 : ∃ s1, EntOk Tryz.prog et210_3657 s1 := check_ok envOk fnOk mixed 1000000 (tab := []) tn 1000 ct210_3657
theorem ot86_3666 : ∃ s1, EntOk Tryz.prog et86_3666 s1 := check_ok envOk fnOk mixed 1000000 (tab := []) tn 1000 ct86_3666
theorem ot210_3732 : ∃ s1, EntOk Tryz.prog et210_3732 s1 := check_ok envOk fnOk mixed 1000000 (tab := []) tn 1000 ct210_3732
theorem ot86_3744 : ∃ s1, EntOk Tryz.prog et86_3744 s1 := check_ok envOk fnOk mixed 1000000 (tab := []) tn 1000 ct86_3744
theorem ot210_3814 : ∃ s1, EntOk Tryz.prog et210_3814 s1 := check_ok envOk fnOk mixed 1000000 (tab := []) tn 1000 ct210_3814
theorem ot97_3823 : ∃ s1, EntOk Tryz.prog et97_3823 s1 := check_ok envOk fnOk mixed 1000000 (tab := []) tn 1000 ct97_3823
theorem ot86_3917 : ∃ s1, EntOk Tryz.prog et86_3917 s1 := check_ok envOk fnOk mixed 1000000 (tab := []) tn 1000 ct86_3917
theorem ot210_3974 : ∃ s1, EntOk Tryz.prog et210_3974 s1 := check_ok envOk fnOk mixed 1000000 (tab := []) tn 1000 ct210_3974
theorem ot86_3983 : ∃ s1, EntOk Tryz.prog et86_3983 s1 := check_ok envOk fnOk mixed 1000000 (tab := []) tn 1000 ct86_3983
theorem ot5_3028 : ∃ s1, EntOk Tryz.prog et5_3028 s1 := check_ok envOk fnOk mixed 1000000 (tab := [et229_3061, et229_3083, et142_3152, et14_3230, et210_3590, et86_3596, et210_3657, et86_3666, et210_3732, et86_3744, et210_3814, et97_3823, et86_3917, et210_3974, et86_3983]) (tc ot229_3061 (tc ot229_3083 (tc ot142_3152 (tc ot14_3230 (tc ot210_3590 (tc ot86_3596 (tc ot210_3657 (tc ot86_3666 (tc ot210_3732 (tc ot86_3744 (tc ot210_3814 (tc ot97_3823 (tc ot86_3917 (tc ot210_3974 (tc ot86_3983 tn))))))))))))))) 1000 ct5_3028
theorem ot45_4043 : ∃ s1, EntOk Tryz.prog et45_4043 s1 := check_ok envOk fnOk mixed 1000000 (tab := []) tn 1000 ct45_4043
theorem ot46_4051 : ∃ s1, EntOk Tryz.prog et46_4051 s1 := check_ok envOk fnOk mixed 1000000 (tab := []) tn 1000 ct46_4051
theorem ot111_4067 : ∃ s1, EntOk Tryz.prog et111_4067 s1 := check_ok envOk fnOk mixed 1000000 (tab := []) tn 1000 ct111_4067
theorem ot111_4186 : ∃ s1, EntOk Tryz.prog et111_4186 s1 := check_ok envOk fnOk mixed 1000000 (tab := []) tn 1000 ct111_4186
theorem ot111_4344 : ∃ s1, EntOk Tryz.prog et111_4344 s1 := check_ok envOk fnOk mixed 1000000 (tab := []) tn 1000 ct111_4344
theorem ot111_4538 : ∃ s1, EntOk Tryz.prog et111_4538 s1 := check_ok envOk fnOk mixed 1000000 (tab := []) tn 1000 ct111_4538
theorem ot21_4536 : ∃ s1, EntOk Tryz.prog et21_4536 s1 := check_ok envOk fnOk mixed 1000000 (tab := [et111_4538]) (tc ot111_4538 tn) 1000 ct21_4536
theorem of135_47 : ∃ s1, EntOk Tryz.prog ef135_47 s1 := check_ok envOk fnOk mixed 1000000 (tab := []) tn 1000 cf135_47
theorem of69_46 : ∃ s1, EntOk Tryz.prog ef69_46 s1 := check_ok envOk fnOk mixed 1000000 (tab := [ef135_47]) (tc of135_47 tn) 1000 cf69_46
theorem of62_301 : ∃ s1, EntOk Tryz.prog ef62_301 s1 := check_ok envOk fnOk mixed 1000000 (tab := []) tn 1000 cf62_301
theorem of4_16 : ∃ s1, EntOk Tryz.prog ef4_16 s1 := check_ok envOk fnOk mixed 1000000 (tab := [ef69_46, ef62_301]) (tc of69_46 (tc of62_301 tn)) 1000 cf4_16
theorem of249_685 : ∃ s1, EntOk Tryz.prog ef249_685 s1 := check_ok envOk fnOk mixed 1000000 (tab := []) tn 1000 cf249_685
theorem of229_684 : ∃ s1, EntOk Tryz.prog ef229_684 s1 := check_ok envOk fnOk mixed 1000000 (tab := [ef249_685]) (tc of249_685 tn) 1000 cf229_684
theorem of249_707 : ∃ s1, EntOk Tryz.prog ef249_707 s1 := check_ok envOk fnOk mixed 1000000 (tab := []) tn 1000 cf249_707
theorem of229_706 : ∃ s1, EntOk Tryz.prog ef229_706 s1 := check_ok envOk fnOk mixed 1000000 (tab := [ef249_707]) (tc of249_707 tn) 1000 cf229_706
theorem of249_784 : ∃ s1, EntOk Tryz.prog ef249_784 s1 := check_ok envOk fnOk mixed 1000000 (tab := []) tn 1000 cf249_784
theorem of229_783 : ∃ s1, EntOk Tryz.prog ef229_783 s1 := check_ok envOk fnOk mixed 1000000 (tab := [ef249_784]) (tc of249_784 tn) 1000 cf229_783
theorem of72_675 : ∃ s1, EntOk Tryz.prog ef72_675 s1 := check_ok envOk fnOk mixed 1000000 (tab := [ef229_684, ef229_706, ef229_783]) (tc of229_684 (tc of229_706 (tc of229_783 tn))) 1000 cf72_675
theorem of81_889 : ∃ s1, EntOk Tryz.prog ef81_889 s1 := check_ok envOk fnOk mixed 1000000 (tab := []) tn 1000 cf81_889
theorem of14_853 : ∃ s1, EntOk Tryz.prog ef14_853 s1 := check_ok envOk fnOk mixed 1000000 (tab := [ef81_889]) (tc of81_889 tn) 1000 cf14_853
theorem of210_1213 : ∃ s1, EntOk Tryz.prog ef210_1213 s1 := check_ok envOk fnOk mixed 1000000 (tab := []) tn 1000 cf210_1213
theorem of86_1219 : ∃ s1, EntOk Tryz.prog ef86_1219 s1 := check_ok envOk fnOk mixed 1000000 (tab := []) tn 1000 cf86_1219
theorem of210_1280 : ∃ s1, EntOk Tryz.prog ef210_1280 s1 := check_ok envOk fnOk mixed 1000000 (tab := []) tn 1000 cf210_1280
theorem of86_1289 : ∃ s1, EntOk Tryz.prog ef86_1289 s1 := check_ok envOk fnOk mixed 1000000 (tab := []) tn 1000 cf86_1289
theorem of210_1355 : ∃ s1, EntOk Tryz.prog ef210_1355 s1 := check_ok envOk fnOk mixed 1000000 (tab := []) tn 1000 cf210_1355
theorem of86_1367 : ∃ s1, EntOk Tryz.prog ef86_1367 s1 := check_ok envOk fnOk mixed 1000000 (tab := []) tn 1000 cf86_1367
theorem of210_1437 : ∃ s1, EntOk Tryz.prog ef210_1437 s1 := check_ok envOk fnOk mixed 1000000 (tab := []) tn 1000 cf210_1437
theorem of97_1446 : ∃ s1, EntOk Tryz.prog ef97_1446 s1 := check_ok envOk fnOk mixed 1000000 (tab := []) tn 1000 cf97_1446
theorem of86_1540 : ∃ s1, EntOk Tryz.prog ef86_1540 s1 := check_ok envOk fnOk mixed 1000000 (tab := []) tn 1000 cf86_1540
theorem of210_1597 : ∃ s1, EntOk Tryz.prog ef210_1597 s1 := check_ok envOk fnOk mixed 1000000 (tab := []) tn 1000 cf210_1597
theorem of86_1606 : ∃ s1, EntOk Tryz.prog ef86_1606 s1 := check_ok envOk fnOk mixed 1000000 (tab := []) tn 1000 cf86_1606
theorem of45_1666 : ∃ s1, EntOk Tryz.prog ef45_1666 s1 := check_ok envOk fnOk mixed 1000000 (tab := []) tn 1000 cf45_1666
theorem of46_1674 : ∃ s1, EntOk Tryz.prog ef46_1674 s1 := check_ok envOk fnOk mixed 1000000 (tab := []) tn 1000 cf46_1674
theorem of111_2359 : ∃ s1, EntOk Tryz.prog ef111_2359 s1 := check_ok envOk fnOk mixed 1000000 (tab := []) tn 1000 cf111_2359
theorem of111_2478 : ∃ s1, EntOk Tryz.prog ef111_2478 s1 := check_ok envOk fnOk mixed 1000000 (tab := []) tn 1000 cf111_2478
theorem of111_2636 : ∃ s1, EntOk Tryz.prog ef111_2636 s1 := check_ok envOk fnOk mixed 1000000 (tab := []) tn 1000 cf111_2636
theorem of111_2830 : ∃ s1, EntOk Tryz.prog ef111_2830 s1 := check_ok envOk fnOk mixed 1000000 (tab := []) tn 1000 cf111_2830
theorem of21_2828 : ∃ s1, EntOk Tryz.prog ef21_2828 s1 := check_ok envOk fnOk mixed 1000000 (tab := [ef111_2830]) (tc of111_2830 tn) 1000 cf21_2828
theorem of249_3060 : ∃ s1, EntOk Tryz.prog ef249_3060 s1 := check_ok envOk fnOk mixed 1000000 (tab := []) tn 1000 cf249_3060
theorem of229_3059 : ∃ s1, EntOk Tryz.prog ef229_3059 s1 := check_ok envOk fnOk mixed 1000000 (tab := [ef249_3060]) (tc of249_3060 tn) 1000 cf229_3059
theorem of249_3082 : ∃ s1, EntOk Tryz.prog ef249_3082 s1 := check_ok envOk fnOk mixed 1000000 (tab := []) tn 1000 cf249_3082
theorem of229_3081 : ∃ s1, EntOk Tryz.prog ef229_3081 s1 := check_ok envOk fnOk mixed 1000000 (tab := [ef249_3082]) (tc of249_3082 tn) 1000 cf229_3081
theorem of249_3159 : ∃ s1, EntOk Tryz.prog ef249_3159 s1 := check_ok envOk fnOk mixed 1000000 (tab := []) tn 1000 cf249_3159
theorem of229_3158 : ∃ s1, EntOk Tryz.prog ef229_3158 s1 := check_ok envOk fnOk mixed 1000000 (tab := [ef249_3159]) (tc of249_3159 tn) 1000 cf229_3158
theorem of72_3050 : ∃ s1, EntOk Tryz.prog ef72_3050 s1 := check_ok envOk fnOk mixed 1000000 (tab := [ef229_3059, ef229_3081, ef229_3158]) (tc of229_3059 (tc of229_3081 (tc of229_3158 tn))) 1000 cf72_3050
theorem of81_3264 : ∃ s1, EntOk Tryz.prog ef81_3264 s1 := check_ok envOk fnOk mixed 1000000 (tab := []) tn 1000 cf81_3264
theorem of14_3228 : ∃ s1, EntOk Tryz.prog ef14_3228 s1 := check_ok envOk fnOk mixed 1000000 (tab := [ef81_3264]) (tc of81_3264 tn) 1000 cf14_3228
theorem of210_3588 : ∃ s1, EntOk Tryz.prog ef210_3588 s1 := check_ok envOk fnOk mixed 1000000 (tab := []) tn 1000 cf210_3588
theorem of86_3594 : ∃ s1, EntOk Tryz.prog ef86_3594 s1 := check_ok envOk fnOk mixed 1000000 (tab := []) tn 1000 cf86_3594
theorem of210_3655 : ∃ s1, EntOk Tryz.prog ef210_3655 s1 := check_ok envOk fnOk mixed 1000000 (tab := []) tn 1000 cf210_3655
theorem of86_3664 : ∃ s1, EntOk Tryz.prog ef86_3664 s1 := check_ok envOk fnOk mixed 1000000 (tab := []) tn 1000 cf86_3664
theorem of210_3730 : ∃ s1, EntOk Tryz.prog ef210_3730 s1 := check_ok envOk fnOk mixed 1000000 (tab := []) tn 1000 cf210_3730
theorem of86_3742 : ∃ s1, EntOk Tryz.prog ef86_3742 s1 := check_ok envOk fnOk mixed 1000000 (tab := []) tn 1000 cf86_3742
theorem of210_3812 : ∃ s1, EntOk Tryz.prog ef210_3812 s1 := check_ok envOk fnOk mixed 1000000 (tab := []) tn 1000 cf210_3812
theorem of97_3821 : ∃ s1, EntOk Tryz.prog ef97_3821 s1 := check_ok envOk fnOk mixed 1000000 (tab := []) tn 1000 cf97_3821
theorem of86_3915 : ∃ s1, EntOk Tryz.prog ef86_3915 s1 := check_ok envOk fnOk mixed 1000000 (tab := []) tn 1000 cf86_3915
theorem of210_3972 : ∃ s1, EntOk Tryz.prog ef210_3972 s1 := check_ok envOk fnOk mixed 1000000 (tab := []) tn 1000 cf210_3972
theorem of86_3981 : ∃ s1, EntOk Tryz.prog ef86_3981 s1 := check_ok envOk fnOk mixed 1000000 (tab := []) tn 1000 cf86_3981
theorem of45_4041 : ∃ s1, EntOk Tryz.prog ef45_4041 s1 := check_ok envOk fnOk mixed 1000000 (tab := []) tn 1000 cf45_4041
theorem of46_4049 : ∃ s1, EntOk Tryz.prog ef46_4049 s1 := check_ok envOk fnOk mixed 1000000 (tab := []) tn 1000 cf46_4049
theorem of111_4065 : ∃ s1, EntOk Tryz.prog ef111_4065 s1 := check_ok envOk fnOk mixed 1000000 (tab := []) tn 1000 cf111_4065
theorem of111_4184 : ∃ s1, EntOk Tryz.prog ef111_4184 s1 := check_ok envOk fnOk mixed 1000000 (tab := []) tn 1000 cf111_4184
theorem of111_4342 : ∃ s1, EntOk Tryz.prog ef111_4342 s1 := check_ok envOk fnOk mixed 1000000 (tab := []) tn 1000 cf111_4342
theorem of111_4536 : ∃ s1, EntOk Tryz.prog ef111_4536 s1 := check_ok envOk fnOk mixed 1000000 (tab := []) tn 1000 cf111_4536
theorem of21_4534 : ∃ s1, EntOk Tryz.prog ef21_4534 s1 := check_ok envOk fnOk mixed 1000000 (tab := [ef111_4536]) (tc of111_4536 tn) 1000 cf21_4534
abbrev maint : List Ent := [et4_16, et5_653, et45_1668, et46_1676, et111_2361, et111_2480, et111_2638, et21_2830, et5_3028, et45_4043, et46_4051, et111_4067, et111_4186, et111_4344, et21_4536]
theorem mainOkt : ∀ e ∈ maint, ∃ s1, EntOk Tryz.prog e s1 := (tc ot4_16 (tc ot5_653 (tc ot45_1668 (tc ot46_1676 (tc ot111_2361 (tc ot111_2480 (tc ot111_2638 (tc ot21_2830 (tc ot5_3028 (tc ot45_4043 (tc ot46_4051 (tc ot111_4067 (tc ot111_4186 (tc ot111_4344 (tc ot21_4536 tn)))))))))))))))
abbrev mainf : List Ent := [ef4_16, ef72_675, ef14_853, ef210_1213, ef86_1219, ef210_1280, ef86_1289, ef210_1355, ef86_1367, ef210_1437, ef97_1446, ef86_1540, ef210_1597, ef86_1606, ef45_1666, ef46_1674, ef111_2359, ef111_2478, ef111_2636, ef21_2828, ef72_3050, ef14_3228, ef210_3588, ef86_3594, ef210_3655, ef86_3664, ef210_3730, ef86_3742, ef210_3812, ef97_3821, ef86_3915, ef210_3972, ef86_3981, ef45_4041, ef46_4049, ef111_4065, ef111_4184, ef111_4342, ef21_4534]
theorem mainOkf : ∀ e ∈ mainf, ∃ s1, EntOk Tryz.prog e s1 := (tc of4_16 (tc of72_675 (tc of14_853 (tc of210_1213 (tc of86_1219 (tc of210_1280 (tc of86_1289 (tc of210_1355 (tc of86_1367 (tc of210_1437 (tc of97_1446 (tc of86_1540 (tc of210_1597 (tc of86_1606 (tc of45_1666 (tc of46_1674 (tc of111_2359 (tc of111_2478 (tc of111_2636 (tc of21_2828 (tc of72_3050 (tc of14_3228 (tc of210_3588 (tc of86_3594 (tc of210_3655 (tc of86_3664 (tc of210_3730 (tc of86_3742 (tc of210_3812 (tc of97_3821 (tc of86_3915 (tc of210_3972 (tc of86_3981 (tc of45_4041 (tc of46_4049 (tc of111_4065 (tc of111_4184 (tc of111_4342 (tc of21_4534 tn)))))))))))))))))))))))))))))))))))))))
end Go.Proofs.YtbefibijhfgkdaaGreatDoor
