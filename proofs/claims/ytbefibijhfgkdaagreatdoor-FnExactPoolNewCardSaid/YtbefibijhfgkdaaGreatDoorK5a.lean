/- A text of the closed facts about this program that the evaluator is run on. No condition. -/
import Derived.Test.YtbefibijhfgkdaaGreatDoorK4
namespace Go.Proofs.YtbefibijhfgkdaaGreatDoor
open Go Go.Ev
set_option maxRecDepth 100000
theorem ct135_47 : checkV env extN 1000000 [] 1000 et135_47 = true := by kernel_rfl
theorem ct4_16 : checkV env extN 1000000 [et27_43, et62_303] 1000 et4_16 = true := by kernel_rfl
theorem ct229_708 : checkV env extN 1000000 [et249_709] 1000 et229_708 = true := by kernel_rfl
theorem ct81_891 : checkV env extN 1000000 [] 1000 et81_891 = true := by kernel_rfl
theorem ct210_1282 : checkV env extN 1000000 [] 1000 et210_1282 = true := by kernel_rfl
theorem ct210_1439 : checkV env extN 1000000 [] 1000 et210_1439 = true := by kernel_rfl
theorem ct86_1608 : checkV env extN 1000000 [] 1000 et86_1608 = true := by kernel_rfl
theorem ct111_2361 : checkV env extN 1000000 [] 1000 et111_2361 = true := by kernel_rfl
theorem ct21_2830 : checkV env extN 1000000 [et111_2832] 1000 et21_2830 = true := by kernel_rfl
theorem ct229_3083 : checkV env extN 1000000 [et249_3084] 1000 et229_3083 = true := by kernel_rfl
theorem ct81_3266 : checkV env extN 1000000 [] 1000 et81_3266 = true := by kernel_rfl
theorem ct210_3657 : checkV env extN 1000000 [] 1000 et210_3657 = true := by kernel_rfl
theorem ct210_3814 : checkV env extN 1000000 [] 1000 et210_3814 = true := by kernel_rfl
theorem ct86_3983 : checkV env extN 1000000 [] 1000 et86_3983 = true := by kernel_rfl
theorem ct111_4067 : checkV env extN 1000000 [] 1000 et111_4067 = true := by kernel_rfl
theorem ct21_4536 : checkV env extN 1000000 [et111_4538] 1000 et21_4536 = true := by kernel_rfl
theorem cf4_16 : checkV env extN 1000000 [ef69_46, ef62_301] 1000 ef4_16 = true := by kernel_rfl
theorem cf229_706 : checkV env extN 1000000 [ef249_707] 1000 ef229_706 = true := by kernel_rfl
theorem cf81_889 : checkV env extN 1000000 [] 1000 ef81_889 = true := by kernel_rfl
theorem cf210_1280 : checkV env extN 1000000 [] 1000 ef210_1280 = true := by kernel_rfl
theorem cf210_1437 : checkV env extN 1000000 [] 1000 ef210_1437 = true := by kernel_rfl
theorem cf86_1606 : checkV env extN 1000000 [] 1000 ef86_1606 = true := by kernel_rfl
theorem cf111_2478 : checkV env extN 1000000 [] 1000 ef111_2478 = true := by kernel_rfl
theorem cf249_3060 : checkV env extN 1000000 [] 1000 ef249_3060 = true := by kernel_rfl
theorem cf249_3159 : checkV env extN 1000000 [] 1000 ef249_3159 = true := by kernel_rfl
theorem cf14_3228 : checkV env extN 1000000 [ef81_3264] 1000 ef14_3228 = true := by kernel_rfl
theorem cf86_3664 : checkV env extN 1000000 [] 1000 ef86_3664 = true := by kernel_rfl
theorem cf97_3821 : checkV env extN 1000000 [] 1000 ef97_3821 = true := by kernel_rfl
theorem cf45_4041 : checkV env extN 1000000 [] 1000 ef45_4041 = true := by kernel_rfl
theorem cf111_4342 : checkV env extN 1000000 [] 1000 ef111_4342 = true := by kernel_rfl
end Go.Proofs.YtbefibijhfgkdaaGreatDoor
