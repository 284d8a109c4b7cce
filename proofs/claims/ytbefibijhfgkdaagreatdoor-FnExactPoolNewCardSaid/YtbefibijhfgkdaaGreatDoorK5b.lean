/- A text of the closed facts about this program that the evaluator is run on. No condition. -/
import Derived.Test.YtbefibijhfgkdaaGreatDoorK4
namespace Go.Proofs.YtbefibijhfgkdaaGreatDoor
open Go Go.Ev
set_option maxRecDepth 100000
theorem ct69_46 : checkV env extN 1000000 [et135_47] 1000 et69_46 = true := by kernel_rfl
theorem ct249_687 : checkV env extN 1000000 [] 1000 et249_687 = true := by kernel_rfl
theorem ct249_786 : checkV env extN 1000000 [] 1000 et249_786 = true := by kernel_rfl
theorem ct14_855 : checkV env extN 1000000 [et81_891] 1000 et14_855 = true := by kernel_rfl
theorem ct86_1291 : checkV env extN 1000000 [] 1000 et86_1291 = true := by kernel_rfl
theorem ct97_1448 : checkV env extN 1000000 [] 1000 et97_1448 = true := by kernel_rfl
theorem ct5_653 : checkV env extN 1000000 [et229_686, et229_708, et142_777, et14_855, et210_1215, et86_1221, et210_1282, et86_1291, et210_1357, et86_1369, et210_1439, et97_1448, et86_1542, et210_1599, et86_1608] 1000 et5_653 = true := by kernel_rfl
theorem ct111_2480 : checkV env extN 1000000 [] 1000 et111_2480 = true := by kernel_rfl
theorem ct249_3062 : checkV env extN 1000000 [] 1000 et249_3062 = true := by kernel_rfl
theorem ct249_3161 : checkV env extN 1000000 [] 1000 et249_3161 = true := by kernel_rfl
theorem ct14_3230 : checkV env extN 1000000 [et81_3266] 1000 et14_3230 = true := by kernel_rfl
theorem ct86_3666 : checkV env extN 1000000 [] 1000 et86_3666 = true := by kernel_rfl
theorem ct97_3823 : checkV env extN 1000000 [] 1000 et97_3823 = true := by kernel_rfl
theorem ct5_3028 : checkV env extN 1000000 [et229_3061, et229_3083, et142_3152, et14_3230, et210_3590, et86_3596, et210_3657, et86_3666, et210_3732, et86_3744, et210_3814, et97_3823, et86_3917, et210_3974, et86_3983] 1000 et5_3028 = true := by kernel_rfl
theorem ct111_4186 : checkV env extN 1000000 [] 1000 et111_4186 = true := by kernel_rfl
theorem cf135_47 : checkV env extN 1000000 [] 1000 ef135_47 = true := by kernel_rfl
theorem cf249_685 : checkV env extN 1000000 [] 1000 ef249_685 = true := by kernel_rfl
theorem cf249_784 : checkV env extN 1000000 [] 1000 ef249_784 = true := by kernel_rfl
theorem cf14_853 : checkV env extN 1000000 [ef81_889] 1000 ef14_853 = true := by kernel_rfl
theorem cf86_1289 : checkV env extN 1000000 [] 1000 ef86_1289 = true := by kernel_rfl
theorem cf97_1446 : checkV env extN 1000000 [] 1000 ef97_1446 = true := by kernel_rfl
theorem cf45_1666 : checkV env extN 1000000 [] 1000 ef45_1666 = true := by kernel_rfl
theorem cf111_2636 : checkV env extN 1000000 [] 1000 ef111_2636 = true := by kernel_rfl
theorem cf229_3059 : checkV env extN 1000000 [ef249_3060] 1000 ef229_3059 = true := by kernel_rfl
theorem cf229_3158 : checkV env extN 1000000 [ef249_3159] 1000 ef229_3158 = true := by kernel_rfl
theorem cf210_3588 : checkV env extN 1000000 [] 1000 ef210_3588 = true := by kernel_rfl
theorem cf210_3730 : checkV env extN 1000000 [] 1000 ef210_3730 = true := by kernel_rfl
theorem cf86_3915 : checkV env extN 1000000 [] 1000 ef86_3915 = true := by kernel_rfl
theorem cf46_4049 : checkV env extN 1000000 [] 1000 ef46_4049 = true := by kernel_rfl
theorem cf111_4536 : checkV env extN 1000000 [] 1000 ef111_4536 = true := by kernel_rfl
end Go.Proofs.YtbefibijhfgkdaaGreatDoor
