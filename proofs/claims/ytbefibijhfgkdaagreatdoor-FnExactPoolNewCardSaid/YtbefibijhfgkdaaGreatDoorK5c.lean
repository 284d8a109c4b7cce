/- A text of the closed facts about this program that the evaluator is run on. No condition. -/
import Derived.Test.YtbefibijhfgkdaaGreatDoorK4
namespace Go.Proofs.YtbefibijhfgkdaaGreatDoor
open Go Go.Ev
set_option maxRecDepth 100000
theorem ct27_43 : checkV env extN 1000000 [et69_46] 1000 et27_43 = true := by kernel_rfl
theorem ct229_686 : checkV env extN 1000000 [et249_687] 1000 et229_686 = true := by kernel_rfl
theorem ct229_785 : checkV env extN 1000000 [et249_786] 1000 et229_785 = true := by kernel_rfl
theorem ct210_1215 : checkV env extN 1000000 [] 1000 et210_1215 = true := by kernel_rfl
theorem ct210_1357 : checkV env extN 1000000 [] 1000 et210_1357 = true := by kernel_rfl
theorem ct86_1542 : checkV env extN 1000000 [] 1000 et86_1542 = true := by kernel_rfl
theorem ct45_1668 : checkV env extN 1000000 [] 1000 et45_1668 = true := by kernel_rfl
theorem ct111_2638 : checkV env extN 1000000 [] 1000 et111_2638 = true := by kernel_rfl
theorem ct229_3061 : checkV env extN 1000000 [et249_3062] 1000 et229_3061 = true := by kernel_rfl
theorem ct229_3160 : checkV env extN 1000000 [et249_3161] 1000 et229_3160 = true := by kernel_rfl
theorem ct210_3590 : checkV env extN 1000000 [] 1000 et210_3590 = true := by kernel_rfl
theorem ct210_3732 : checkV env extN 1000000 [] 1000 et210_3732 = true := by kernel_rfl
theorem ct86_3917 : checkV env extN 1000000 [] 1000 et86_3917 = true := by kernel_rfl
theorem ct45_4043 : checkV env extN 1000000 [] 1000 et45_4043 = true := by kernel_rfl
theorem ct111_4344 : checkV env extN 1000000 [] 1000 et111_4344 = true := by kernel_rfl
theorem cf69_46 : checkV env extN 1000000 [ef135_47] 1000 ef69_46 = true := by kernel_rfl
theorem cf229_684 : checkV env extN 1000000 [ef249_685] 1000 ef229_684 = true := by kernel_rfl
theorem cf229_783 : checkV env extN 1000000 [ef249_784] 1000 ef229_783 = true := by kernel_rfl
theorem cf210_1213 : checkV env extN 1000000 [] 1000 ef210_1213 = true := by kernel_rfl
theorem cf210_1355 : checkV env extN 1000000 [] 1000 ef210_1355 = true := by kernel_rfl
theorem cf86_1540 : checkV env extN 1000000 [] 1000 ef86_1540 = true := by kernel_rfl
theorem cf46_1674 : checkV env extN 1000000 [] 1000 ef46_1674 = true := by kernel_rfl
theorem cf111_2830 : checkV env extN 1000000 [] 1000 ef111_2830 = true := by kernel_rfl
theorem cf249_3082 : checkV env extN 1000000 [] 1000 ef249_3082 = true := by kernel_rfl
theorem cf72_3050 : checkV env extN 1000000 [ef229_3059, ef229_3081, ef229_3158] 1000 ef72_3050 = true := by kernel_rfl
theorem cf86_3594 : checkV env extN 1000000 [] 1000 ef86_3594 = true := by kernel_rfl
theorem cf86_3742 : checkV env extN 1000000 [] 1000 ef86_3742 = true := by kernel_rfl
theorem cf210_3972 : checkV env extN 1000000 [] 1000 ef210_3972 = true := by kernel_rfl
theorem cf111_4065 : checkV env extN 1000000 [] 1000 ef111_4065 = true := by kernel_rfl
theorem cf21_4534 : checkV env extN 1000000 [ef111_4536] 1000 ef21_4534 = true := by kernel_rfl
end Go.Proofs.YtbefibijhfgkdaaGreatDoor
