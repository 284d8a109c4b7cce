/- A text of the closed facts about this program that the evaluator is run on. No condition. -/
import Derived.Test.YtbefibijhfgkdaaGreatDoorK4
namespace Go.Proofs.YtbefibijhfgkdaaGreatDoor
open Go Go.Ev
set_option maxRecDepth 100000
theorem ct62_303 : checkV env extN 1000000 [] 1000 et62_303 = true := by kernel_rfl
theorem ct249_709 : checkV env extN 1000000 [] 1000 et249_709 = true := by kernel_rfl
theorem ct142_777 : checkV env extN 1000000 [et229_785] 1000 et142_777 = true := by kernel_rfl
theorem ct86_1221 : checkV env extN 1000000 [] 1000 et86_1221 = true := by kernel_rfl
theorem ct86_1369 : checkV env extN 1000000 [] 1000 et86_1369 = true := by kernel_rfl
theorem ct210_1599 : checkV env extN 1000000 [] 1000 et210_1599 = true := by kernel_rfl
theorem ct46_1676 : checkV env extN 1000000 [] 1000 et46_1676 = true := by kernel_rfl
theorem ct111_2832 : checkV env extN 1000000 [] 1000 et111_2832 = true := by kernel_rfl
theorem ct249_3084 : checkV env extN 1000000 [] 1000 et249_3084 = true := by kernel_rfl
theorem ct142_3152 : checkV env extN 1000000 [et229_3160] 1000 et142_3152 = true := by kernel_rfl
theorem ct86_3596 : checkV env extN 1000000 [] 1000 et86_3596 = true := by kernel_rfl
theorem ct86_3744 : checkV env extN 1000000 [] 1000 et86_3744 = true := by kernel_rfl
theorem ct210_3974 : checkV env extN 1000000 [] 1000 et210_3974 = true := by kernel_rfl
theorem ct46_4051 : checkV env extN 1000000 [] 1000 et46_4051 = true := by kernel_rfl
theorem ct111_4538 : checkV env extN 1000000 [] 1000 et111_4538 = true := by kernel_rfl
theorem cf62_301 : checkV env extN 1000000 [] 1000 ef62_301 = true := by kernel_rfl
theorem cf249_707 : checkV env extN 1000000 [] 1000 ef249_707 = true := by kernel_rfl
theorem cf72_675 : checkV env extN 1000000 [ef229_684, ef229_706, ef229_783] 1000 ef72_675 = true := by kernel_rfl
theorem cf86_1219 : checkV env extN 1000000 [] 1000 ef86_1219 = true := by kernel_rfl
theorem cf86_1367 : checkV env extN 1000000 [] 1000 ef86_1367 = true := by kernel_rfl
theorem cf210_1597 : checkV env extN 1000000 [] 1000 ef210_1597 = true := by kernel_rfl
theorem cf111_2359 : checkV env extN 1000000 [] 1000 ef111_2359 = true := by kernel_rfl
theorem cf21_2828 : checkV env extN 1000000 [ef111_2830] 1000 ef21_2828 = true := by kernel_rfl
theorem cf229_3081 : checkV env extN 1000000 [ef249_3082] 1000 ef229_3081 = true := by kernel_rfl
theorem cf81_3264 : checkV env extN 1000000 [] 1000 ef81_3264 = true := by kernel_rfl
theorem cf210_3655 : checkV env extN 1000000 [] 1000 ef210_3655 = true := by kernel_rfl
theorem cf210_3812 : checkV env extN 1000000 [] 1000 ef210_3812 = true := by kernel_rfl
theorem cf86_3981 : checkV env extN 1000000 [] 1000 ef86_3981 = true := by kernel_rfl
theorem cf111_4184 : checkV env extN 1000000 [] 1000 ef111_4184 = true := by kernel_rfl
end Go.Proofs.YtbefibijhfgkdaaGreatDoor
