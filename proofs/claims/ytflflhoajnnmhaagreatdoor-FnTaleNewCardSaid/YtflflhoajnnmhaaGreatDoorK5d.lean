/- A text of the closed facts about this program that the evaluator is run on. No condition. -/
import Derived.Test.YtflflhoajnnmhaaGreatDoorK4
namespace Go.Proofs.YtflflhoajnnmhaaGreatDoor
open Go Go.Ev
set_option maxRecDepth 100000
theorem c27_58 : checkV env extN 1000000 [e58_59] 1000 e27_58 = true := by kernel_rfl
theorem c4_17 : checkV env extN 1000000 [e27_36, e27_58, e27_135, e121_233] 1000 e4_17 = true := by kernel_rfl
theorem c152_496 : checkV env extN 1000000 [] 1000 e152_496 = true := by kernel_rfl
theorem c152_937 : checkV env extN 1000000 [] 1000 e152_937 = true := by kernel_rfl
theorem c27_1267 : checkV env extN 1000000 [e58_1268] 1000 e27_1267 = true := by kernel_rfl
theorem c27_1366 : checkV env extN 1000000 [e58_1367] 1000 e27_1366 = true := by kernel_rfl
theorem c121_1478 : checkV env extN 1000000 [] 1000 e121_1478 = true := by kernel_rfl
theorem c14_1437 : checkV env extN 1000000 [e27_1438, e31_1455, e121_1774] 1000 e14_1437 = true := by kernel_rfl
theorem c58_2100 : checkV env extN 1000000 [] 1000 e58_2100 = true := by kernel_rfl
theorem c58_2249 : checkV env extN 1000000 [] 1000 e58_2249 = true := by kernel_rfl
theorem c31_2265 : checkV env extN 1000000 [e121_2288, e121_2437] 1000 e31_2265 = true := by kernel_rfl
end Go.Proofs.YtflflhoajnnmhaaGreatDoor
