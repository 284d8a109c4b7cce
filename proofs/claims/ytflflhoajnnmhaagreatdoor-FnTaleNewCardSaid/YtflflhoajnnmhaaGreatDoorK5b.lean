/- A text of the closed facts about this program that the evaluator is run on. No condition. -/
import Derived.Test.YtflflhoajnnmhaaGreatDoorK4
namespace Go.Proofs.YtflflhoajnnmhaaGreatDoor
open Go Go.Ev
set_option maxRecDepth 100000
theorem c27_36 : checkV env extN 1000000 [e58_37] 1000 e27_36 = true := by kernel_rfl
theorem c27_135 : checkV env extN 1000000 [e58_136] 1000 e27_135 = true := by kernel_rfl
theorem c24_376 : checkV env extN 1000000 [e90_380] 1000 e24_376 = true := by kernel_rfl
theorem c107_809 : checkV env extN 1000000 [] 1000 e107_809 = true := by kernel_rfl
theorem c23_926 : checkV env extN 1000000 [e101_935] 1000 e23_926 = true := by kernel_rfl
theorem c27_1289 : checkV env extN 1000000 [e58_1290] 1000 e27_1289 = true := by kernel_rfl
theorem c58_1439 : checkV env extN 1000000 [] 1000 e58_1439 = true := by kernel_rfl
theorem c31_1455 : checkV env extN 1000000 [e121_1478, e121_1627] 1000 e31_1455 = true := by kernel_rfl
theorem c58_2078 : checkV env extN 1000000 [] 1000 e58_2078 = true := by kernel_rfl
theorem c58_2177 : checkV env extN 1000000 [] 1000 e58_2177 = true := by kernel_rfl
theorem c121_2288 : checkV env extN 1000000 [] 1000 e121_2288 = true := by kernel_rfl
theorem c14_2247 : checkV env extN 1000000 [e27_2248, e31_2265, e121_2584] 1000 e14_2247 = true := by kernel_rfl
end Go.Proofs.YtflflhoajnnmhaaGreatDoor
