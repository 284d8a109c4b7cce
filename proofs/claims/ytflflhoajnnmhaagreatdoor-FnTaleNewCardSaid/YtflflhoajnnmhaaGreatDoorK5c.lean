/- A text of the closed facts about this program that the evaluator is run on. No condition. -/
import Derived.Test.YtflflhoajnnmhaaGreatDoorK4
namespace Go.Proofs.YtflflhoajnnmhaaGreatDoor
open Go Go.Ev
set_option maxRecDepth 100000
theorem c58_59 : checkV env extN 1000000 [] 1000 e58_59 = true := by kernel_rfl
theorem c121_233 : checkV env extN 1000000 [] 1000 e121_233 = true := by kernel_rfl
theorem c90_477 : checkV env extN 1000000 [] 1000 e90_477 = true := by kernel_rfl
theorem c22_475 : checkV env extN 1000000 [e90_477, e101_494, e107_809] 1000 e22_475 = true := by kernel_rfl
theorem c58_1268 : checkV env extN 1000000 [] 1000 e58_1268 = true := by kernel_rfl
theorem c58_1367 : checkV env extN 1000000 [] 1000 e58_1367 = true := by kernel_rfl
theorem c27_1438 : checkV env extN 1000000 [e58_1439] 1000 e27_1438 = true := by kernel_rfl
theorem c121_1774 : checkV env extN 1000000 [] 1000 e121_1774 = true := by kernel_rfl
theorem c27_2077 : checkV env extN 1000000 [e58_2078] 1000 e27_2077 = true := by kernel_rfl
theorem c27_2176 : checkV env extN 1000000 [e58_2177] 1000 e27_2176 = true := by kernel_rfl
theorem c121_2437 : checkV env extN 1000000 [] 1000 e121_2437 = true := by kernel_rfl
theorem c121_2735 : checkV env extN 1000000 [] 1000 e121_2735 = true := by kernel_rfl
end Go.Proofs.YtflflhoajnnmhaaGreatDoor
