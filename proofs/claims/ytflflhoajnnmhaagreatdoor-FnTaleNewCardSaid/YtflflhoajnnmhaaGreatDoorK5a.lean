/- A text of the closed facts about this program that the evaluator is run on. No condition. -/
import Derived.Test.YtflflhoajnnmhaaGreatDoorK4
namespace Go.Proofs.YtflflhoajnnmhaaGreatDoor
open Go Go.Ev
set_option maxRecDepth 100000
theorem c58_37 : checkV env extN 1000000 [] 1000 e58_37 = true := by kernel_rfl
theorem c58_136 : checkV env extN 1000000 [] 1000 e58_136 = true := by kernel_rfl
theorem c90_380 : checkV env extN 1000000 [] 1000 e90_380 = true := by kernel_rfl
theorem c101_494 : checkV env extN 1000000 [e152_496] 1000 e101_494 = true := by kernel_rfl
theorem c101_935 : checkV env extN 1000000 [e152_937] 1000 e101_935 = true := by kernel_rfl
theorem c58_1290 : checkV env extN 1000000 [] 1000 e58_1290 = true := by kernel_rfl
theorem c39_1258 : checkV env extN 1000000 [e27_1267, e27_1289, e27_1366] 1000 e39_1258 = true := by kernel_rfl
theorem c121_1627 : checkV env extN 1000000 [] 1000 e121_1627 = true := by kernel_rfl
theorem c121_1925 : checkV env extN 1000000 [] 1000 e121_1925 = true := by kernel_rfl
theorem c27_2099 : checkV env extN 1000000 [e58_2100] 1000 e27_2099 = true := by kernel_rfl
theorem c27_2248 : checkV env extN 1000000 [e58_2249] 1000 e27_2248 = true := by kernel_rfl
theorem c121_2584 : checkV env extN 1000000 [] 1000 e121_2584 = true := by kernel_rfl
end Go.Proofs.YtflflhoajnnmhaaGreatDoor
