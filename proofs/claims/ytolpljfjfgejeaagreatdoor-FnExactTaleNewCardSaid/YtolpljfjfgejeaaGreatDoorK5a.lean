/- A text of the closed facts about this program that the evaluator is run on. No condition. -/
import Derived.Test.YtolpljfjfgejeaaGreatDoorK4
namespace Go.Proofs.YtolpljfjfgejeaaGreatDoor
open Go Go.Ev
set_option maxRecDepth 100000
theorem c31_28 : checkV env extN 1000000 [] 1000 e31_28 = true := by kernel_rfl
theorem c38_457 : checkV env extN 1000000 [] 1000 e38_457 = true := by kernel_rfl
theorem c4_16 : checkV env extN 1000000 [e10_17, e16_124, e17_575] 1000 e4_16 = true := by kernel_rfl
theorem c76_1004 : checkV env extN 1000000 [e75_1008] 1000 e76_1004 = true := by kernel_rfl
theorem c72_1279 : checkV env extN 1000000 [] 1000 e72_1279 = true := by kernel_rfl
theorem c44_1274 : checkV env extN 1000000 [e72_1279, e75_1301, e76_1374] 1000 e44_1274 = true := by kernel_rfl
end Go.Proofs.YtolpljfjfgejeaaGreatDoor
