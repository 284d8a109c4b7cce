/- A text of the closed facts about this program that the evaluator is run on. No condition. -/
import Derived.Test.YtolpljfjfgejeaaGreatDoorK4
namespace Go.Proofs.YtolpljfjfgejeaaGreatDoor
open Go Go.Ev
set_option maxRecDepth 100000
theorem c10_17 : checkV env extN 1000000 [e31_28] 1000 e10_17 = true := by kernel_rfl
theorem c16_124 : checkV env extN 1000000 [e31_125, e60_143, e38_457] 1000 e16_124 = true := by kernel_rfl
theorem c72_909 : checkV env extN 1000000 [] 1000 e72_909 = true := by kernel_rfl
theorem c44_904 : checkV env extN 1000000 [e72_909, e75_931, e76_1004] 1000 e44_904 = true := by kernel_rfl
theorem c75_1301 : checkV env extN 1000000 [] 1000 e75_1301 = true := by kernel_rfl
theorem c12_1452 : checkV env extN 1000000 [] 1000 e12_1452 = true := by kernel_rfl
end Go.Proofs.YtolpljfjfgejeaaGreatDoor
