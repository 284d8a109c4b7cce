/- A text of the closed facts about this program that the evaluator is run on. No condition. -/
import Derived.Test.YtolpljfjfgejeaaGreatDoorK4
namespace Go.Proofs.YtolpljfjfgejeaaGreatDoor
open Go Go.Ev
set_option maxRecDepth 100000
theorem c60_143 : checkV env extN 1000000 [] 1000 e60_143 = true := by kernel_rfl
theorem c17_575 : checkV env extN 1000000 [e60_584] 1000 e17_575 = true := by kernel_rfl
theorem c75_1008 : checkV env extN 1000000 [] 1000 e75_1008 = true := by kernel_rfl
theorem c5_894 : checkV env extN 1000000 [e44_904, e12_1082] 1000 e5_894 = true := by kernel_rfl
theorem c76_1374 : checkV env extN 1000000 [e75_1378] 1000 e76_1374 = true := by kernel_rfl
end Go.Proofs.YtolpljfjfgejeaaGreatDoor
