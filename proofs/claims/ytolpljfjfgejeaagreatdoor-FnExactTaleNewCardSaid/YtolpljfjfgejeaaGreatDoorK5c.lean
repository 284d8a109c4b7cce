/- A text of the closed facts about this program that the evaluator is run on. No condition. -/
import Derived.Test.YtolpljfjfgejeaaGreatDoorK4
namespace Go.Proofs.YtolpljfjfgejeaaGreatDoor
open Go Go.Ev
set_option maxRecDepth 100000
theorem c31_125 : checkV env extN 1000000 [] 1000 e31_125 = true := by kernel_rfl
theorem c60_584 : checkV env extN 1000000 [] 1000 e60_584 = true := by kernel_rfl
theorem c75_931 : checkV env extN 1000000 [] 1000 e75_931 = true := by kernel_rfl
theorem c12_1082 : checkV env extN 1000000 [] 1000 e12_1082 = true := by kernel_rfl
theorem c75_1378 : checkV env extN 1000000 [] 1000 e75_1378 = true := by kernel_rfl
theorem c5_1264 : checkV env extN 1000000 [e44_1274, e12_1452] 1000 e5_1264 = true := by kernel_rfl
end Go.Proofs.YtolpljfjfgejeaaGreatDoor
