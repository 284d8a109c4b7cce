/- A text of the closed facts about this program that the evaluator is run on. No condition. -/
import Derived.Test.YtbefibijhfgkdaaGreatDoorK6h
namespace Go.Proofs.YtbefibijhfgkdaaGreatDoor
open Go Go.Ev
set_option maxRecDepth 100000
theorem main_f : boolOf (callV env extN 1000000 mainf 1000 3 [.bool false] st0) = true := by kernel_rfl
end Go.Proofs.YtbefibijhfgkdaaGreatDoor
