/- A text of the closed facts about this program that the evaluator is run on. No condition. -/
import Derived.Test.YtbefibijhfgkdaaGreatDoorKT
namespace Go.Proofs.YtbefibijhfgkdaaGreatDoor
open Go Go.Ev
set_option maxRecDepth 100000
set_option linter.unusedVariables false
set_option linter.unusedSimpArgs false
def powL : List Nat := [1, 10, 100, 1000, 10000, 100000, 1000000, 10000000, 100000000, 1000000000, 10000000000, 100000000000, 1000000000000, 10000000000000, 100000000000000, 1000000000000000, 10000000000000000, 100000000000000000, 1000000000000000000, 10000000000000000000]
def powC : List Value := powL.map fun n => .int .u64 (.ofNat n)
noncomputable def st0 : St := ⟨layB [(0, .glob powC)] .nil, 16, 0, 0⟩
noncomputable def boolOf (r : Option (Value × St)) : Bool := match r with
  | some (.bool b, s) => bo b (!(Nat.testBit s.wr 0)) false
  | _ => false
end Go.Proofs.YtbefibijhfgkdaaGreatDoor
