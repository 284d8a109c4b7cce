/-
  DERIVED. GIVEN WITH THE SEED: THE CARDS: each row of YtolpljfjfgejeaaGreatDoorRows.lean that lists a variable, with what it lists TIED to the program's text (the seventh form; the later family's looks); each row that meets fmt, with fmt's text TOLD by the authors' own Lean function (tested against real Go, not proved from fmt's source: count such statements apart). THE CARD IS WHAT COUNTS. Prove the row's statement (the work); the ties are given (YtolpljfjfgejeaaGreatDoorTie.lean); close each card by the builder's one call (the guide's Derived/Test/ToyasCard.lean, 'card_holds'). Laid BY PROGRAM, IN A SANDBOX (cutbox-door.mjs). By AI agents, Wed Nov 11 2026. No macro, syntax, notation, axiom, sorry.
-/
import Derived.Test.YtolpljfjfgejeaaGreatDoorRows
import GoSem.ClaimSeven
namespace Go.Proofs.YtolpljfjfgejeaaGreatDoor
namespace Rows

/-- THE TIED CARD OF 'laws.FnExactTaleNew'. -/
def fnExactTaleNewCard : Claim7 := { stood := { row := fnExactTaleNewRow, standIns := [], harness := (true, "4b51c2f3c6395b0f9df93b2c35b4214dfb90e61d733bd10cb50baf0f6ceab7ed"), looks := true }, kinds := [], alts := [], laidByText := true, laidKinds := [.data, .data, .data, .data, .sentinel, .sentinel, .pinned], laidTests := true, laidLooks := .later }
def FnExactTaleNewCardSaid : Prop := Claim7.holds Tryz.pinned (.plain (OpenSpec.ofChange fnExactTaleNewSpec)) fnExactTaleNewCard

/-- THE SECOND FORM's CARD OF 'laws.FnExactTaleNew'. -/
def fnExactTaleNewUptoCard : Claim7 := { stood := { row := fnExactTaleNewUptoRow, standIns := [], harness := (true, "4b51c2f3c6395b0f9df93b2c35b4214dfb90e61d733bd10cb50baf0f6ceab7ed"), looks := true }, kinds := [], alts := [], laidByText := true, laidKinds := [.data, .data, .data, .data, .sentinel, .sentinel, .pinned], laidTests := true, laidLooks := .later }
def FnExactTaleNewUptoCardSaid : Prop := Claim7.holds Tryz.pinned (.plain (OpenSpec.upto fnExactTaleNewSpec)) fnExactTaleNewUptoCard
end Rows
end Go.Proofs.YtolpljfjfgejeaaGreatDoor
