/-
  DERIVED. GIVEN WITH THE SEED: THE CARDS: each row of YtbefibijhfgkdaaGreatDoorRows.lean that lists a variable, with what it lists TIED to the program's text (the seventh form; the later family's looks); each row that meets fmt, with fmt's text TOLD by the authors' own Lean function (tested against real Go, not proved from fmt's source: count such statements apart). THE CARD IS WHAT COUNTS. Prove the row's statement (the work); the ties are given (YtbefibijhfgkdaaGreatDoorTie.lean); close each card by the builder's one call (the guide's Derived/Test/ToyasCard.lean, 'card_holds'). Laid BY PROGRAM, IN A SANDBOX (cutbox-door.mjs). By AI agents, Wed Nov 11 2026. No macro, syntax, notation, axiom, sorry.
-/
import Derived.Test.YtbefibijhfgkdaaGreatDoorRows
import GoSem.ClaimSeven
namespace Go.Proofs.YtbefibijhfgkdaaGreatDoor
namespace Rows

/-- THE TIED CARD OF 'laws.FnExactPoolNew'. -/
def fnExactPoolNewCard : Claim7 := { stood := { row := fnExactPoolNewRow, standIns := [], harness := (true, "96e8c3a66fd125822296a762a7ef2c9d4f3fe63a986beb89e2ec284bd27f87cb"), looks := true }, kinds := [], alts := [], laidByText := true, laidKinds := [.data, .data, .data, .data, .sentinel, .sentinel, .pinned], laidTests := true, laidLooks := .later }
def FnExactPoolNewCardSaid : Prop := Claim7.holds Tryz.pinned (.plain (OpenSpec.ofChange fnExactPoolNewSpec)) fnExactPoolNewCard

/-- THE SECOND FORM's CARD OF 'laws.FnExactPoolNew'. -/
def fnExactPoolNewUptoCard : Claim7 := { stood := { row := fnExactPoolNewUptoRow, standIns := [], harness := (true, "96e8c3a66fd125822296a762a7ef2c9d4f3fe63a986beb89e2ec284bd27f87cb"), looks := true }, kinds := [], alts := [], laidByText := true, laidKinds := [.data, .data, .data, .data, .sentinel, .sentinel, .pinned], laidTests := true, laidLooks := .later }
def FnExactPoolNewUptoCardSaid : Prop := Claim7.holds Tryz.pinned (.plain (OpenSpec.upto fnExactPoolNewSpec)) fnExactPoolNewUptoCard
end Rows
end Go.Proofs.YtbefibijhfgkdaaGreatDoor
