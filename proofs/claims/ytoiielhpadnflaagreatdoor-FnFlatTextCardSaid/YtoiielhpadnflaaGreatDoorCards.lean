/-
  DERIVED. GIVEN WITH THE SEED: THE CARDS: each row of YtoiielhpadnflaaGreatDoorRows.lean that lists a variable, with what it lists TIED to the program's text (the seventh form; the later family's looks); each row that meets fmt, with fmt's text TOLD by the authors' own Lean function (tested against real Go, not proved from fmt's source: count such statements apart). THE CARD IS WHAT COUNTS. Prove the row's statement (the work); the ties are given (YtoiielhpadnflaaGreatDoorTie.lean); close each card by the builder's one call (the guide's Derived/Test/ToyasCard.lean, 'card_holds'). Laid BY PROGRAM, IN A SANDBOX (cutbox-door.mjs). By AI agents, Wed Nov 11 2026. No macro, syntax, notation, axiom, sorry.
-/
import Derived.Test.YtoiielhpadnflaaGreatDoorRows
import GoSem.ClaimSeven
namespace Go.Proofs.YtoiielhpadnflaaGreatDoor
namespace Rows

/-- THE TIED CARD OF 'laws.FnFlatText'. -/
def fnFlatTextCard : Claim7 := { stood := { row := fnFlatTextRow, standIns := [], harness := (true, "6f34d0c143eb297cbbadaae8a0a227962e571dda9ad92f4fd886eb09c96d71c8"), looks := true }, kinds := [], alts := [], laidByText := true, laidKinds := [.data, .data, .data, .data, .sentinel, .sentinel, .mapped, .pinned], laidTests := true, laidLooks := .later }
def FnFlatTextCardSaid : Prop := Claim7.holds Tryz.pinned (.plain (OpenSpec.ofChange fnFlatTextSpec)) fnFlatTextCard

/-- THE SECOND FORM's CARD OF 'laws.FnFlatText'. -/
def fnFlatTextUptoCard : Claim7 := { stood := { row := fnFlatTextUptoRow, standIns := [], harness := (true, "6f34d0c143eb297cbbadaae8a0a227962e571dda9ad92f4fd886eb09c96d71c8"), looks := true }, kinds := [], alts := [], laidByText := true, laidKinds := [.data, .data, .data, .data, .sentinel, .sentinel, .mapped, .pinned], laidTests := true, laidLooks := .later }
def FnFlatTextUptoCardSaid : Prop := Claim7.holds Tryz.pinned (.plain (OpenSpec.upto fnFlatTextSpec)) fnFlatTextUptoCard
end Rows
end Go.Proofs.YtoiielhpadnflaaGreatDoor
