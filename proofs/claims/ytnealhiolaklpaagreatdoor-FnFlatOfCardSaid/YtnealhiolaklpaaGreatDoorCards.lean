/-
  DERIVED. GIVEN WITH THE SEED: THE CARDS: each row of YtnealhiolaklpaaGreatDoorRows.lean that lists a variable, with what it lists TIED to the program's text (the seventh form; the later family's looks); each row that meets fmt, with fmt's text TOLD by the authors' own Lean function (tested against real Go, not proved from fmt's source: count such statements apart). THE CARD IS WHAT COUNTS. Prove the row's statement (the work); the ties are given (YtnealhiolaklpaaGreatDoorTie.lean); close each card by the builder's one call (the guide's Derived/Test/ToyasCard.lean, 'card_holds'). Laid BY PROGRAM, IN A SANDBOX (cutbox-door.mjs). By AI agents, Wed Nov 11 2026. No macro, syntax, notation, axiom, sorry.
-/
import Derived.Test.YtnealhiolaklpaaGreatDoorRows
import GoSem.ClaimSeven
namespace Go.Proofs.YtnealhiolaklpaaGreatDoor
namespace Rows

/-- THE TIED CARD OF 'laws.FnFlatOf'. -/
def fnFlatOfCard : Claim7 := { stood := { row := fnFlatOfRow, standIns := [], harness := (true, "c9c750be2b694f7e6abe6fe1f875d5b2d0dc5f6c3675463813edd16936ddae6b"), looks := true }, kinds := [], alts := [], laidByText := true, laidKinds := [.data, .data, .data, .data, .sentinel, .sentinel, .pinned], laidTests := true, laidLooks := .later }
def FnFlatOfCardSaid : Prop := Claim7.holds Tryz.pinned (.plain (OpenSpec.ofChange fnFlatOfSpec)) fnFlatOfCard

/-- THE SECOND FORM's CARD OF 'laws.FnFlatOf'. -/
def fnFlatOfUptoCard : Claim7 := { stood := { row := fnFlatOfUptoRow, standIns := [], harness := (true, "c9c750be2b694f7e6abe6fe1f875d5b2d0dc5f6c3675463813edd16936ddae6b"), looks := true }, kinds := [], alts := [], laidByText := true, laidKinds := [.data, .data, .data, .data, .sentinel, .sentinel, .pinned], laidTests := true, laidLooks := .later }
def FnFlatOfUptoCardSaid : Prop := Claim7.holds Tryz.pinned (.plain (OpenSpec.upto fnFlatOfSpec)) fnFlatOfUptoCard
end Rows
end Go.Proofs.YtnealhiolaklpaaGreatDoor
