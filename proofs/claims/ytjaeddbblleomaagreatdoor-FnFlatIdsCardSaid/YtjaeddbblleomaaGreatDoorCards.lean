/-
  DERIVED. GIVEN WITH THE SEED: THE CARDS: each row of YtjaeddbblleomaaGreatDoorRows.lean that lists a variable, with what it lists TIED to the program's text (the seventh form; the later family's looks); each row that meets fmt, with fmt's text TOLD by the authors' own Lean function (tested against real Go, not proved from fmt's source: count such statements apart). THE CARD IS WHAT COUNTS. Prove the row's statement (the work); the ties are given (YtjaeddbblleomaaGreatDoorTie.lean); close each card by the builder's one call (the guide's Derived/Test/ToyasCard.lean, 'card_holds'). Laid BY PROGRAM, IN A SANDBOX (cutbox-door.mjs). By AI agents, Wed Nov 11 2026. No macro, syntax, notation, axiom, sorry.
-/
import Derived.Test.YtjaeddbblleomaaGreatDoorRows
import GoSem.ClaimSeven
namespace Go.Proofs.YtjaeddbblleomaaGreatDoor
namespace Rows

/-- THE TIED CARD OF 'laws.FnFlatIds'. -/
def fnFlatIdsCard : Claim7 := { stood := { row := fnFlatIdsRow, standIns := [], harness := (true, "263f87489a9825fad6e3654101a3d4475a895a2766760282a8c6559fa8d815e9"), looks := false }, kinds := [], alts := [], laidByText := true, laidKinds := [.data, .pinned], laidTests := true, laidLooks := .later }
def FnFlatIdsCardSaid : Prop := Claim7.holds Tryz.pinned (.plain (OpenSpec.ofChange fnFlatIdsSpec)) fnFlatIdsCard

/-- THE SECOND FORM's CARD OF 'laws.FnFlatIds'. -/
def fnFlatIdsUptoCard : Claim7 := { stood := { row := fnFlatIdsUptoRow, standIns := [], harness := (true, "263f87489a9825fad6e3654101a3d4475a895a2766760282a8c6559fa8d815e9"), looks := false }, kinds := [], alts := [], laidByText := true, laidKinds := [.data, .pinned], laidTests := true, laidLooks := .later }
def FnFlatIdsUptoCardSaid : Prop := Claim7.holds Tryz.pinned (.plain (OpenSpec.upto fnFlatIdsSpec)) fnFlatIdsUptoCard
end Rows
end Go.Proofs.YtjaeddbblleomaaGreatDoor
