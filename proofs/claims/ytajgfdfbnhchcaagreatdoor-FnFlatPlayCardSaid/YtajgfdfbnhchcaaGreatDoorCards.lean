/-
  DERIVED. GIVEN WITH THE SEED: THE CARDS: each row of YtajgfdfbnhchcaaGreatDoorRows.lean that lists a variable, with what it lists TIED to the program's text (the seventh form; the later family's looks); each row that meets fmt, with fmt's text TOLD by the authors' own Lean function (tested against real Go, not proved from fmt's source: count such statements apart). THE CARD IS WHAT COUNTS. Prove the row's statement (the work); the ties are given (YtajgfdfbnhchcaaGreatDoorTie.lean); close each card by the builder's one call (the guide's Derived/Test/ToyasCard.lean, 'card_holds'). Laid BY PROGRAM, IN A SANDBOX (cutbox-door.mjs). By AI agents, Wed Nov 11 2026. No macro, syntax, notation, axiom, sorry.
-/
import Derived.Test.YtajgfdfbnhchcaaGreatDoorRows
import GoSem.ClaimSeven
namespace Go.Proofs.YtajgfdfbnhchcaaGreatDoor
namespace Rows

/-- THE TIED CARD OF 'laws.FnFlatApart'. -/
def fnFlatApartCard : Claim7 := { stood := { row := fnFlatApartRow, standIns := [], harness := (true, "cc27e62e3489df6b7c92fb73fa91f4df9f65954b732eab1510d2e4e6a5f9bbc2"), looks := false }, kinds := [], alts := [], laidByText := true, laidKinds := [.data, .pinned], laidTests := true, laidLooks := .later }
def FnFlatApartCardSaid : Prop := Claim7.holds Tryz.pinned (.plain (OpenSpec.ofChange fnFlatApartSpec)) fnFlatApartCard

/-- THE TIED CARD OF 'laws.FnFlatDo'. -/
def fnFlatDoCard : Claim7 := { stood := { row := fnFlatDoRow, standIns := [], harness := (true, "cc27e62e3489df6b7c92fb73fa91f4df9f65954b732eab1510d2e4e6a5f9bbc2"), looks := false }, kinds := [], alts := [], laidByText := true, laidKinds := [.data, .pinned], laidTests := true, laidLooks := .later }
def FnFlatDoCardSaid : Prop := Claim7.holds Tryz.pinned (.plain (OpenSpec.ofChange fnFlatDoSpec)) fnFlatDoCard

/-- THE TIED CARD OF 'laws.FnFlatPlay'. -/
def fnFlatPlayCard : Claim7 := { stood := { row := fnFlatPlayRow, standIns := [], harness := (true, "cc27e62e3489df6b7c92fb73fa91f4df9f65954b732eab1510d2e4e6a5f9bbc2"), looks := false }, kinds := [], alts := [], laidByText := true, laidKinds := [.data, .pinned], laidTests := true, laidLooks := .later }
def FnFlatPlayCardSaid : Prop := Claim7.holds Tryz.pinned (.plain (OpenSpec.ofChange fnFlatPlaySpec)) fnFlatPlayCard

/-- THE SECOND FORM's CARD OF 'laws.FnFlatApart'. -/
def fnFlatApartUptoCard : Claim7 := { stood := { row := fnFlatApartUptoRow, standIns := [], harness := (true, "cc27e62e3489df6b7c92fb73fa91f4df9f65954b732eab1510d2e4e6a5f9bbc2"), looks := false }, kinds := [], alts := [], laidByText := true, laidKinds := [.data, .pinned], laidTests := true, laidLooks := .later }
def FnFlatApartUptoCardSaid : Prop := Claim7.holds Tryz.pinned (.plain (OpenSpec.upto fnFlatApartSpec)) fnFlatApartUptoCard

/-- THE SECOND FORM's CARD OF 'laws.FnFlatDo'. -/
def fnFlatDoUptoCard : Claim7 := { stood := { row := fnFlatDoUptoRow, standIns := [], harness := (true, "cc27e62e3489df6b7c92fb73fa91f4df9f65954b732eab1510d2e4e6a5f9bbc2"), looks := false }, kinds := [], alts := [], laidByText := true, laidKinds := [.data, .pinned], laidTests := true, laidLooks := .later }
def FnFlatDoUptoCardSaid : Prop := Claim7.holds Tryz.pinned (.plain (OpenSpec.upto fnFlatDoSpec)) fnFlatDoUptoCard

/-- THE SECOND FORM's CARD OF 'laws.FnFlatPlay'. -/
def fnFlatPlayUptoCard : Claim7 := { stood := { row := fnFlatPlayUptoRow, standIns := [], harness := (true, "cc27e62e3489df6b7c92fb73fa91f4df9f65954b732eab1510d2e4e6a5f9bbc2"), looks := false }, kinds := [], alts := [], laidByText := true, laidKinds := [.data, .pinned], laidTests := true, laidLooks := .later }
def FnFlatPlayUptoCardSaid : Prop := Claim7.holds Tryz.pinned (.plain (OpenSpec.upto fnFlatPlaySpec)) fnFlatPlayUptoCard
end Rows
end Go.Proofs.YtajgfdfbnhchcaaGreatDoor
