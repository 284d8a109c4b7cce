/-
  DERIVED. GIVEN WITH THE SEED: THE CARDS: each row of YtflflhoajnnmhaaGreatDoorRows.lean that lists a variable, with what it lists TIED to the program's text (the seventh form; the later family's looks); each row that meets fmt, with fmt's text TOLD by the authors' own Lean function (tested against real Go, not proved from fmt's source: count such statements apart). THE CARD IS WHAT COUNTS. Prove the row's statement (the work); the ties are given (YtflflhoajnnmhaaGreatDoorTie.lean); close each card by the builder's one call (the guide's Derived/Test/ToyasCard.lean, 'card_holds'). Laid BY PROGRAM, IN A SANDBOX (cutbox-door.mjs). By AI agents, Wed Nov 11 2026. No macro, syntax, notation, axiom, sorry.
-/
import Derived.Test.YtflflhoajnnmhaaGreatDoorRows
import GoSem.ClaimSeven
namespace Go.Proofs.YtflflhoajnnmhaaGreatDoor
namespace Rows

/-- THE TIED CARD OF 'laws.FnTaleNew'. -/
def fnTaleNewCard : Claim7 := { stood := { row := fnTaleNewRow, standIns := [], harness := (true, "b72ee15a2f134d95d4010216cd5f1bf16fbe902b11ca504a9a4ba82ad2a63d7f"), looks := true }, kinds := [], alts := [], laidByText := true, laidKinds := [.data, .data, .data, .data, .sentinel, .sentinel, .pinned], laidTests := true, laidLooks := .later }
def FnTaleNewCardSaid : Prop := Claim7.holds Tryz.pinned (.plain (OpenSpec.ofChange fnTaleNewSpec)) fnTaleNewCard

/-- THE SECOND FORM's CARD OF 'laws.FnTaleNew'. -/
def fnTaleNewUptoCard : Claim7 := { stood := { row := fnTaleNewUptoRow, standIns := [], harness := (true, "b72ee15a2f134d95d4010216cd5f1bf16fbe902b11ca504a9a4ba82ad2a63d7f"), looks := true }, kinds := [], alts := [], laidByText := true, laidKinds := [.data, .data, .data, .data, .sentinel, .sentinel, .pinned], laidTests := true, laidLooks := .later }
def FnTaleNewUptoCardSaid : Prop := Claim7.holds Tryz.pinned (.plain (OpenSpec.upto fnTaleNewSpec)) fnTaleNewUptoCard
end Rows
end Go.Proofs.YtflflhoajnnmhaaGreatDoor
