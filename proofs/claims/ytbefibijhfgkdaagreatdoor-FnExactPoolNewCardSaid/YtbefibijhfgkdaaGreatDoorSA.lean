/- A lemma text of the proof that what the evaluator answers holds of every run of the model. No condition beyond those that each theorem states. -/
import Derived.Test.YtbefibijhfgkdaaGreatDoorS9
import Derived.Great.FillDense
import Derived.Laws.MakeOwn
namespace Go.Ev
open Go
set_option linter.unusedSimpArgs false
set_option linter.unusedVariables false
section
variable {E : Env} {P : Program} {X A : Nat → Prop} {ρ : Rho} {s s' : St} {w : World} {v v' x y x' y' : Value}

theorem foldl_put (off : Nat) : ∀ (vs : List Value) (i : Nat) (cs : Array Value), off + i + vs.length ≤ cs.size →
    (vs.zipIdx i).foldl (fun cs (x : Value × Nat) => cs.setIfInBounds (off + x.2) x.1) cs = ⟨cs.toList.take (off + i) ++ vs ++ cs.toList.drop (off + i + vs.length)⟩
  | [], i, cs, _ => by simp
  | v :: vs, i, cs, h => by
    simp only [List.length_cons] at h
    rw [List.zipIdx_cons, List.foldl_cons, foldl_put off vs (i + 1) _ (by simp; omega)]
    rw [Array.toList_setIfInBounds, show off + (i + 1) = off + i + 1 by omega, take_set_succ _ _ _ (by simp; omega), drop_set_succ, List.length_cons, show off + i + 1 + vs.length = off + i + (vs.length + 1) by omega]
    simp

theorem fillV_cons (place : Nat → Option (Nat × Nat)) (p : Nat × Value) (l : List (Nat × Value)) (cells : List Value) :
    fillV place (p :: l) cells = ob (place p.1) fun q => chk (Nat.beq (lenL (cellsL p.2)) q.2) <| ob (putAt q.1 (cellsL p.2) cells) fun cs => fillV place l cs := rfl
def PR (A : Nat → Prop) (ρ : Rho) : List (Nat × Value) → List (Nat × Value) → Prop
  | [], l => l = []
  | p :: ps, l => ∃ v' r, l = (p.1, v') :: r ∧ VR A ρ p.2 v' ∧ PR A ρ ps r
theorem fillV_ok (place : Nat → Option (Nat × Nat)) (place' : Nat → Option (Nat × Nat)) : ∀ (l : List (Nat × Value)) (cells : List Value) {r : List Value}, fillV place l cells = some r → (∀ i q, place i = some q → place' i = some q) →
    ∀ A ρ l' cells', PR A ρ l l' → LR A ρ cells cells' → ∃ r', Instr.fill place' ⟨cells'⟩ l' = some ⟨r'⟩ ∧ LR A ρ r r'
  | [], cells, r, h, _, A, ρ, l', cells', hl, hc => by
    have : cells = r := Option.some.inj h
    subst this
    have : l' = [] := hl
    subst this
    exact ⟨cells', rfl, hc⟩
  | p :: l, cells, r, h, hpl, A, ρ, l', cells', hl, hc => by
    rw [fillV_cons] at h
    obtain ⟨q, hq, h1⟩ := ob_eq h
    obtain ⟨hb, h2⟩ := chk_eq h1
    obtain ⟨cs, hcs, h3⟩ := ob_eq h2
    obtain ⟨v', r', rfl, hv, hr⟩ := hl
    rw [cellsL_eq] at hb hcs
    obtain ⟨h4, h5⟩ := putAt_some _ _ hcs
    have hvc := hv.cells
    have hvl := hvc.length
    have hcl := hc.length
    have hlen : p.2.cells.toList.length = q.2 := by simpa using hb
    have hlen' : v'.cells.size = q.2 := by have := hvl; simp at this hlen; omega
    obtain ⟨r2, h6, h7⟩ := fillV_ok place place' l cs h3 hpl A ρ r' (cells'.take q.1 ++ v'.cells.toList ++ cells'.drop (q.1 + v'.cells.toList.length)) hr (by
      rw [h5, hvl]
      exact ((hc.take q.1).append hvc).append (hc.drop _))
    refine ⟨r2, ?_, h7⟩
    unfold Instr.fill
    rw [hpl _ _ hq]
    obtain ⟨off, sz⟩ := q
    simp only at hlen' h4 hlen h6 ⊢
    rw [if_neg (by simp at h4 hcl hlen ⊢; omega)]
    rw [← h6]
    congr 1
    have := foldl_put off v'.cells.toList 0 ⟨cells'⟩ (by simp at h4 hcl hlen ⊢; omega)
    simp only [Nat.add_zero] at this
    rw [← this]
    rw [← Array.foldl_toList, Array.toList_zipIdx]
theorem evParts_cons (ev : Operand → Value) (p : Nat × Operand) (l : List (Nat × Operand)) : evParts ev (p :: l) = (p.1, ev p.2) :: evParts ev l := rfl
theorem evParts_ok (ev ev' : Operand → Value) : ∀ (l : List (Nat × Operand)), (∀ p ∈ l, VR A ρ (ev p.2) (ev' p.2)) → PR A ρ (evParts ev l) (l.map fun x => (x.1, ev' x.2))
  | [], _ => rfl
  | p :: l, h => ⟨ev' p.2, _, rfl, h p (by simp), evParts_ok ev ev' l fun q hq => h q (by simp [hq])⟩
end
end Go.Ev
