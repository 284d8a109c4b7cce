/- A lemma text of the proof that what the evaluator answers holds of every run of the model. No condition beyond those that each theorem states. -/
import Derived.Test.YtbefibijhfgkdaaGreatDoorSK
import Derived.Test.YtbefibijhfgkdaaGreatDoorSL
namespace Go.Ev
open Go
set_option linter.unusedSimpArgs false
set_option linter.unusedVariables false
section
variable {E : Env} {P : Program} {call : Caller} {X A B : Nat → Prop} {ρ ρ2 : Rho} {s s' : St} {w w' : World} {v v' x y x' y' : Value} {o : Oper} {ev : Operand → Value} {N : Nat} {tm tm' : Tm} {a : Act}

theorem SetAdd.lt {n m : Nat} (hA : ∀ i, A i → i < n) (h : n ≤ m) : ∀ i, SetAdd A n m i → i < m := by
  rintro i (h1 | h1)
  · have := hA i h1; omega
  · exact h1.2
theorem SetAdd.self {n : Nat} {i : Nat} : SetAdd A n n i ↔ A i := by
  constructor
  · rintro (h | h)
    · exact h
    · omega
  · exact .inl
theorem SetAdd.join {n m k : Nat} (h1 : n ≤ m) (h2 : m ≤ k) {i : Nat} (h : SetAdd (SetAdd A n m) m k i) : SetAdd A n k i := by
  rcases h with (h | h) | h
  · exact .inl h
  · exact .inr ⟨h.1, by omega⟩
  · exact .inr ⟨by omega, h.2⟩
theorem operOk_dst {o : Oper} (h : operOk N o = true) : ∀ d, o.dst = some d → d < N := by
  intro d hd
  unfold operOk at h
  rw [hd] at h
  simp only [Bool.and_eq_true] at h
  exact Nat.le_of_ble_eq_true h.1
theorem operOk_opnd {o : Oper} (h : operOk N o = true) : ∀ x ∈ o.op.operands, opndOk x = true := by
  unfold operOk at h
  simp only [Bool.and_eq_true, List.all_eq_true] at h
  intro x hx
  exact h.2 x (by simpa using hx)

/-- What a piece of code leaves. -/
structure Left (P : Program) (X A : Nat → Prop) (ρ : Rho) (N : Nat) (s s' : St) (w : World) (a : Act) (tm' : Tm) (a' : Act) (w' : World) : Prop where
  defers : a'.defers = a.defers
  left : ∃ ρ', TmR (SetAdd A s.next s'.next) ρ' N tm' a' ∧ Good P X A ρ s s' w w' ρ'

theorem seqV_cons (ops : List Oper) (o : Oper) (l : List Oper) (tm : Tm) (s : St) : seqV E call ops (o :: l) tm s = bo (wantedV ops tm o.guard) (ob (opV E call (evOp tm) s o.op) fun p => match p with
        | (v, s) => tm.put o.dst v fun tm => seqV E call ops l tm s)
      (tm.put o.dst (.tuple ⟨[]⟩) fun tm => seqV E call ops l tm s) := rfl

theorem put_defers' (a : Act) (d : Option Tmp) (v : Value) : (a.put d v).defers = a.defers := by cases d <;> rfl

theorem seqV_ok (hE : EnvOk E P) (hC : CallerOk P call) (ops : List Oper) (hops : ∀ o ∈ ops, operOk N o = true) : ∀ (l : List Oper) (k : Nat) (tm : Tm) (s : St) {tm' : Tm} {s' : St}, l = ops.drop k → seqV E call ops l tm s = some (tm', s') →
    Grows s s' ∧ ∀ X A ρ w a Q, Pre P X A ρ s s' w → Gl A ρ → TmR A ρ N tm a → (∀ a' w', Left P X A ρ N s s' w a tm' a' w' → Q Exit.normal a' w') → wpOps P ⟨ops⟩ Q (List.range' k l.length) a w
  | [], k, tm, s, tm', s', hl, h => by
    have := Option.some.inj h
    simp only [Prod.mk.injEq] at this
    obtain ⟨rfl, rfl⟩ := this
    refine ⟨Grows.refl s, fun X A ρ w a Q hp hg ht hQ => ?_⟩
    exact hQ a w ⟨rfl, ρ, ht.mono (fun i hi => .inl hi) (fun _ _ => rfl), Good.refl hp.st hp.above⟩
  | o :: l, k, tm, s, tm', s', hl, h => by
    have hk : ops[k]? = some o := by
      have := congrArg (·[0]?) hl
      simpa using this.symm
    have hl' : l = ops.drop (k + 1) := by
      have := congrArg (List.drop 1) hl
      simpa [List.drop_drop, Nat.add_comm] using this
    have ho : o ∈ ops := List.mem_of_getElem? hk
    have hoo := hops o ho
    rw [seqV_cons] at h
    have hdst := operOk_dst hoo
    cases hw : wantedV ops tm o.guard with
    | true =>
      rw [hw, bo_true] at h
      obtain ⟨⟨v, s1⟩, h1, h2⟩ := ob_eq h
      simp only [Tm.put_eq] at h2
      obtain ⟨hg1, hop⟩ := opV_ok hE hC h1
      obtain ⟨hg2, hrest⟩ := seqV_ok hE hC ops hops l (k + 1) _ _ hl' h2
      refine ⟨hg1.trans hg2, fun X A ρ w a Q hp hg ht hQ => ?_⟩
      rw [List.length_cons, List.range'_succ]
      unfold wpOps
      have hko : (⟨ops⟩ : Array Oper)[k]? = some o := by simpa using hk
      simp only [hko]
      rw [wanted_ok (A := A) (ρ := ρ) (tm := tm) ht.1 (fun p hp d hd => operOk_dst (hops p hp) d hd) (fun j want _ d _ => ht.2 d), hw]
      simp only [if_true]
      left
      have hp1 : Pre P X A ρ s s1 w := ⟨hp.lt, hp.above, fun b hb => hp.acc b (hg2.acc b hb), hp.st⟩
      refine Oper.wp_mono (fun a1 w1 hpost => ?_) (hop X A ρ w a Q hp1 hg fun x hx => evOp_ok (operOk_opnd hoo x hx) hg fun t _ => ht.2 t)
      obtain ⟨v', rfl, ρ1, hv, hgood⟩ := hpost
      have hag : ∀ i, A i → ρ1 i = ρ i := fun i hi => hgood.same i (by have := hp.lt i hi; omega)
      have ht1 : TmR (SetAdd A s.next s1.next) ρ1 N (tm.lay o.dst v) (a.put o.dst v') := (ht.mono (fun i hi => .inl hi) hag).put hv hdst
      refine hrest X (SetAdd A s.next s1.next) ρ1 w1 _ Q ⟨SetAdd.lt hp.lt hg1.next, hgood.above, hp.acc, hgood.state⟩ (hg.mono (fun i hi => .inl hi) hag) ht1 fun a2 w2 hleft => hQ a2 w2 ?_
      obtain ⟨hd, ρ2, ht2, hgood2⟩ := hleft
      refine ⟨hd.trans (put_defers' _ _ _), ρ2, ht2.mono (fun i hi => SetAdd.join hg1.next hg2.next hi) (fun _ _ => rfl), Good.trans hp.acc hg1 hg2 hp.lt hgood hgood2⟩
    | false =>
      rw [hw, bo_false] at h
      simp only [Tm.put_eq] at h
      obtain ⟨hg2, hrest⟩ := seqV_ok hE hC ops hops l (k + 1) _ _ hl' h
      refine ⟨hg2, fun X A ρ w a Q hp hg ht hQ => ?_⟩
      rw [List.length_cons, List.range'_succ]
      unfold wpOps
      have hko : (⟨ops⟩ : Array Oper)[k]? = some o := by simpa using hk
      simp only [hko]
      rw [wanted_ok (A := A) (ρ := ρ) (tm := tm) ht.1 (fun p hp d hd => operOk_dst (hops p hp) d hd) (fun j want _ d _ => ht.2 d), hw]
      simp only [Bool.false_eq_true, if_false]
      refine hrest X A ρ w _ Q hp hg (ht.put VR.undef hdst) fun a2 w2 hleft => hQ a2 w2 ?_
      exact ⟨hleft.1.trans (put_defers' _ _ _), hleft.2⟩
end
end Go.Ev
