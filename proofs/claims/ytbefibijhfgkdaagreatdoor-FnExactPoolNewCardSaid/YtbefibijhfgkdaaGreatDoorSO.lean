/- A lemma text of the proof that what the evaluator answers holds of every run of the model. No condition beyond those that each theorem states. -/
import Derived.Test.YtbefibijhfgkdaaGreatDoorSN
namespace Go.Ev
open Go
set_option linter.unusedSimpArgs false
set_option linter.unusedVariables false
section
variable {ops : List Oper}
theorem inner_fold (acc : Array Nat) : ∀ (es : List Edge) (m : Nat) (i : Nat), (es.foldl (fun s e => if Region.binds .any e then s ||| 2 ^ e.on ||| acc.getD e.on 0 else s) m).testBit i = true →
    m.testBit i = true ∨ ∃ e ∈ es, Region.binds .any e = true ∧ (i = e.on ∨ (acc.getD e.on 0).testBit i = true)
  | [], m, i, h => .inl h
  | e :: es, m, i, h => by
    rw [List.foldl_cons] at h
    rcases inner_fold acc es _ i h with h1 | ⟨e', he, hb, h2⟩
    · split at h1
      · rename_i hb
        simp only [Nat.testBit_or, Bool.or_eq_true] at h1
        rcases h1 with (h1 | h1) | h1
        · exact .inl h1
        · rw [Nat.testBit_two_pow] at h1
          exact .inr ⟨e, by simp, hb, .inl (of_decide_eq_true h1).symm⟩
        · exact .inr ⟨e, by simp, hb, .inr h1⟩
      · exact .inl h1
    · exact .inr ⟨e', by simp [he], hb, h2⟩
/-- The operations that have run before: in each set that is closed and holds what it waits for. -/
def anc (ops : List Oper) (j k : Nat) : Prop := ∀ L : Nat → Bool, Closed ⟨ops⟩ L → (∀ oj, ops[j]? = some oj → ∀ e ∈ oj.after, Region.binds .any e = true → L e.on = true) → L k = true
theorem before_fold (hlt : ∀ j oj, ops[j]? = some oj → ∀ e ∈ oj.after, Region.binds .any e = true → e.on < j) (L : Nat → Bool) (hL : Closed ⟨ops⟩ L) : ∀ (l : List Oper) (acc : Array Nat), (∃ pre, ops = pre ++ l ∧ pre.length = acc.size) →
    (∀ j oj, j < acc.size → ops[j]? = some oj → (∀ e ∈ oj.after, Region.binds .any e = true → L e.on = true) → ∀ i, (acc.getD j 0).testBit i = true → L i = true) →
    ∀ j oj, ops[j]? = some oj → (∀ e ∈ oj.after, Region.binds .any e = true → L e.on = true) → ∀ i, ((l.foldl (fun acc o => acc.push (o.after.foldl (fun s e => if Region.binds .any e then s ||| 2 ^ e.on ||| acc.getD e.on 0 else s) 0)) acc).getD j 0).testBit i = true → L i = true
  | [], acc, ⟨pre, h1, h2⟩, hacc, j, oj, hj, ha, i, hi => by
    simp only [List.append_nil] at h1
    subst h1
    have hlt2 : j < acc.size := by rw [← h2]; exact (List.getElem?_eq_some_iff.1 hj).1
    exact hacc j oj hlt2 hj ha i hi
  | o :: l, acc, ⟨pre, h1, h2⟩, hacc, j, oj, hj, ha, i, hi => by
    rw [List.foldl_cons] at hi
    refine before_fold hlt L hL l _ ⟨pre ++ [o], by rw [h1]; simp, by simp [h2]⟩ (fun j' oj' hj' hoj' ha' i' hi' => ?_) j oj hj ha i hi
    have ho : ops[acc.size]? = some o := by rw [h1, ← h2]; simp
    rcases Nat.lt_or_ge j' acc.size with hlt2 | hge
    · have : (acc.push (o.after.foldl (fun s e => if Region.binds .any e then s ||| 2 ^ e.on ||| acc.getD e.on 0 else s) 0)).getD j' 0 = acc.getD j' 0 := by
        simp [Array.getElem?_push, Nat.ne_of_lt hlt2]
      rw [this] at hi'
      exact hacc j' oj' hlt2 hoj' ha' i' hi'
    · have hj2 : j' = acc.size := by simp at hj'; omega
      subst hj2
      rw [ho] at hoj'; cases hoj'
      have : (acc.push (o.after.foldl (fun s e => if Region.binds .any e then s ||| 2 ^ e.on ||| acc.getD e.on 0 else s) 0)).getD acc.size 0 = o.after.foldl (fun s e => if Region.binds .any e then s ||| 2 ^ e.on ||| acc.getD e.on 0 else s) 0 := by
        simp
      rw [this, ← Array.foldl_toList] at hi'
      rcases inner_fold acc _ _ _ hi' with h3 | ⟨e, he, hb, h3⟩
      · simp at h3
      · have he' : e ∈ o.after := by simpa using he
        rcases h3 with rfl | h3
        · exact ha' e he' hb
        · have hon := hlt _ _ ho e he' hb
          have hoe : ∃ oe, ops[e.on]? = some oe := by
            have : e.on < ops.length := by rw [h1]; simp; omega
            exact ⟨ops[e.on], List.getElem?_eq_getElem this⟩
          obtain ⟨oe, hoe⟩ := hoe
          exact hacc e.on oe hon hoe (fun e2 he2 hb2 => hL e.on oe (by simpa using hoe) (ha' e he' hb) e2 he2 hb2) i' h3
theorem before_anc (hlt : ∀ j oj, ops[j]? = some oj → ∀ e ∈ oj.after, Region.binds .any e = true → e.on < j) {j i : Nat} {oj : Oper} (hj : ops[j]? = some oj) (h : ((Region.before ⟨ops⟩).getD j 0).testBit i = true) : anc ops j i := by
  intro L hL ha
  refine before_fold hlt L hL ops #[] ⟨[], rfl, rfl⟩ (fun j oj h => by simp at h) j oj hj (ha oj hj) i ?_
  have : (Region.before ⟨ops⟩) = ops.foldl (fun acc o => acc.push (o.after.foldl (fun s e => if Region.binds .any e then s ||| 2 ^ e.on ||| acc.getD e.on 0 else s) 0)) #[] := by
    unfold Region.before
    rw [← Array.foldl_toList]
  rw [this] at h
  exact h
theorem anc_trans {j k i : Nat} (hk : anc ops j k) (hi : anc ops k i) : anc ops j i := fun L hL ha =>
  hi L hL fun ok hok e he hb => hL k ok (by simpa using hok) (hk L hL ha) e he hb
theorem anc_direct {j : Nat} {oj : Oper} (hj : ops[j]? = some oj) {e : Edge} (he : e ∈ oj.after) (hb : Region.binds .any e = true) : anc ops j e.on := fun L _ ha => ha oj hj e he hb
theorem anc_lt (hlt : ∀ j oj, ops[j]? = some oj → ∀ e ∈ oj.after, Region.binds .any e = true → e.on < j) {j k : Nat} (h : anc ops j k) : k < j := by
  have := h (fun i => decide (i < j)) (fun i oi hoi hi e he hb => by
    have h1 := hlt i oi (by simpa using hoi) e he hb
    simp at hi ⊢; omega) (fun oj hj e he hb => by simpa using hlt j oj hj e he hb)
  simpa using this
end

section
variable {E : Env} {P : Program} {call : Caller}
structure Chain (E : Env) (call : Caller) (ops : List Oper) (j n : Nat) (TM : Nat → Tm) (S : Nat → St) (V : Nat → Value) (S' : Nat → St) : Prop where
  step : ∀ i o, j ≤ i → i < n → ops[i]? = some o → TM (i + 1) = (TM i).lay o.dst (V i) ∧ S (i + 1) = clearSt (S' i) ∧
    ((wantedV ops (TM i) o.guard = true ∧ opV E call (evOp (TM i)) (S i) o.op = some (V i, S' i)) ∨ (wantedV ops (TM i) o.guard = false ∧ V i = .tuple ⟨[]⟩ ∧ S' i = S i))
  clear : ∀ i, j ≤ i → i ≤ n → (S i).acc = 0 ∧ (S i).wr = 0
  apart : ∀ i k, j ≤ i → i < k → k < n → ((Region.before ⟨ops⟩).getD k 0).testBit i = true ∨ ((∀ b, ¬ (In (S' i).wr b ∧ In (S' k).acc b)) ∧ (∀ b, ¬ (In (S' i).acc b ∧ In (S' k).wr b)))
theorem land_zero {a b : Nat} (h : Nat.beq (Nat.land a b) 0 = true) (i : Nat) : ¬ (In a i ∧ In b i) := by
  have h1 : (a &&& b) = 0 := Nat.eq_of_beq_eq_true h
  rintro ⟨h2, h3⟩
  have : (a &&& b).testBit i = true := by rw [Nat.testBit_and, h2, h3]; rfl
  rw [h1] at this
  simp at this
theorem apartV_ok {b a r : Nat} : ∀ {l : List Seen}, apartV b a r l = true → ∀ x ∈ l, b.testBit x.i = true ∨ ((∀ c, ¬ (In x.wr c ∧ In a c)) ∧ (∀ c, ¬ (In x.acc c ∧ In r c)))
  | [], _, x, hx => by cases hx
  | y :: l, h, x, hx => by
    have h' : bo (bo (Nat.beq (Nat.land y.wr a) 0) (Nat.beq (Nat.land y.acc r) 0) false || Nat.testBit b y.i) (apartV b a r l) false = true := h
    rw [bo_eq] at h'
    split at h'
    · rename_i hc
      rcases List.mem_cons.1 hx with rfl | hx
      · rw [Bool.or_eq_true, bo_eq] at hc
        rcases hc with hc | hc
        · split at hc
          · rename_i h1
            exact .inr ⟨land_zero h1, land_zero hc⟩
          · cases hc
        · exact .inl hc
      · exact apartV_ok h' x hx
    · cases h'
theorem drawV_cons (ops : List Oper) (o : Oper) (l : List Oper) (j : Nat) (tm : Tm) (s : St) (seen : List Seen) : drawV E call ops (o :: l) j tm s seen = bo (wantedV ops tm o.guard) (ob (opV E call (evOp tm) (clearSt s) o.op) fun p => match p with
        | (v, s') => drawStep ops j s s' seen fun s seen => tm.put o.dst v fun tm => drawV E call ops l (Nat.succ j) tm s seen)
      (tm.put o.dst (.tuple ⟨[]⟩) fun tm => drawV E call ops l (Nat.succ j) tm s seen) := rfl
theorem clearSt_eq (s : St) : clearSt s = ⟨s.heap, s.next, 0, 0⟩ := by cases s; rfl
theorem zero_in (b : Nat) : ¬ In 0 b := by simp [In]

def Runs (E : Env) (call : Caller) (ops : List Oper) (j n : Nat) (tm : Tm) (s : St) (seen : List Seen) (tm' : Tm) (s' : St) : Prop :=
    ∃ TM S V S', Chain E call ops j (n) TM S V S' ∧ TM j = tm ∧ S j = clearSt s ∧ TM (n) = tm' ∧ S (n) = clearSt s' ∧
      (∀ i, j ≤ i → i < n → (∀ b, In (S' i).acc b → In s'.acc b) ∧ (∀ b, In (S' i).wr b → In s'.wr b)) ∧ (∀ b, In s.acc b → In s'.acc b) ∧ (∀ b, In s.wr b → In s'.wr b) ∧
      (∀ b, In s'.acc b → In s.acc b ∨ ∃ i, j ≤ i ∧ i < n ∧ In (S' i).acc b) ∧ (∀ b, In s'.wr b → In s.wr b ∨ ∃ i, j ≤ i ∧ i < n ∧ In (S' i).wr b) ∧
      (∀ i, j ≤ i → i < n → ∀ x ∈ seen, ((Region.before ⟨ops⟩).getD i 0).testBit x.i = true ∨ ((∀ b, ¬ (In x.wr b ∧ In (S' i).acc b)) ∧ (∀ b, ¬ (In x.acc b ∧ In (S' i).wr b))))
theorem draw_chain (hE : EnvOk E P) (hC : CallerOk P call) (ops : List Oper) : ∀ (l : List Oper) (j : Nat) (tm : Tm) (s : St) (seen : List Seen) {tm' : Tm} {s' : St}, l = ops.drop j → drawV E call ops l j tm s seen = some (tm', s') →
    Runs E call ops j (j + l.length) tm s seen tm' s'
  | [], j, tm, s, seen, tm', s', hl, h => by
    have := Option.some.inj h
    simp only [Prod.mk.injEq] at this
    obtain ⟨rfl, rfl⟩ := this
    refine ⟨fun _ => tm, fun _ => clearSt s, fun _ => undef, fun _ => clearSt s, ⟨fun i o h1 h2 => by simp at h2; omega, fun i h1 h2 => by rw [clearSt_eq]; exact ⟨rfl, rfl⟩, fun i k h1 h2 h3 => by simp at h3; omega⟩, rfl, rfl, rfl, rfl, fun i h1 h2 => by simp at h2; omega, fun _ h => h, fun _ h => h, fun _ h => .inl h, fun _ h => .inl h, fun i h1 h2 => by simp at h2; omega⟩
  | o :: l, j, tm, s, seen, tm', s', hl, h => by
    have hk : ops[j]? = some o := by
      have := congrArg (·[0]?) hl
      simpa using this.symm
    have hl' : l = ops.drop (j + 1) := by
      have := congrArg (List.drop 1) hl
      simpa [List.drop_drop, Nat.add_comm] using this
    rw [drawV_cons] at h
    -- the rest, glued to one more operation
    have glue : ∀ (v : Value) (s1 : St) (s2 : St) (seen2 : List Seen), drawV E call ops l (j + 1) (tm.lay o.dst v) s2 seen2 = some (tm', s') → clearSt s2 = clearSt s1 →
        ((wantedV ops tm o.guard = true ∧ opV E call (evOp tm) (clearSt s) o.op = some (v, s1)) ∨ (wantedV ops tm o.guard = false ∧ v = .tuple ⟨[]⟩ ∧ s1 = clearSt s)) →
        (∀ b, In s1.acc b → In s2.acc b) → (∀ b, In s1.wr b → In s2.wr b) → (∀ b, In s.acc b → In s2.acc b) → (∀ b, In s.wr b → In s2.wr b) → (∀ b, In s2.acc b → In s.acc b ∨ In s1.acc b) → (∀ b, In s2.wr b → In s.wr b ∨ In s1.wr b) →
        (∀ x ∈ seen, x ∈ seen2) → ((∃ x ∈ seen2, x.i = j ∧ x.acc = s1.acc ∧ x.wr = s1.wr) ∨ ((∀ b, ¬ In s1.acc b) ∧ ∀ b, ¬ In s1.wr b)) →
        (∀ x ∈ seen, ((Region.before ⟨ops⟩).getD j 0).testBit x.i = true ∨ ((∀ b, ¬ (In x.wr b ∧ In s1.acc b)) ∧ (∀ b, ¬ (In x.acc b ∧ In s1.wr b)))) → Runs E call ops j (j + (o :: l).length) tm s seen tm' s' := by
      intro v s1 s2 seen2 hd hc hstep ha1 hw1 ha2 hw2 ha3 hw3 hseen hself hbef
      obtain ⟨TM, S, V, S', hch, e1, e2, e3, e4, hsub, hA, hW, hA2, hW2, hsn⟩ := draw_chain hE hC ops l (j + 1) (tm.lay o.dst v) s2 seen2 hl' hd
      have hlen : j + (o :: l).length = j + 1 + l.length := by simp; omega
      rw [hlen]
      refine ⟨fun i => if i = j then tm else TM i, fun i => if i = j then clearSt s else S i, fun i => if i = j then v else V i, fun i => if i = j then s1 else S' i, ⟨fun i oi h1 h2 hoi => ?_, fun i h1 h2 => ?_, fun i k h1 h2 h3 => ?_⟩, ?_, ?_, ?_, ?_, fun i h1 h2 => ?_, fun b hb => hA b (ha2 b hb), fun b hb => hW b (hw2 b hb), fun b hb => ?_, fun b hb => ?_, fun i h1 h2 x hx => ?_⟩
      · by_cases hij : i = j
        · subst hij
          rw [hk] at hoi; cases hoi
          simp only [if_true, show ¬ i + 1 = i by omega, if_false]
          refine ⟨e1, ?_, ?_⟩
          · rw [e2]; exact hc
          · exact hstep
        · simp only [hij, if_false, show ¬ i + 1 = j by omega]
          exact hch.step i oi (by omega) h2 hoi
      · by_cases hij : i = j
        · subst hij; rw [if_pos rfl, clearSt_eq]; exact ⟨rfl, rfl⟩
        · simp only [hij, if_false]; exact hch.clear i (by omega) h2
      · have hkj : ¬ k = j := by omega
        simp only [hkj, if_false]
        by_cases hij : i = j
        · subst hij
          simp only [if_true]
          rcases hself with ⟨x, hx, hxi, hxa, hxw⟩ | ⟨q1, q2⟩
          · have := hsn k (by omega) h3 x hx
            rw [hxi, hxa, hxw] at this
            exact this
          · exact .inr ⟨fun b hb => q2 b hb.1, fun b hb => q1 b hb.1⟩
        · simp only [hij, if_false]
          exact hch.apart i k (by omega) h2 h3
      · simp
      · simp
      · simp only [show ¬ j + 1 + l.length = j by omega, if_false]; exact e3
      · simp only [show ¬ j + 1 + l.length = j by omega, if_false]; exact e4
      · by_cases hij : i = j
        · simp only [hij, if_true]; exact ⟨fun b hb => hA b (ha1 b hb), fun b hb => hW b (hw1 b hb)⟩
        · simp only [hij, if_false]; exact hsub i (by omega) h2
      · rcases hA2 b hb with h4 | ⟨i, h5, h6, h7⟩
        · rcases ha3 b h4 with h4 | h4
          · exact .inl h4
          · exact .inr ⟨j, Nat.le_refl _, by omega, by simpa using h4⟩
        · exact .inr ⟨i, by omega, h6, by simpa [show ¬ i = j by omega] using h7⟩
      · rcases hW2 b hb with h4 | ⟨i, h5, h6, h7⟩
        · rcases hw3 b h4 with h4 | h4
          · exact .inl h4
          · exact .inr ⟨j, Nat.le_refl _, by omega, by simpa using h4⟩
        · exact .inr ⟨i, by omega, h6, by simpa [show ¬ i = j by omega] using h7⟩
      · by_cases hij : i = j
        · subst hij; simp only [if_true]; exact hbef x hx
        · simp only [hij, if_false]
          exact hsn i (by omega) h2 x (hseen x hx)
    cases hw : wantedV ops tm o.guard with
    | true =>
      rw [hw, bo_true] at h
      obtain ⟨⟨v, s1⟩, h1, h2⟩ := ob_eq h
      obtain ⟨hg1, _⟩ := opV_ok (o := o) hE hC h1
      have hsub1 : ∀ b, In s1.wr b → In s1.acc b := hg1.sub (fun b hb => by rw [clearSt_eq] at hb; exact absurd hb (zero_in b))
      obtain ⟨h0, n0, a0, r0⟩ := s
      obtain ⟨hh, nn, aa, rr⟩ := s1
      simp only [drawStep, Tm.put_eq] at h2
      cases hz : Nat.beq aa 0 with
      | true =>
        rw [hz, bo_true] at h2
        have haa : aa = 0 := Nat.eq_of_beq_eq_true hz
        subst haa
        have hrr : ∀ b, ¬ In rr b := fun b hb => zero_in b (hsub1 b hb)
        exact glue v ⟨hh, nn, 0, rr⟩ ⟨hh, nn, a0, r0⟩ seen h2 rfl (.inl ⟨hw, h1⟩) (fun b hb => absurd hb (zero_in b)) (fun b hb => absurd hb (hrr b)) (fun b hb => hb) (fun b hb => hb) (fun b hb => .inl hb) (fun b hb => .inl hb) (fun x hx => hx) (.inr ⟨zero_in, hrr⟩) (fun x hx => .inr ⟨fun b hb => zero_in b hb.2, fun b hb => hrr b hb.2⟩)
      | false =>
        rw [hz, bo_false] at h2
        obtain ⟨h3, h4⟩ := bo_none h2
        simp only [nowN_eq] at h4
        refine glue v ⟨hh, nn, aa, rr⟩ ⟨hh, nn, a0 ||| aa, r0 ||| rr⟩ (⟨j, aa, rr⟩ :: seen) h4 rfl (.inl ⟨hw, h1⟩) (fun b hb => (in_lor _ _ _).2 (.inr hb)) (fun b hb => (in_lor _ _ _).2 (.inr hb)) (fun b hb => (in_lor _ _ _).2 (.inl hb)) (fun b hb => (in_lor _ _ _).2 (.inl hb)) (fun b hb => (in_lor _ _ _).1 hb) (fun b hb => (in_lor _ _ _).1 hb) (fun x hx => List.mem_cons_of_mem _ hx) (.inl ⟨⟨j, aa, rr⟩, by simp, rfl, rfl, rfl⟩) (apartV_ok h3)
    | false =>
      rw [hw, bo_false] at h
      simp only [Tm.put_eq] at h
      have hca : ∀ b, ¬ In (clearSt s).acc b := fun b => by rw [clearSt_eq]; exact zero_in b
      have hcw : ∀ b, ¬ In (clearSt s).wr b := fun b => by rw [clearSt_eq]; exact zero_in b
      exact glue _ (clearSt s) s seen h (by simp [clearSt_eq]) (.inr ⟨hw, rfl, rfl⟩) (fun b hb => absurd hb (hca b)) (fun b hb => absurd hb (hcw b)) (fun b hb => hb) (fun b hb => hb) (fun b hb => .inl hb) (fun b hb => .inl hb) (fun x hx => hx) (.inr ⟨hca, hcw⟩) (fun x hx => .inr ⟨fun b hb => hca b hb.2, fun b hb => hcw b hb.2⟩)
end
end Go.Ev
