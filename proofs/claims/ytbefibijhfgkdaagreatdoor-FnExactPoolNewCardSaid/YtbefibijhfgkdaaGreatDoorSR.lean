/- A lemma text of the proof that what the evaluator answers holds of every run of the model. No condition beyond those that each theorem states. -/
import Derived.Test.YtbefibijhfgkdaaGreatDoorSQ
namespace Go.Ev
open Go
set_option linter.unusedSimpArgs false
set_option linter.unusedVariables false
section
variable {E : Env} {P : Program} {call : Caller} {ops : List Oper} {TM : Nat → Tm} {S S' : Nat → St} {V : Nat → Value} {X A0 : Nat → Prop} {ρ0 : Rho} {w0 : World} {W N : Nat} {a0 : Act}
theorem chain_kept (hE : EnvOk E P) (hC : CallerOk P call) (hch : Chain E call ops 0 ops.length TM S V S') {j : Nat} (hj : j ≤ ops.length) {b : Nat} (hb : b < (S 0).next) (hw : ∀ k, k < j → ¬ In (S' k).wr b) : (S j).heap.get b = (S 0).heap.get b := by
  induction j with
  | zero => rfl
  | succ j ih =>
    obtain ⟨h1, h2⟩ := chain_next hE hC hch (j := j) (by omega)
    rw [h2, (chain_grows hE hC hch (by omega)).kept b (by have := chain_mono hE hC hch (i := 0) (j := j) (Nat.zero_le _) (by omega); omega) (hw j (by omega)), ih (by omega) fun k hk => hw k (by omega)]
theorem chain_made (hE : EnvOk E P) (hC : CallerOk P call) (hch : Chain E call ops 0 ops.length TM S V S') {j : Nat} (hj : j ≤ ops.length) {b : Nat} (h1 : (S 0).next ≤ b) (h2 : b < (S j).next) : ∃ k, k < j ∧ In (S' k).wr b := by
  induction j with
  | zero => omega
  | succ j ih =>
    obtain ⟨h3, h4⟩ := chain_next hE hC hch (j := j) (by omega)
    rcases Nat.lt_or_ge b (S j).next with h5 | h5
    · obtain ⟨k, hk, hk2⟩ := ih (by omega) h5
      exact ⟨k, by omega, hk2⟩
    · exact ⟨j, by omega, (chain_grows hE hC hch (by omega)).made b h5 (by omega)⟩

theorem lay_succ (hE : EnvOk E P) (hC : CallerOk P call) (hch : Chain E call ops 0 ops.length TM S V S') (k : Nat) (vals : Nat → Value) : lay ⟨ops⟩ a0 (fun _ => true) vals (k + 1) = (lay ⟨ops⟩ a0 (fun _ => true) vals k).put (((⟨ops⟩ : Array Oper)[k]?).bind (·.dst)) (vals k) := by
  have _h1 := hE
  have _h2 := hC
  have _h3 := hch
  conv => lhs; unfold lay
  simp
theorem tm_rel (hE : EnvOk E P) (hC : CallerOk P call) (hch : Chain E call ops 0 ops.length TM S V S') (hops : ∀ o ∈ ops, operOk N o = true) {j : Nat} {L : Nat → Bool} {vals : Nat → Value} {w : World} {ρ : Rho} (hA : ∀ i, A0 i → i < (S 0).next) (hLn : ∀ k, L k = true → k < ops.length) (hI : Inv P ops S S' V X A0 ρ0 w0 W L vals w ρ) (ht0 : TmR A0 ρ0 N (TM 0) a0) (t : Nat) :
    ∀ k, k ≤ ops.length → (∀ i o, i < k → ops[i]? = some o → o.dst = some t → anc ops j i ∧ L i = true) → VR (Dp ops S A0 j) ρ (valOr ((TM k).get t)) ((lay ⟨ops⟩ a0 (fun _ => true) vals k).tmps.getD t undef)
  | 0, _, _ => by
    refine (ht0.2 t).mono (fun i hi => .inl hi) fun i hi => ?_
    refine hI.same i fun k hk hr => ?_
    have := hA i hi
    have := chain_mono hE hC hch (i := 0) (j := k) (Nat.zero_le _) (Nat.le_of_lt (hLn k hk))
    have := hr.1; omega
  | k + 1, hk, h => by
    obtain ⟨o, ho⟩ : ∃ o, ops[k]? = some o := ⟨ops[k], List.getElem?_eq_getElem (by omega)⟩
    have hoo := hops o (List.mem_of_getElem? ho)
    have ih := tm_rel hE hC hch hops hA hLn hI ht0 t k (by omega) fun i oi hi => h i oi (by omega)
    rw [lay_succ hE hC hch, (hch.step k o (Nat.zero_le _) (by omega) ho).1]
    have ho' : (⟨ops⟩ : Array Oper)[k]? = some o := by simpa using ho
    rw [ho']
    simp only [Option.bind_some]
    cases hd : o.dst with
    | none => exact ih
    | some d =>
      have hdN := operOk_dst hoo d hd
      have hsz : (lay ⟨ops⟩ a0 (fun _ => true) vals k).tmps.size = N := by rw [lay_size]; exact ht0.1
      rw [put_getD _ d t _ (by rw [hsz]; exact hdN)]
      unfold Tm.lay
      simp only [T.get_put]
      by_cases htd : t = d
      · subst htd
        simp only [if_true]
        obtain ⟨h1, h2⟩ := h k o (by omega) ho hd
        refine (hI.vals k h2).mono (fun i hi => ?_) (fun _ _ => rfl)
        rcases hi with (hi | ⟨k2, hi, hr⟩) | hi
        · exact .inl hi
        · exact .inr ⟨k2, anc_trans h1 hi, hr⟩
        · exact .inr ⟨k, h1, hi⟩
      · simp only [htd, if_false]; exact ih
end

section
variable {E : Env} {P : Program} {call : Caller} {N : Nat} {tm tm' : Tm} {s s' : St}
theorem drawV_ok (hE : EnvOk E P) (hC : CallerOk P call) (hm : P.follows .mixedOrders = true) {ops : List Oper} (hops : ∀ o ∈ ops, operOk N o = true) (hrel : relOkG ⟨ops⟩ = true) (h : drawV E call ops ops 0 tm s [] = some (tm', s')) :
    Grows s s' ∧ ∀ X A ρ w a Q id, Pre P X A ρ s s' w → Gl A ρ → TmR A ρ N tm a → (∀ a' w', Left P X A ρ N s s' w a tm' a' w' → Q Exit.normal a' w') → (Code.region id ⟨ops⟩ true).wp P Q a w := by
  obtain ⟨TM, S, V, S', hch, e1, e2, e3, e4, hsub, hA1, hW1, hA2, hW2, _⟩ := draw_chain hE hC ops ops 0 tm s [] (by simp) h
  rw [Nat.zero_add] at hch e3 e4 hsub hA2 hW2
  have hS0 : (S 0).next = s.next ∧ (S 0).heap = s.heap := by rw [e2, clearSt_eq]; exact ⟨rfl, rfl⟩
  have hSn : (S ops.length).next = s'.next ∧ (S ops.length).heap = s'.heap := by rw [e4, clearSt_eq]; exact ⟨rfl, rfl⟩
  have hspec := relOkG_spec hrel
  have hlt : ∀ j oj, ops[j]? = some oj → ∀ e ∈ oj.after, Region.binds .any e = true → e.on < j := fun j oj hj => (hspec.2 j oj (by simpa using hj)).1
  have hgrows : Grows s s' := by
    refine ⟨?_, hA1, hW1, fun b h1 h2 => ?_, fun hs b hb => ?_, fun b hb hw => ?_, fun ha b hb => ?_⟩
    · rw [← hS0.1, ← hSn.1]; exact chain_mono hE hC hch (Nat.zero_le _) (Nat.le_refl _)
    · obtain ⟨k, hk, hk2⟩ := chain_made hE hC hch (Nat.le_refl _) (b := b) (by omega) (by omega)
      exact (hsub k (Nat.zero_le _) hk).2 b hk2
    · rcases hW2 b hb with h1 | ⟨i, _, h2, h3⟩
      · exact hA1 b (hs b h1)
      · exact (hsub i (Nat.zero_le _) h2).1 b (chain_sub hE hC hch h2 h3)
    · rw [← hSn.2, ← hS0.2]
      exact chain_kept hE hC hch (Nat.le_refl _) (by omega) fun k hk hw' => hw ((hsub k (Nat.zero_le _) hk).2 b hw')
    · rw [← hSn.2]
      exact chain_above hE hC hch (by rw [hS0.1, hS0.2]; exact ha) (Nat.le_refl _) b (by omega)
  refine ⟨hgrows, fun X A ρ w a Q id hp hgl ht hQ => ?_⟩
  have hab : ∀ b, (S 0).next ≤ b → (S 0).heap.get b = none := by rw [hS0.1, hS0.2]; exact hp.above
  have hA : ∀ i, A i → i < (S 0).next := by rw [hS0.1]; exact hp.lt
  have hX : ∀ k, k < ops.length → ∀ b, In (S' k).acc b → X b := fun k hk b hb => hp.acc b ((hsub k (Nat.zero_le _) hk).1 b hb)
  have hW : ∀ k, k < ops.length → ∀ b, In (S' k).wr b → In s'.wr b := fun k hk => (hsub k (Nat.zero_le _) hk).2
  have ht0 : TmR A ρ N (TM 0) a := by rw [e1]; exact ht
  refine wp_region_inv hm hrel (fun L vals w1 => (∀ k, L k = true → k < ops.length) ∧ ∃ ρ1, Inv P ops S S' V X A ρ w.drew s'.wr L vals w1 ρ1) (fun L vals w1 i o ho hLi haf hL hLn hI => ?_) (fun L vals w1 hall hI => ?_) ?_
  · obtain ⟨hLn', ρ1, hI⟩ := hI
    have ho' : ops[i]? = some o := by simpa using ho
    have hi : i < ops.length := (List.getElem?_eq_some_iff.1 ho').1
    have hoo := hops o (List.mem_of_getElem? ho')
    have hLn2 : ∀ k, upd L i true k = true → k < ops.length := fun k hk => by
      unfold upd at hk; split at hk
      · omega
      · exact hLn' k hk
    -- what the operation looks at
    have hlook : ∀ t, t ∈ o.looksAt ⟨ops⟩ → VR (Dp ops S A i) ρ1 (valOr ((TM i).get t)) ((lay ⟨ops⟩ a (fun _ => true) vals i).tmps.getD t undef) := fun t htl =>
      tm_rel hE hC hch hops hA hLn' hI ht0 t i (by omega) fun k ok hk hok hd => by
        rcases (hspec.2 i o ho).2.1 k ok hk (by simpa using hok) with ⟨e, he, hb, hon⟩ | hap
        · subst hon
          exact ⟨anc_direct ho' he hb, haf e he hb⟩
        · exact absurd htl ((Oper.apart_spec hap).1 t hd)
    have hgl1 : Gl (Dp ops S A i) ρ1 := hgl.mono (fun j hj => .inl hj) fun j hj => hI.same j fun k hk hr => by
      have := hA j hj
      have := chain_mono hE hC hch (i := 0) (j := k) (Nat.zero_le _) (Nat.le_of_lt (hLn' k hk))
      have := hr.1; omega
    have hst := inv_state hE hC hlt hch hab hX ho' hLi haf hL hLn' hI
    have hwant : Region.wanted o (yielded ⟨ops⟩ (lay ⟨ops⟩ a (fun _ => true) vals i).tmps) = wantedV ops (TM i) o.guard := by
      refine wanted_ok (A := Dp ops S A i) (ρ := ρ1) (N := N) (by rw [lay_size]; exact ht0.1) (fun p hp d hd => operOk_dst (hops p hp) d hd) fun g want hg d hd => ?_
      refine hlook d ?_
      unfold Oper.looksAt
      refine List.mem_append_right _ ?_
      have : ((⟨ops⟩ : Array Oper)[g]?).bind (·.dst) = some d := by
        unfold dstOf at hd
        rw [nthL_eq] at hd
        simp only [List.getElem?_toArray]
        cases hq : ops[g]? with
        | none => rw [hq] at hd; cases hd
        | some p => rw [hq] at hd; exact hd
      rw [hg]
      simp only [this]
      simp
    rw [hwant]
    rcases (hch.step i o (Nat.zero_le _) hi ho').2.2 with ⟨hw1, hop⟩ | ⟨hw1, hv, hs⟩
    · refine ⟨fun _ => ?_, fun hf => by rw [hw1] at hf; cases hf⟩
      obtain ⟨hg1, hopk⟩ := opV_ok hE hC hop
      have hpre : Pre P (In (S' i).acc) (Dp ops S A i) ρ1 (S i) (S' i) w1 := ⟨Dp_lt hE hC hlt hch hA hi, chain_above hE hC hch hab (Nat.le_of_lt hi), fun b hb => hb, hst⟩
      refine Oper.wp_mono (fun a' w' hpost => ?_) (hopk (In (S' i).acc) (Dp ops S A i) ρ1 w1 (lay ⟨ops⟩ a (fun _ => true) vals i) _ hpre hgl1 fun x hx => evOp_ok (operOk_opnd hoo x hx) hgl1 fun t hxt => hlook t ?_)
      · obtain ⟨v', ha', ρ2, hv2, hG⟩ := hpost
        exact ⟨v', ha', hLn2, ρ2, inv_step hE hC hlt hch hab hA hX hW ho' hLi haf hL hLn' hI hv2 hG⟩
      · subst hxt
        exact List.mem_append_left _ (List.mem_filterMap.2 ⟨.tmp t, by simpa using hx, rfl⟩)
    · refine ⟨fun hf => (by rw [hw1] at hf; cases hf), fun _ => ⟨hLn2, ρ1, ?_⟩⟩
      refine inv_step hE hC hlt hch hab hA hX hW ho' hLi haf hL hLn' hI ?_ ?_
      · rw [hv]; exact VR.undef
      · rw [hs] at hst ⊢
        exact Good.refl hst (chain_above hE hC hch hab (Nat.le_of_lt hi))
  · obtain ⟨hLn', ρ1, hI⟩ := hI
    have hall' : ∀ i, i < ops.length → L i = true := fun i hi => hall i (by simpa using hi)
    have hagA : ∀ i, A i → ρ1 i = ρ i := fun i hi => hI.same i fun k hk hr => by
      have := hA i hi
      have := chain_mono hE hC hch (i := 0) (j := k) (Nat.zero_le _) (Nat.le_of_lt (hLn' k hk))
      have := hr.1; omega
    have hrng : ∀ k i, k < ops.length → rng S k i → s.next ≤ i ∧ i < s'.next := fun k i hk hr => by
      have h1 := chain_mono hE hC hch (i := 0) (j := k) (Nat.zero_le _) (Nat.le_of_lt hk)
      have h2 := chain_mono hE hC hch (i := k + 1) (j := ops.length) (by omega) (Nat.le_refl _)
      have := hr.1; have := hr.2; omega
    have hDA : ∀ k, k < ops.length → ∀ i, DA ops S A k i → SetAdd A s.next s'.next i := fun k hk i hi => by
      rcases hi with (hi | ⟨k2, hi, hr⟩) | hi
      · exact .inl hi
      · have := anc_lt hlt hi
        exact .inr (hrng k2 i (by omega) hr)
      · exact .inr (hrng k i hk hi)
    have hcur : ∀ b o, s'.heap.get b = some o → ((∀ k, k < ops.length → ¬ In (S' k).wr b) ∧ s.heap.get b = some o ∧ Cur ops S S' A L b o A) ∨ ∃ k, k < ops.length ∧ In (S' k).wr b ∧ Cur ops S S' A L b o (DA ops S A k) := by
      intro b o hb
      rw [← hSn.2] at hb
      rcases chain_last hE hC hch hab (Nat.le_refl _) hb with ⟨h1, h2⟩ | ⟨k, h1, h2, h3, h4⟩
      · exact .inl ⟨h1, by rw [← hS0.2]; exact h2, .inl ⟨fun k hk => h1 k (hLn' k hk), h2, rfl⟩⟩
      · exact .inr ⟨k, h1, h2, .inr ⟨k, hall' k h1, h2, fun k' hk' hw' => h3 k' (hLn' k' hk') hw', h4, rfl⟩⟩
    have hcurD : ∀ b o, s'.heap.get b = some o → ∃ D, Cur ops S S' A L b o D ∧ ∀ i, D i → SetAdd A s.next s'.next i := by
      intro b o hb
      rcases hcur b o hb with ⟨_, _, h1⟩ | ⟨k, hk, _, h1⟩
      · exact ⟨A, h1, fun i hi => .inl hi⟩
      · exact ⟨_, h1, hDA k hk⟩
    refine hQ _ w1 ⟨?_, ρ1, ?_, ⟨hgrows.next, fun i hi => ?_, ⟨fun b o hx hb => ?_, fun b b' o o' hx hx' hb hb' e => ?_⟩, ?_, fun b hb hne => ?_, fun b hb hb2 hne => ?_, hgrows.kept, hgrows.above hp.above⟩⟩
    · have : ∀ k, (lay ⟨ops⟩ a (fun _ => true) vals k).defers = a.defers := fun k => by
        induction k with
        | zero => rfl
        | succ k ih => rw [lay_succ hE hC hch, put_defers', ih]
      exact this _
    · have key : ∀ k, k ≤ ops.length → TmR (SetAdd A s.next s'.next) ρ1 N (TM k) (lay ⟨ops⟩ a (fun _ => true) vals k) := fun k => by
        induction k with
        | zero => exact fun _ => ht0.mono (fun i hi => .inl hi) hagA
        | succ k ih =>
          intro hk
          obtain ⟨o, ho⟩ : ∃ o, ops[k]? = some o := ⟨ops[k], List.getElem?_eq_getElem (by omega)⟩
          rw [lay_succ hE hC hch, (hch.step k o (Nat.zero_le _) (by omega) ho).1]
          have ho' : (⟨ops⟩ : Array Oper)[k]? = some o := by simpa using ho
          rw [ho']
          exact (ih (by omega)).put ((hI.vals k (hall' k (by omega))).mono (hDA k (by omega)) (fun _ _ => rfl)) (operOk_dst (hops o (List.mem_of_getElem? ho)))
      rw [← e3]
      exact key ops.length (Nat.le_refl _)
    · exact hI.same i fun k hk hr => hi (hrng k i (hLn' k hk) hr)
    · obtain ⟨D, hc, hD⟩ := hcurD b o hb
      obtain ⟨h1, x, h2, h3⟩ := hI.obj b o D hx hc
      exact ⟨hD b h1, x, h2, h3.mono hD (fun _ _ => rfl)⟩
    · obtain ⟨D, hc, _⟩ := hcurD b o hb
      obtain ⟨D', hc', _⟩ := hcurD b' o' hb'
      exact hI.inj b b' o o' D D' hx hx' hc hc' e
    · have := hI.frame
      rw [hS0.2] at this
      exact ⟨this.os, this.tape, this.output, this.size, this.block⟩
    · obtain ⟨o, ho⟩ := Option.ne_none_iff_exists'.1 hne
      rcases hcur b o ho with ⟨_, h1, _⟩ | ⟨k, hk, hw, hc⟩
      · rw [h1]; simp
      · have := hI.old b o _ (hX k hk b (chain_sub hE hC hch hk hw)) hc (by omega)
        rw [hS0.2] at this; exact this
    · obtain ⟨o, ho⟩ := Option.ne_none_iff_exists'.1 hne
      rcases hcur b o ho with ⟨_, h1, _⟩ | ⟨k, hk, hw, hc⟩
      · rw [hp.above b hb] at h1; cases h1
      · have := hI.fresh b o _ (hX k hk b (chain_sub hE hC hch hk hw)) hc (by omega)
        rw [hS0.2] at this; exact this
  · refine ⟨fun k hk => (by cases hk), ρ, fun i _ => rfl, fun b o D hx hc => ?_, fun b b' o o' D D' hx hx' hc hc' e => ?_, fun k hk => (by cases hk), ⟨rfl, rfl, rfl, Nat.le_refl _, fun _ _ _ => rfl⟩, fun b o D hx hc hb => ?_, fun b o D hx hc hb => ?_⟩
    · rcases hc with ⟨_, h1, rfl⟩ | ⟨k, hk, _⟩
      · rw [hS0.2] at h1
        exact hp.st.obj b o hx h1
      · cases hk
    · rcases hc with ⟨_, h1, rfl⟩ | ⟨k, hk, _⟩
      · rcases hc' with ⟨_, h2, rfl⟩ | ⟨k, hk, _⟩
        · rw [hS0.2] at h1 h2
          exact hp.st.inj b b' o o' hx hx' h1 h2 e
        · cases hk
      · cases hk
    · rcases hc with ⟨_, h1, rfl⟩ | ⟨k, hk, _⟩
      · rw [h1]; simp
      · cases hk
    · rcases hc with ⟨_, h1, rfl⟩ | ⟨k, hk, _⟩
      · rw [hab b hb] at h1; cases h1
      · cases hk
end
end Go.Ev
