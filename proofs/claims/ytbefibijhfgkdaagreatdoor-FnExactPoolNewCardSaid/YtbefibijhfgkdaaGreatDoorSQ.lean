/- A lemma text of the proof that what the evaluator answers holds of every run of the model. No condition beyond those that each theorem states. -/
import Derived.Test.YtbefibijhfgkdaaGreatDoorSP
namespace Go.Ev
open Go
set_option linter.unusedSimpArgs false
set_option linter.unusedVariables false
section
variable {E : Env} {P : Program} {call : Caller} {ops : List Oper} {TM : Nat → Tm} {S S' : Nat → St} {V : Nat → Value} {X A0 : Nat → Prop} {ρ0 : Rho} {w0 : World} {W : Nat}
theorem rng_apart (hE : EnvOk E P) (hC : CallerOk P call) (hch : Chain E call ops 0 ops.length TM S V S') {k j : Nat} (hkj : k ≠ j) (hk : k < ops.length) (hj : j < ops.length) {i : Nat} (h : rng S k i) : ¬ rng S j i := by
  rintro ⟨h1, h2⟩
  obtain ⟨h3, h4⟩ := h
  rcases Nat.lt_or_ge k j with h5 | h5
  · have := chain_mono hE hC hch (i := k + 1) (j := j) (by omega) (by omega); omega
  · have := chain_mono hE hC hch (i := j + 1) (j := k) (by omega) (by omega); omega

theorem Dp_lt (hE : EnvOk E P) (hC : CallerOk P call) (hlt : ∀ j oj, ops[j]? = some oj → ∀ e ∈ oj.after, Region.binds .any e = true → e.on < j) (hch : Chain E call ops 0 ops.length TM S V S') (hA : ∀ i, A0 i → i < (S 0).next) {j : Nat} (hj : j < ops.length) : ∀ i, Dp ops S A0 j i → i < (S j).next := by
  rintro i (h | ⟨k, hk, hr⟩)
  · have := hA i h
    have := chain_mono hE hC hch (i := 0) (j := j) (by omega) (by omega); omega
  · have hkj := anc_lt hlt hk
    have := chain_mono hE hC hch (i := k + 1) (j := j) (by omega) (by omega)
    have := hr.2; omega

variable {L : Nat → Bool} {vals : Nat → Value} {w : World} {ρ : Rho} {j : Nat} {oj : Oper}
theorem inv_state (hE : EnvOk E P) (hC : CallerOk P call) (hlt : ∀ j oj, ops[j]? = some oj → ∀ e ∈ oj.after, Region.binds .any e = true → e.on < j) (hch : Chain E call ops 0 ops.length TM S V S') (hab : ∀ b, (S 0).next ≤ b → (S 0).heap.get b = none) (hX : ∀ k, k < ops.length → ∀ b, In (S' k).acc b → X b) (hoj : ops[j]? = some oj) (hLj : L j = false) (haf : ∀ e ∈ oj.after, Region.binds .any e = true → L e.on = true) (hL : Closed ⟨ops⟩ L) (hLn : ∀ k, L k = true → k < ops.length) (hI : Inv P ops S S' V X A0 ρ0 w0 W L vals w ρ) : StateR P (In (S' j).acc) (Dp ops S A0 j) ρ (S j).heap.get w := by
  have hj : j < ops.length := (List.getElem?_eq_some_iff.1 hoj).1
  refine ⟨fun b o hacc h => ?_, fun b b' o o' hacc hacc' h h' e => ?_⟩
  · obtain ⟨D, hc, hsub⟩ := chain_cur (A0 := A0) hE hC hlt hch hab hoj hLj haf hL hLn hacc h
    obtain ⟨h1, x, h2, h3⟩ := hI.obj b o D (hX j hj b hacc) hc
    exact ⟨hsub b h1, x, h2, h3.mono hsub (fun _ _ => rfl)⟩
  · obtain ⟨D, hc, _⟩ := chain_cur (A0 := A0) hE hC hlt hch hab hoj hLj haf hL hLn hacc h
    obtain ⟨D', hc', _⟩ := chain_cur (A0 := A0) hE hC hlt hch hab hoj hLj haf hL hLn hacc' h'
    exact hI.inj b b' o o' D D' (hX j hj b hacc) (hX j hj b' hacc') hc hc' e

theorem inv_step (hE : EnvOk E P) (hC : CallerOk P call) (hlt : ∀ j oj, ops[j]? = some oj → ∀ e ∈ oj.after, Region.binds .any e = true → e.on < j) (hch : Chain E call ops 0 ops.length TM S V S') (hab : ∀ b, (S 0).next ≤ b → (S 0).heap.get b = none) (hA : ∀ i, A0 i → i < (S 0).next) (hX : ∀ k, k < ops.length → ∀ b, In (S' k).acc b → X b) (hW : ∀ k, k < ops.length → ∀ b, In (S' k).wr b → In W b) (hoj : ops[j]? = some oj) (hLj : L j = false) (haf : ∀ e ∈ oj.after, Region.binds .any e = true → L e.on = true) (hL : Closed ⟨ops⟩ L) (hLn : ∀ k, L k = true → k < ops.length) (hI : Inv P ops S S' V X A0 ρ0 w0 W L vals w ρ) {w' : World} {ρ' : Rho} {v' : Value} (hv : VR (SetAdd (Dp ops S A0 j) (S j).next (S' j).next) ρ' (V j) v') (hG : Good P (In (S' j).acc) (Dp ops S A0 j) ρ (S j) (S' j) w w' ρ') :
    Inv P ops S S' V X A0 ρ0 w0 W (upd L j true) (upd vals j v') w' ρ' := by
  have hj : j < ops.length := (List.getElem?_eq_some_iff.1 hoj).1
  obtain ⟨hn1, hn2⟩ := chain_next hE hC hch hj
  have hgr := chain_grows hE hC hch hj
  have hafter : ∀ k oj', ops[k]? = some oj' → L k = true → ∀ e ∈ oj'.after, Region.binds .any e = true → L e.on = true := fun k oj' h' hk => hL k oj' (by simpa using h') hk
  have hsub := fun b => chain_sub hE hC hch hj (b := b)
  have hcur := fun b o hacc h => chain_cur (A0 := A0) (b := b) (o := o) hE hC hlt hch hab hoj hLj haf hL hLn hacc h
  have hmono0 : (S 0).next ≤ (S j).next := chain_mono hE hC hch (Nat.zero_le _) (Nat.le_of_lt hj)
  -- what stands behind operation j
  have hsplit : ∀ b o D, Cur ops S S' A0 (upd L j true) b o D → (In (S' j).wr b ∧ (S' j).heap.get b = some o ∧ D = DA ops S A0 j) ∨ (¬ In (S' j).wr b ∧ Cur ops S S' A0 L b o D) := by
    intro b o D hc
    have hup : ∀ k, L k = true → upd L j true k = true := fun k hk => by unfold upd; split <;> first | rfl | exact hk
    have hjj : upd L j true j = true := by simp [upd]
    rcases hc with ⟨h1, h2, h3⟩ | ⟨k, h1, h2, h3, h4, h5⟩
    · exact .inr ⟨h1 j hjj, .inl ⟨fun k hk => h1 k (hup k hk), h2, h3⟩⟩
    · by_cases hw : In (S' j).wr b
      · have hkj : k = j := by
          rcases Nat.lt_trichotomy k j with h6 | h6 | h6
          · have := h3 j hjj hw; omega
          · exact h6
          · exfalso
            have hk : L k = true := by unfold upd at h1; rw [if_neg (by omega)] at h1; exact h1
            have hkn := hLn k hk
            obtain ⟨ok, hok⟩ : ∃ o, ops[k]? = some o := ⟨ops[k], List.getElem?_eq_getElem hkn⟩
            rcases hch.apart j k (Nat.zero_le _) h6 hkn with h7 | h7
            · have := before_anc hlt hok h7 L hL (fun oj' h' e he hb => hafter k oj' h' hk e he hb)
              rw [hLj] at this; cases this
            · exact h7.1 b ⟨hw, chain_sub hE hC hch hkn h2⟩
        subst hkj
        exact .inl ⟨hw, h4, h5⟩
      · have hkj : k ≠ j := by rintro rfl; exact hw h2
        have hk : L k = true := by unfold upd at h1; rw [if_neg hkj] at h1; exact h1
        exact .inr ⟨hw, .inr ⟨k, hk, h2, fun k' hk' hw' => h3 k' (hup k' hk') hw', h4, h5⟩⟩
  -- the placement is as it was for what stood before
  have hDA : ∀ k, L k = true → ∀ i, DA ops S A0 k i → ρ' i = ρ i := fun k hk i hi => hG.same i fun hr => by
    rw [← hn1] at hr
    have hkn := hLn k hk
    rcases hi with (hi | ⟨k2, hi, hr2⟩) | hi
    · have := hA i hi; omega
    · have hk2 : L k2 = true := hi L hL (fun oj' h' e he hb => hafter k oj' h' hk e he hb)
      exact rng_apart hE hC hch (by rintro rfl; rw [hLj] at hk2; cases hk2) (hLn k2 hk2) hj hr2 hr
    · exact rng_apart hE hC hch (by rintro rfl; rw [hLj] at hk; cases hk) hkn hj hi hr
  have hDcur : ∀ b o D, Cur ops S S' A0 L b o D → ∀ i, D i → ρ' i = ρ i := by
    rintro b o D (⟨_, _, rfl⟩ | ⟨k, hk, _, _, _, rfl⟩) i hi
    · exact hG.same i fun hr => by have := hA i hi; omega
    · exact hDA k hk i hi
  have hlow : ∀ b, b < (S j).next → ρ' b = ρ b := fun b hb => hG.same b fun hr => by omega
  have hbelow : ∀ b o, In (S' j).wr b → (S' j).heap.get b = some o → b < (S j).next → ∃ o2, (S j).heap.get b = some o2 := fun b o hw h hb =>
    Option.ne_none_iff_exists'.1 (hG.old b hb (by rw [h]; simp))
  have hnewlt : ∀ b o, (S' j).heap.get b = some o → b < (S' j).next := fun b o h => by
    rcases Nat.lt_or_ge b (S' j).next with h1 | h1
    · exact h1
    · rw [hG.above b h1] at h; cases h
  have hXj := hX j hj
  -- one that is new and one that stood
  have hmix : ∀ b b' o o' D', In (S' j).wr b → (S' j).heap.get b = some o → ¬ In (S' j).wr b' → X b' → Cur ops S S' A0 L b' o' D' → (ρ' b).1 = (ρ' b').1 → False := by
    intro b b' o o' D' hw h hw' hx' hc' e
    obtain ⟨hD', x', hx2, _⟩ := hI.obj b' o' D' hx' hc'
    rw [hDcur b' o' D' hc' b' hD'] at e
    rcases Nat.lt_or_ge b (S j).next with hb | hb
    · obtain ⟨o2, ho2⟩ := hbelow b o hw h hb
      obtain ⟨D2, hc2, _⟩ := hcur b o2 (hsub b hw) ho2
      rw [hlow b hb] at e
      have := hI.inj b b' o2 o' D2 D' (hXj b (hsub b hw)) hx' hc2 hc' e
      subst this; exact hw' hw
    · rcases hG.fresh b hb (hnewlt b o h) (by rw [h]; simp) with h1 | ⟨c, o3, hc1, hc2, hc3, h1⟩
      · have := (Array.getElem?_eq_some_iff.1 hx2).1; omega
      · obtain ⟨D3, hc4, _⟩ := hcur c o3 hc2 hc3
        rw [h1] at e
        have := hI.inj c b' o3 o' D3 D' (hXj c hc2) hx' hc4 hc' e
        subst this; exact hw' hc1
  refine ⟨fun i hi => ?_, fun b o D hx hc => ?_, fun b b' o o' D D' hx hx' hc hc' e => ?_, fun k hk => ?_, ?_, fun b o D hx hc hb => ?_, fun b o D hx hc hb => ?_⟩
  · rw [hG.same i fun hr => hi j (by simp [upd]) (by unfold rng; rw [hn1]; exact hr)]
    exact hI.same i fun k hk => hi k (by unfold upd; split <;> first | rfl | exact hk)
  · rcases hsplit b o D hc with ⟨hw, h, rfl⟩ | ⟨hw, hc2⟩
    · have := hG.state.obj b o (hsub b hw) h
      rw [SetAdd.eqDA hn1] at this
      exact this
    · obtain ⟨h1, x, h2, h3⟩ := hI.obj b o D hx hc2
      have hag := hDcur b o D hc2
      refine ⟨h1, x, ?_, ?_⟩
      · rw [hag b h1, hG.frame.block _ (Array.getElem?_eq_some_iff.1 h2).1 ?_]
        · exact h2
        · rintro ⟨c, o2, hc3, hc4, hc5, e⟩
          obtain ⟨D2, hc6, _⟩ := hcur c o2 hc4 hc5
          have := hI.inj c b o2 o D2 D (hXj c hc4) hx hc6 hc2 e
          subst this; exact hw hc3
      · rw [hag b h1]; exact h3.mono (fun _ h => h) hag
  · rcases hsplit b o D hc with ⟨hw, h, rfl⟩ | ⟨hw, hc2⟩
    · rcases hsplit b' o' D' hc' with ⟨hw', h', rfl⟩ | ⟨hw', hc2'⟩
      · exact hG.state.inj b b' o o' (hsub b hw) (hsub b' hw') h h' e
      · exact (hmix b b' o o' D' hw h hw' hx' hc2' e).elim
    · rcases hsplit b' o' D' hc' with ⟨hw', h', rfl⟩ | ⟨hw', hc2'⟩
      · exact (hmix b' b o' o D hw' h' hw hx hc2 e.symm).elim
      · rw [hDcur b o D hc2 b (hI.obj b o D hx hc2).1, hDcur b' o' D' hc2' b' (hI.obj b' o' D' hx' hc2').1] at e
        exact hI.inj b b' o o' D D' hx hx' hc2 hc2' e
  · by_cases hkj : k = j
    · subst hkj
      simp only [upd, if_true]
      rw [← SetAdd.eqDA hn1]; exact hv
    · have hk' : L k = true := by unfold upd at hk; rw [if_neg hkj] at hk; exact hk
      simp only [upd, hkj, if_false]
      exact (hI.vals k hk').mono (fun _ h => h) (hDA k hk')
  · refine ⟨hG.frame.os.trans hI.frame.os, hG.frame.tape.trans hI.frame.tape, hG.frame.output.trans hI.frame.output, Nat.le_trans hI.frame.size hG.frame.size, fun r hr ht => ?_⟩
    rw [hG.frame.block r (Nat.lt_of_lt_of_le hr hI.frame.size) ?_, hI.frame.block r hr ht]
    rintro ⟨c, o, hc1, hc2, hc3, e⟩
    obtain ⟨D, hc4, _⟩ := hcur c o hc2 hc3
    rcases Nat.lt_or_ge c (S 0).next with h1 | h1
    · obtain ⟨o2, ho2⟩ := Option.ne_none_iff_exists'.1 (hI.old c o D (hXj c hc2) hc4 h1)
      refine ht ⟨c, o2, hW j hj c hc1, hXj c hc2, ho2, ?_⟩
      rw [← e, hI.same c fun k hk hrr => by
        have := chain_mono hE hC hch (i := 0) (j := k) (Nat.zero_le _) (Nat.le_of_lt (hLn k hk))
        have := hrr.1; omega]
    · rcases hI.fresh c o D (hXj c hc2) hc4 h1 with h2 | ⟨c', o', h3, h4, h5, h6⟩
      · omega
      · exact ht ⟨c', o', h3, h4, h5, by rw [← h6, e]⟩
  · rcases hsplit b o D hc with ⟨hw, h, rfl⟩ | ⟨hw, hc2⟩
    · obtain ⟨o2, ho2⟩ := hbelow b o hw h (by omega)
      obtain ⟨D2, hc2, _⟩ := hcur b o2 (hsub b hw) ho2
      exact hI.old b o2 D2 hx hc2 hb
    · exact hI.old b o D hx hc2 hb
  · have key : ∀ c o2, In (S' j).wr c → In (S' j).acc c → (S j).heap.get c = some o2 → w0.heap.size ≤ (ρ c).1 ∨ ∃ c' o', In W c' ∧ X c' ∧ (S 0).heap.get c' = some o' ∧ (ρ c).1 = (ρ0 c').1 := by
      intro c o2 hc1 hc2 hc3
      obtain ⟨D2, hc4, _⟩ := hcur c o2 hc2 hc3
      rcases Nat.lt_or_ge c (S 0).next with h1 | h1
      · obtain ⟨o3, ho3⟩ := Option.ne_none_iff_exists'.1 (hI.old c o2 D2 (hXj c hc2) hc4 h1)
        refine .inr ⟨c, o3, hW j hj c hc1, hXj c hc2, ho3, ?_⟩
        rw [hI.same c fun k hk hrr => by
          have := chain_mono hE hC hch (i := 0) (j := k) (Nat.zero_le _) (Nat.le_of_lt (hLn k hk))
          have := hrr.1; omega]
      · exact hI.fresh c o2 D2 (hXj c hc2) hc4 h1
    rcases hsplit b o D hc with ⟨hw, h, rfl⟩ | ⟨hw, hc2⟩
    · rcases Nat.lt_or_ge b (S j).next with h1 | h1
      · obtain ⟨o2, ho2⟩ := hbelow b o hw h h1
        rw [hlow b h1]
        exact key b o2 hw (hsub b hw) ho2
      · rcases hG.fresh b h1 (hnewlt b o h) (by rw [h]; simp) with h2 | ⟨c, o3, hc1, hc2, hc3, h2⟩
        · exact .inl (Nat.le_trans hI.frame.size h2)
        · rw [h2]; exact key c o3 hc1 hc2 hc3
    · rw [hDcur b o D hc2 b (hI.obj b o D hx hc2).1]
      exact hI.fresh b o D hx hc2 hb
end
end Go.Ev
