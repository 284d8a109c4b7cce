/- A lemma text of the proof that what the evaluator answers holds of every run of the model. No condition beyond those that each theorem states. -/
import Derived.Test.YtbefibijhfgkdaaGreatDoorSO
namespace Go.Ev
open Go
set_option linter.unusedSimpArgs false
set_option linter.unusedVariables false
section
variable {E : Env} {P : Program} {call : Caller} {ops : List Oper} {TM : Nat → Tm} {S S' : Nat → St} {V : Nat → Value} {X A0 : Nat → Prop} {ρ0 : Rho} {w0 : World} {W : Nat}

def rng (S : Nat → St) (k i : Nat) : Prop := (S k).next ≤ i ∧ i < (S (k + 1)).next
def Dp (ops : List Oper) (S : Nat → St) (A0 : Nat → Prop) (j : Nat) : Nat → Prop := fun i => A0 i ∨ ∃ k, anc ops j k ∧ rng S k i
def DA (ops : List Oper) (S : Nat → St) (A0 : Nat → Prop) (j : Nat) : Nat → Prop := fun i => Dp ops S A0 j i ∨ rng S j i
/-- What is known of a block when the operations L have run. -/
def Cur (ops : List Oper) (S S' : Nat → St) (A0 : Nat → Prop) (L : Nat → Bool) (b : Nat) (o : AObj) (D : Nat → Prop) : Prop :=
  ((∀ k, L k = true → ¬ In (S' k).wr b) ∧ (S 0).heap.get b = some o ∧ D = A0) ∨
  ∃ k, L k = true ∧ In (S' k).wr b ∧ (∀ k', L k' = true → In (S' k').wr b → k' ≤ k) ∧ (S' k).heap.get b = some o ∧ D = DA ops S A0 k
structure Inv (P : Program) (ops : List Oper) (S S' : Nat → St) (V : Nat → Value) (X A0 : Nat → Prop) (ρ0 : Rho) (w0 : World) (W : Nat) (L : Nat → Bool) (vals : Nat → Value) (w : World) (ρ : Rho) : Prop where
  same : ∀ i, (∀ k, L k = true → ¬ rng S k i) → ρ i = ρ0 i
  obj : ∀ b o D, X b → Cur ops S S' A0 L b o D → D b ∧ ∃ x, w.heap[(ρ b).1]? = some x ∧ ObjR P D ρ (ρ b) o x
  inj : ∀ b b' o o' D D', X b → X b' → Cur ops S S' A0 L b o D → Cur ops S S' A0 L b' o' D' → (ρ b).1 = (ρ b').1 → b = b'
  vals : ∀ k, L k = true → VR (DA ops S A0 k) ρ (V k) (vals k)
  frame : Fr w0 w fun r => ∃ c o, In W c ∧ X c ∧ (S 0).heap.get c = some o ∧ (ρ0 c).1 = r
  old : ∀ b o D, X b → Cur ops S S' A0 L b o D → b < (S 0).next → (S 0).heap.get b ≠ none
  fresh : ∀ b o D, X b → Cur ops S S' A0 L b o D → (S 0).next ≤ b → w0.heap.size ≤ (ρ b).1 ∨ ∃ c o, In W c ∧ X c ∧ (S 0).heap.get c = some o ∧ (ρ b).1 = (ρ0 c).1

theorem SetAdd.eqDA {j : Nat} (hS : (S (j + 1)).next = (S' j).next) : SetAdd (Dp ops S A0 j) (S j).next (S' j).next = DA ops S A0 j := by
  funext i
  unfold SetAdd DA rng
  rw [hS]

section chain
theorem chain_grows (hE : EnvOk E P) (hC : CallerOk P call) (hch : Chain E call ops 0 ops.length TM S V S') {j : Nat} (hj : j < ops.length) : Grows (S j) (S' j) := by
  obtain ⟨o, ho⟩ : ∃ o, ops[j]? = some o := ⟨ops[j], List.getElem?_eq_getElem hj⟩
  rcases (hch.step j o (Nat.zero_le _) hj ho).2.2 with ⟨_, h⟩ | ⟨_, _, h⟩
  · exact (opV_ok hE hC h).1
  · rw [h]; exact Grows.refl _
theorem chain_sub (hE : EnvOk E P) (hC : CallerOk P call) (hch : Chain E call ops 0 ops.length TM S V S') {j : Nat} (hj : j < ops.length) {b : Nat} (h : In (S' j).wr b) : In (S' j).acc b :=
  (chain_grows hE hC hch hj).sub (fun c hc => by rw [(hch.clear j (Nat.zero_le _) (Nat.le_of_lt hj)).2] at hc; exact absurd hc (zero_in c)) b h
theorem chain_next (hE : EnvOk E P) (hC : CallerOk P call) (hch : Chain E call ops 0 ops.length TM S V S') {j : Nat} (hj : j < ops.length) : (S (j + 1)).next = (S' j).next ∧ (S (j + 1)).heap = (S' j).heap := by
  have _h1 := hE
  have _h2 := hC
  obtain ⟨o, ho⟩ : ∃ o, ops[j]? = some o := ⟨ops[j], List.getElem?_eq_getElem hj⟩
  rw [(hch.step j o (Nat.zero_le _) hj ho).2.1, clearSt_eq]
  exact ⟨rfl, rfl⟩
theorem chain_mono (hE : EnvOk E P) (hC : CallerOk P call) (hch : Chain E call ops 0 ops.length TM S V S') {i j : Nat} (hij : i ≤ j) (hj : j ≤ ops.length) : (S i).next ≤ (S j).next := by
  induction j with
  | zero => have : i = 0 := by omega
            subst this; exact Nat.le_refl _
  | succ j ih =>
    rcases Nat.lt_or_ge i (j + 1) with h | h
    · refine Nat.le_trans (ih (by omega) (by omega)) ?_
      rw [(chain_next hE hC hch (by omega)).1]
      exact (chain_grows hE hC hch (by omega)).next
    · have : i = j + 1 := by omega
      subst this; exact Nat.le_refl _
theorem chain_above (hE : EnvOk E P) (hC : CallerOk P call) (hch : Chain E call ops 0 ops.length TM S V S') (hab : ∀ b, (S 0).next ≤ b → (S 0).heap.get b = none) {j : Nat} (hj : j ≤ ops.length) : ∀ b, (S j).next ≤ b → (S j).heap.get b = none := by
  induction j with
  | zero => exact hab
  | succ j ih =>
    obtain ⟨h1, h2⟩ := chain_next hE hC hch (j := j) (by omega)
    rw [h1, h2]
    exact (chain_grows hE hC hch (by omega)).above (ih (by omega))
/-- Where what stands of a block before operation j comes from. -/
theorem chain_last (hE : EnvOk E P) (hC : CallerOk P call) (hch : Chain E call ops 0 ops.length TM S V S') (hab : ∀ b, (S 0).next ≤ b → (S 0).heap.get b = none) {j : Nat} (hj : j ≤ ops.length) {b : Nat} {o : AObj} (h : (S j).heap.get b = some o) : ((∀ k, k < j → ¬ In (S' k).wr b) ∧ (S 0).heap.get b = some o) ∨ ∃ k, k < j ∧ In (S' k).wr b ∧ (∀ k', k' < j → In (S' k').wr b → k' ≤ k) ∧ (S' k).heap.get b = some o := by
  induction j with
  | zero => exact .inl ⟨fun k hk => by omega, h⟩
  | succ j ih =>
    obtain ⟨h1, h2⟩ := chain_next hE hC hch (j := j) (by omega)
    rw [h2] at h
    by_cases hw : In (S' j).wr b
    · exact .inr ⟨j, by omega, hw, fun k' hk' _ => by omega, h⟩
    · have hg := chain_grows hE hC hch (j := j) (by omega)
      have hb : b < (S j).next := by
        rcases Nat.lt_or_ge b (S j).next with h3 | h3
        · exact h3
        · rcases Nat.lt_or_ge b (S' j).next with h4 | h4
          · exact absurd (hg.made b h3 h4) hw
          · rw [hg.above (chain_above hE hC hch hab (by omega)) b h4] at h; cases h
      rw [hg.kept b hb hw] at h
      rcases ih (by omega) h with ⟨h3, h4⟩ | ⟨k, h3, h4, h5, h6⟩
      · refine .inl ⟨fun k hk => ?_, h4⟩
        rcases Nat.lt_or_ge k j with h5 | h5
        · exact h3 k h5
        · have : k = j := by omega
          subst this; exact hw
      · refine .inr ⟨k, by omega, h4, fun k' hk' hw' => ?_, h6⟩
        rcases Nat.lt_or_ge k' j with h7 | h7
        · exact h5 k' h7 hw'
        · have : k' = j := by omega
          subst this; exact absurd hw' hw
/-- What operation j looks at stands as the operations that have run have left it. -/
theorem chain_cur (hE : EnvOk E P) (hC : CallerOk P call) (hlt : ∀ j oj, ops[j]? = some oj → ∀ e ∈ oj.after, Region.binds .any e = true → e.on < j) (hch : Chain E call ops 0 ops.length TM S V S') (hab : ∀ b, (S 0).next ≤ b → (S 0).heap.get b = none) {L : Nat → Bool} {j : Nat} {oj : Oper} (hoj : ops[j]? = some oj) (hLj : L j = false) (haf : ∀ e ∈ oj.after, Region.binds .any e = true → L e.on = true) (hL : Closed ⟨ops⟩ L) (hLn : ∀ k, L k = true → k < ops.length)
    {b : Nat} {o : AObj} (hacc : In (S' j).acc b) (h : (S j).heap.get b = some o) : ∃ D, Cur ops S S' A0 L b o D ∧ ∀ i, D i → Dp ops S A0 j i := by
  have hj : j < ops.length := (List.getElem?_eq_some_iff.1 hoj).1
  have hafter : ∀ oj', ops[j]? = some oj' → ∀ e ∈ oj'.after, Region.binds .any e = true → L e.on = true := fun oj' h' => by rw [hoj] at h'; cases h'; exact haf
  have later : ∀ k', L k' = true → In (S' k').wr b → k' < j := fun k' hk' hw' => by
    rcases Nat.lt_trichotomy k' j with h1 | h1 | h1
    · exact h1
    · subst h1; rw [hLj] at hk'; cases hk'
    · exfalso
      have hkn := hLn k' hk'
      rcases hch.apart j k' (Nat.zero_le _) h1 hkn with h2 | h2
      · obtain ⟨ok, hok⟩ : ∃ o, ops[k']? = some o := ⟨ops[k'], List.getElem?_eq_getElem hkn⟩
        have h3 := before_anc hlt hok h2 L hL (fun oj' h' e he hb => hL k' oj' (by simpa using h') hk' e he hb)
        rw [hLj] at h3; cases h3
      · exact h2.2 b ⟨hacc, hw'⟩
  rcases chain_last hE hC hch hab (Nat.le_of_lt hj) h with ⟨h1, h2⟩ | ⟨k, h1, h2, h3, h4⟩
  · exact ⟨A0, .inl ⟨fun k hk hw => h1 k (later k hk hw) hw, h2, rfl⟩, fun i hi => .inl hi⟩
  · have hanc : anc ops j k := by
      rcases hch.apart k j (Nat.zero_le _) h1 hj with h5 | h5
      · exact before_anc hlt hoj h5
      · exact absurd ⟨h2, hacc⟩ (h5.1 b)
    refine ⟨DA ops S A0 k, .inr ⟨k, hanc L hL hafter, h2, fun k' hk' hw' => h3 k' (later k' hk' hw') hw', h4, rfl⟩, ?_⟩
    rintro i ((hi | ⟨k2, hi, hr⟩) | hi)
    · exact .inl hi
    · exact .inr ⟨k2, anc_trans hanc hi, hr⟩
    · exact .inr ⟨k, hanc, hi⟩
end chain
end
end Go.Ev
