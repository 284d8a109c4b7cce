/- A lemma text of the proof that what the evaluator answers holds of every run of the model. No condition beyond those that each theorem states. -/
import Derived.Test.YtbefibijhfgkdaaGreatDoorSR
namespace Go.Ev
open Go
set_option linter.unusedSimpArgs false
set_option linter.unusedVariables false
def codeOk (N : Nat) : Code → Bool
  | .region _ ops draw => ops.toList.all (operOk N) && (!draw || relOkG ops)
  | .seq a b => codeOk N a && codeOk N b
  | .cond c a b => opndOk c && codeOk N a && codeOk N b
  | .block _ c => codeOk N c
  | .loop c => codeOk N c
  | _ => true
def conc : Ex → Exit
  | .normal => .normal
  | .exit id => .exit id
  | .ret => .ret
section
variable {E : Env} {P : Program} {call : Caller} {N : Nat} {X A : Nat → Prop} {ρ : Rho} {s s' : St} {w : World} {a : Act} {Q : Exit → Act → World → Prop}

/-- The body of a loop, to be run, with the loop behind it. -/
def LoopWp (P : Program) (c : Code) (Q : Exit → Act → World → Prop) (a : Act) (w : World) : Prop :=
  ∀ (b : Frame) (k : List Item) (cs : List Frame), ∃ e a' w', Q e a' w' ∧ Arrives P (lone (b.at a (.code c :: .inLoop c :: k)) cs w) b k cs e a' w'
theorem loop_of {c : Code} (h : LoopWp P c Q a w) : (Code.loop c).wp P Q a w := fun b k cs => by
  obtain ⟨e, a', w', hq, harr⟩ := h b k cs
  exact ⟨e, a', w', hq, .of_steps (.one step_loop) harr⟩
theorem loop_round {c : Code} (h : c.wp P (Exit.then (LoopWp P c Q) Q) a w) : LoopWp P c Q a w := fun b k cs => by
  obtain ⟨e, a₁, w₁, hq, harr⟩ := h b (.inLoop c :: k) cs
  cases e with
  | normal =>
    obtain ⟨e₂, a₂, w₂, hq₂, harr₂⟩ := hq b k cs
    exact ⟨e₂, a₂, w₂, hq₂, .of_steps (Steps.trans harr (.one step_inLoop)) harr₂⟩
  | exit id => exact ⟨_, a₁, w₁, hq, .pass (x := .inLoop c) rfl (fun _ _ => .inl (by simp)) harr⟩
  | goto l => exact ⟨_, a₁, w₁, hq, .pass (x := .inLoop c) rfl (fun _ _ => .inl (by simp)) harr⟩
  | ret => exact ⟨_, a₁, w₁, hq, .pass (x := .inLoop c) rfl (fun _ _ => .inl (by simp)) harr⟩
  | panic ch => exact ⟨_, a₁, w₁, hq, .pass (x := .inLoop c) rfl (fun _ _ => .inl (by simp)) harr⟩
  | outgrown => exact ⟨_, a₁, w₁, hq, .pass (x := .inLoop c) rfl (fun _ _ => .inl (by simp)) harr⟩

def CodeR (P : Program) (N : Nat) (c : Code) (s : St) (tm : Tm) (e : Ex) (tm' : Tm) (s' : St) (go : (Exit → Act → World → Prop) → Act → World → Prop) : Prop :=
  Grows s s' ∧ ∀ X A ρ w a Q, Pre P X A ρ s s' w → Gl A ρ → TmR A ρ N tm a → (∀ a' w', Left P X A ρ N s s' w a tm' a' w' → Q (conc e) a' w') → go Q a w
theorem Left.same (hp : Pre P X A ρ s s w) {tm : Tm} (ht : TmR A ρ N tm a) : Left P X A ρ N s s w a tm a w :=
  ⟨rfl, ρ, ht.mono (fun i hi => .inl hi) (fun _ _ => rfl), Good.refl hp.st hp.above⟩
theorem CodeR.next {c c2 : Code} {s s1 s2 : St} {tm1 tm2 : Tm} {e : Ex} {go2 : (Exit → Act → World → Prop) → Act → World → Prop} (hg1 : Grows s s1) (h2 : CodeR P N c2 s1 tm1 e tm2 s2 go2) (hp : Pre P X A ρ s s2 w) (hgl : Gl A ρ)
    (hQ : ∀ a' w', Left P X A ρ N s s2 w a tm2 a' w' → Q (conc e) a' w') {a1 : Act} {w1 : World} (hl : Left P X A ρ N s s1 w a tm1 a1 w1) : go2 Q a1 w1 := by
  obtain ⟨hd, ρ1, ht1, hG⟩ := hl
  have hag : ∀ i, A i → ρ1 i = ρ i := fun i hi => hG.same i (by have := hp.lt i hi; omega)
  refine h2.2 X _ ρ1 w1 a1 Q ⟨SetAdd.lt hp.lt hg1.next, hG.above, hp.acc, hG.state⟩ (hgl.mono (fun i hi => .inl hi) hag) ht1 fun a2 w2 hl2 => hQ a2 w2 ?_
  obtain ⟨hd2, ρ2, ht2, hG2⟩ := hl2
  exact ⟨hd2.trans hd, ρ2, ht2.mono (fun i hi => SetAdd.join hg1.next h2.1.next hi) (fun _ _ => rfl), Good.trans hp.acc hg1 h2.1 hp.lt hG hG2⟩
theorem Pre.part {s1 s2 : St} (hp : Pre P X A ρ s s2 w) (hg : Grows s1 s2) : Pre P X A ρ s s1 w := ⟨hp.lt, hp.above, fun b hb => hp.acc b (hg.acc b hb), hp.st⟩

theorem loopV_ok {c : Code} {body : Tm → St → R4} (hb : ∀ tm s e tm' s', body tm s = some (e, tm', s') → CodeR P N c s tm e tm' s' (c.wp P)) : ∀ (n : Nat) (tm : Tm) (s : St) {e : Ex} {tm' : Tm} {s' : St}, loopV body n tm s = some (e, tm', s') → CodeR P N c s tm e tm' s' (LoopWp P c)
  | 0, tm, s, e, tm', s', h => by cases h
  | n + 1, tm, s, e, tm', s', h => by
    have h' : thenV (body tm s) (loopV body n) = some (e, tm', s') := h
    obtain ⟨⟨e1, tm1, s1⟩, h1, h2⟩ := ob_eq h'
    have hb1 := hb tm s e1 tm1 s1 h1
    cases e1 with
    | normal =>
      have ih := loopV_ok hb n tm1 s1 h2
      refine ⟨hb1.1.trans ih.1, fun X A ρ w a Q hp hgl ht hQ => loop_round ?_⟩
      refine hb1.2 X A ρ w a _ (hp.part ih.1) hgl ht fun a1 w1 hl => ?_
      exact CodeR.next (c := c) (c2 := c) (go2 := LoopWp P c) hb1.1 ih hp hgl hQ hl
    | exit id =>
      have := Option.some.inj h2
      simp only [Prod.mk.injEq] at this
      obtain ⟨rfl, rfl, rfl⟩ := this
      exact ⟨hb1.1, fun X A ρ w a Q hp hgl ht hQ => loop_round (hb1.2 X A ρ w a _ hp hgl ht hQ)⟩
    | ret =>
      have := Option.some.inj h2
      simp only [Prod.mk.injEq] at this
      obtain ⟨rfl, rfl, rfl⟩ := this
      exact ⟨hb1.1, fun X A ρ w a Q hp hgl ht hQ => loop_round (hb1.2 X A ρ w a _ hp hgl ht hQ)⟩

theorem codeV_ok (hE : EnvOk E P) (hC : CallerOk P call) (hm : P.follows .mixedOrders = true) (lf : Nat) : ∀ (c : Code), codeOk N c = true → ∀ (tm : Tm) (s : St) (e : Ex) (tm' : Tm) (s' : St), codeV E call lf c tm s = some (e, tm', s') → CodeR P N c s tm e tm' s' (c.wp P) := by
  intro c
  induction c with
  | skip =>
    intro _ tm s e tm' s' h
    have := Option.some.inj h
    simp only [Prod.mk.injEq] at this
    obtain ⟨rfl, rfl, rfl⟩ := this
    exact ⟨Grows.refl _, fun X A ρ w a Q hp hgl ht hQ => wp_skip (hQ a w (Left.same hp ht))⟩
  | region id ops draw =>
    intro hok tm s e tm' s' h
    obtain ⟨ops⟩ := ops
    simp only [codeOk, Bool.and_eq_true, List.all_eq_true] at hok
    obtain ⟨hok1, hok2⟩ := hok
    have h' : regionV E call ops draw tm s = some (e, tm', s') := h
    cases draw with
    | false =>
      obtain ⟨⟨tm1, s1⟩, h1, h2⟩ := ob_eq (show normV (seqV E call ops ops tm s) = some (e, tm', s') from h')
      have := Option.some.inj h2
      simp only [Prod.mk.injEq] at this
      obtain ⟨rfl, rfl, rfl⟩ := this
      obtain ⟨hg, hk⟩ := seqV_ok hE hC ops hok1 ops 0 tm s (by simp) h1
      refine ⟨hg, fun X A ρ w a Q hp hgl ht hQ => wp_region ?_⟩
      have := hk X A ρ w a Q hp hgl ht hQ
      rwa [List.range_eq_range']
    | true =>
      obtain ⟨⟨tm1, s1⟩, h1, h2⟩ := ob_eq (show normV (drawV E call ops ops 0 tm s []) = some (e, tm', s') from h')
      have := Option.some.inj h2
      simp only [Prod.mk.injEq] at this
      obtain ⟨rfl, rfl, rfl⟩ := this
      obtain ⟨hg, hk⟩ := drawV_ok hE hC hm hok1 (by simpa using hok2) h1
      exact ⟨hg, fun X A ρ w a Q hp hgl ht hQ => hk X A ρ w a Q id hp hgl ht hQ⟩
  | seq x y ihx ihy =>
    intro hok tm s e tm' s' h
    simp only [codeOk, Bool.and_eq_true] at hok
    have h' : thenV (codeV E call lf x tm s) (codeV E call lf y) = some (e, tm', s') := h
    obtain ⟨⟨e1, tm1, s1⟩, h1, h2⟩ := ob_eq h'
    have hx := ihx hok.1 tm s e1 tm1 s1 h1
    cases e1 with
    | normal =>
      have hy := ihy hok.2 tm1 s1 e tm' s' h2
      refine ⟨hx.1.trans hy.1, fun X A ρ w a Q hp hgl ht hQ => wp_seq ?_⟩
      refine hx.2 X A ρ w a _ (hp.part hy.1) hgl ht fun a1 w1 hl => ?_
      exact CodeR.next (c := x) (c2 := y) (go2 := y.wp P) hx.1 hy hp hgl hQ hl
    | exit id =>
      have := Option.some.inj h2
      simp only [Prod.mk.injEq] at this
      obtain ⟨rfl, rfl, rfl⟩ := this
      exact ⟨hx.1, fun X A ρ w a Q hp hgl ht hQ => wp_seq (hx.2 X A ρ w a _ hp hgl ht hQ)⟩
    | ret =>
      have := Option.some.inj h2
      simp only [Prod.mk.injEq] at this
      obtain ⟨rfl, rfl, rfl⟩ := this
      exact ⟨hx.1, fun X A ρ w a Q hp hgl ht hQ => wp_seq (hx.2 X A ρ w a _ hp hgl ht hQ)⟩
  | cond c x y ihx ihy =>
    intro hok tm s e tm' s' h
    simp only [codeOk, Bool.and_eq_true] at hok
    have h' : condV (evOp tm c) (codeV E call lf x tm s) (codeV E call lf y tm s) = some (e, tm', s') := h
    unfold condV at h'
    split at h'
    · rename_i b hb
      cases b with
      | true =>
        have hx := ihx hok.1.2 tm s e tm' s' h'
        refine ⟨hx.1, fun X A ρ w a Q hp hgl ht hQ => wp_cond_true ?_ (hx.2 X A ρ w a Q hp hgl ht hQ)⟩
        have := evOp_ok (tm := tm) (a := a) hok.1.1 hgl fun t _ => ht.2 t
        rw [hb] at this; exact this.unbool
      | false =>
        have hy := ihy hok.2 tm s e tm' s' h'
        refine ⟨hy.1, fun X A ρ w a Q hp hgl ht hQ => wp_cond_false ?_ (hy.2 X A ρ w a Q hp hgl ht hQ)⟩
        have := evOp_ok (tm := tm) (a := a) hok.1.1 hgl fun t _ => ht.2 t
        rw [hb] at this; exact this.unbool
    · cases h'
  | block id c ih =>
    intro hok tm s e tm' s' h
    have h' : outV id (codeV E call lf c tm s) = some (e, tm', s') := h
    obtain ⟨⟨e1, tm1, s1⟩, h1, h2⟩ := ob_eq h'
    have hc := ih (by simpa [codeOk] using hok) tm s e1 tm1 s1 h1
    cases e1 with
    | normal =>
      have := Option.some.inj h2
      simp only [Prod.mk.injEq] at this
      obtain ⟨rfl, rfl, rfl⟩ := this
      exact ⟨hc.1, fun X A ρ w a Q hp hgl ht hQ => wp_block (hc.2 X A ρ w a _ hp hgl ht hQ)⟩
    | ret =>
      have := Option.some.inj h2
      simp only [Prod.mk.injEq] at this
      obtain ⟨rfl, rfl, rfl⟩ := this
      exact ⟨hc.1, fun X A ρ w a Q hp hgl ht hQ => wp_block (hc.2 X A ρ w a _ hp hgl ht hQ)⟩
    | exit i =>
      have h3 : bo (Nat.beq i id) (some (Ex.normal, tm1, s1)) (some (Ex.exit i, tm1, s1)) = some (e, tm', s') := h2
      rw [bo_eq] at h3
      split at h3
      · rename_i hi
        have hi : i = id := by simpa using hi
        have := Option.some.inj h3
        simp only [Prod.mk.injEq] at this
        obtain ⟨rfl, rfl, rfl⟩ := this
        refine ⟨hc.1, fun X A ρ w a Q hp hgl ht hQ => wp_block (hc.2 X A ρ w a _ hp hgl ht fun a1 w1 hl => ?_)⟩
        simp only [conc, Exit.inBlock, hi, if_true]
        exact hQ a1 w1 hl
      · rename_i hi
        have hi : ¬ i = id := by simpa using hi
        have := Option.some.inj h3
        simp only [Prod.mk.injEq] at this
        obtain ⟨rfl, rfl, rfl⟩ := this
        refine ⟨hc.1, fun X A ρ w a Q hp hgl ht hQ => wp_block (hc.2 X A ρ w a _ hp hgl ht fun a1 w1 hl => ?_)⟩
        simp only [conc, Exit.inBlock, hi, if_false]
        exact hQ a1 w1 hl
  | loop c ih =>
    intro hok tm s e tm' s' h
    have h' : loopV (codeV E call lf c) lf tm s = some (e, tm', s') := h
    have := loopV_ok (c := c) (fun tm s e tm' s' => ih (by simpa [codeOk] using hok) tm s e tm' s') lf tm s h'
    exact ⟨this.1, fun X A ρ w a Q hp hgl ht hQ => loop_of (this.2 X A ρ w a Q hp hgl ht hQ)⟩
  | exit id =>
    intro _ tm s e tm' s' h
    have := Option.some.inj h
    simp only [Prod.mk.injEq] at this
    obtain ⟨rfl, rfl, rfl⟩ := this
    exact ⟨Grows.refl _, fun X A ρ w a Q hp hgl ht hQ => wp_exit (hQ a w (Left.same hp ht))⟩
  | ret =>
    intro _ tm s e tm' s' h
    have := Option.some.inj h
    simp only [Prod.mk.injEq] at this
    obtain ⟨rfl, rfl, rfl⟩ := this
    exact ⟨Grows.refl _, fun X A ρ w a Q hp hgl ht hQ => wp_ret (hQ a w (Left.same hp ht))⟩
  | rangeFunc _ _ _ _ _ _ => intro _ tm s e tm' s' h; cases h
  | scope _ _ => intro _ tm s e tm' s' h; cases h
  | label _ => intro _ tm s e tm' s' h; cases h
  | goto _ => intro _ tm s e tm' s' h; cases h
  | refuse _ => intro _ tm s e tm' s' h; cases h
end
end Go.Ev
