/- A lemma text of the proof that what the evaluator answers holds of every run of the model. No condition beyond those that each theorem states. -/
import Derived.Test.YtbefibijhfgkdaaGreatDoorSIa
namespace Go.Ev
open Go
set_option linter.unusedSimpArgs false
set_option linter.unusedVariables false
set_option maxHeartbeats 2000000
section
variable {E : Env} {P : Program} {call : Caller} {X A : Nat → Prop} {ρ : Rho} {s s' : St} {w w' : World} {v v' x y x' y' : Value} {o : Oper} {ev : Operand → Value}

abbrev OpPost (P : Program) (X A : Nat → Prop) (ρ : Rho) (s s' : St) (w : World) (v v' : Value) (w' : World) : Prop := ∃ ρ', VR (SetAdd A s.next s'.next) ρ' v v' ∧ Good P X A ρ s s' w w' ρ'
def CallUp (P : Program) (f : FuncId) (args : Array Value) (w : World) (R : Value → World → Prop) : Prop :=
  (∃ v w', (callFunc f args).run P w = .ok (.value v) w' ∧ R v w') ∨ (∃ g as w', (callFunc f args).run P w = .ok (.enter g as) w' ∧ Calls P g as w' fun e w'' => ∃ v, e = .returned v ∧ R v w'')
def CallerOk (P : Program) (call : Caller) : Prop := ∀ f args s v s', call f args s = some (v, s') → Grows s s' ∧ ∀ X A ρ w args', Pre P X A ρ s s' w → Gl A ρ → LR A ρ args args' → CallUp P f ⟨args'⟩ w fun v' w' => OpPost P X A ρ s s' w v v' w'
def OpOk (P : Program) (o : Oper) (ev : Operand → Value) (s s' : St) (v : Value) : Prop :=
  Grows s s' ∧ ∀ X A ρ w (a : Act) (Q : Exit → Act → World → Prop), Pre P X A ρ s s' w → Gl A ρ → (∀ x ∈ o.op.operands, VR A ρ (ev x) (a.eval x)) → o.wp P a w (fun a' w' => ∃ v', a' = a.put o.dst v' ∧ OpPost P X A ρ s s' w v v' w') Q

theorem wp_value {a : Act} {Q : Exit → Act → World → Prop} {m : Sem Value} (he : execOp a.eval o = (do pure (.value (← m)))) (h : SemOk P X A ρ s s' w v m) : o.wp P a w (fun a' w' => ∃ v', a' = a.put o.dst v' ∧ OpPost P X A ρ s s' w v v' w') Q := by
  obtain ⟨v', w', ρ', h1, h2, h3⟩ := h
  unfold Oper.wp
  rw [he]
  simp only [Sem.run_bind, h1, Result.andThen_ok, Sem.run_pure, Oper.upon]
  exact ⟨v', rfl, ρ', h2, h3⟩
theorem wp_unit {a : Act} {Q : Exit → Act → World → Prop} {m : Sem Unit} (he : execOp a.eval o = (do m; pure .skip)) (hv : v = .tuple ⟨[]⟩) (h : ∃ w' ρ', m.run P w = .ok () w' ∧ Good P X A ρ s s' w w' ρ') : o.wp P a w (fun a' w' => ∃ v', a' = a.put o.dst v' ∧ OpPost P X A ρ s s' w v v' w') Q := by
  obtain ⟨w', ρ', h1, h3⟩ := h
  unfold Oper.wp
  rw [he]
  simp only [Sem.run_bind, h1, Result.andThen_ok, Sem.run_pure, Oper.upon]
  exact ⟨undef, rfl, ρ', by rw [hv]; exact VR.undef, h3⟩
theorem wp_pure {a : Act} {Q : Exit → Act → World → Prop} (he : (execOp a.eval o).run P w = .ok (.value v') w) (hp : Pre P X A ρ s s w) (hv : VR A ρ v v') : o.wp P a w (fun a' w' => ∃ v', a' = a.put o.dst v' ∧ OpPost P X A ρ s s w v v' w') Q := by
  unfold Oper.wp
  rw [he]
  exact ⟨v', rfl, ρ, hv.mono (fun i hi => .inl hi) (fun _ _ => rfl), Good.refl hp.st hp.above⟩

theorem mapO_ok {lo : Option Operand} {a : Act} (h : ∀ x, lo = some x → VR A ρ (ev x) (a.eval x)) : OVR A ρ (mapO ev lo) (lo.map a.eval) := by
  cases lo with
  | none => simp [mapO, OVR]
  | some x => exact h x rfl
theorem mapL_ok {l : List Operand} {a : Act} (h : ∀ x ∈ l, VR A ρ (ev x) (a.eval x)) : LR A ρ (mapL ev l) (l.map a.eval) := by
  rw [mapL_eq]
  induction l with
  | nil => exact LR.nil
  | cons x xs ih => exact LR.cons (h x (by simp)) (ih fun y hy => h y (by simp [hy]))

theorem callFV_ok (hC : CallerOk P call) {f : Value} {args : List Value} (h : callFV call f args s = some (v, s')) : Grows s s' ∧ ∀ X A ρ w f' args', Pre P X A ρ s s' w → Gl A ρ → VR A ρ f f' → LR A ρ args args' →
    ∃ g first cap, f' = .func (.func g) ⟨first⟩ ⟨cap⟩ ∧ CallUp P g ⟨first ++ (args' ++ cap)⟩ w fun v' w' => OpPost P X A ρ s s' w v v' w' := by
  unfold callFV at h
  split at h
  · rename_i g first cap
    obtain ⟨h1, h2⟩ := hC _ _ _ _ _ h
    refine ⟨h1, fun X A ρ w f' args' hp hgl hf ha => ?_⟩
    obtain ⟨first', cap', rfl, hl1, hl2⟩ := hf.unfunc
    exact ⟨g, first', cap', rfl, h2 X A ρ w _ hp hgl (hl1.append (ha.append hl2))⟩
  · cases h

theorem callV1_ok (hE : EnvOk E P) (hC : CallerOk P call) {c : Call} (h : callV1 E call ev s c = some (v, s')) (dst : Option Tmp) (type : TypeId) (pos : String) (after : Array Edge) (guard : Option (Nat × Bool)) : OpOk P ⟨dst, .call c, type, pos, after, guard⟩ ev s s' v := by
  obtain ⟨callee, args, argTypes⟩ := c
  unfold callV1 at h
  cases callee with
  | invoke r m => cases h
  | value f =>
    simp only at h
    obtain ⟨h1, h2⟩ := callFV_ok hC h
    refine ⟨h1, fun X A ρ w a Q hp hgl hx => ?_⟩
    have hops : ∀ x ∈ args.toList, VR A ρ (ev x) (a.eval x) := fun x hxx => hx x (by simp only [Op.operands, Call.operands, Array.mem_append]; exact .inr (by simpa using hxx))
    obtain ⟨g, first, cap, hf, hcall⟩ := h2 X A ρ w _ _ hp hgl (hx f (by simp [Op.operands, Call.operands])) (mapL_ok hops)
    have he : (execOp a.eval ⟨dst, .call ⟨.value f, args, argTypes⟩, type, pos, after, guard⟩).run P w = (callFunc g ⟨first ++ (args.toList.map a.eval ++ cap)⟩).run P w := by
      simp only [execOp, resolve, hf, Deferred.ofValue, Sem.run_bind, Sem.run_pure, Result.andThen_ok, invoke]
      congr 2
      apply Array.ext'
      simp
    unfold Oper.wp
    rw [he]
    rcases hcall with ⟨v', w', e1, e2⟩ | ⟨g', as, w', e1, e2⟩
    · rw [e1]
      exact ⟨v', rfl, e2⟩
    · rw [e1]
      simp only [Oper.upon]
      refine e2.mono fun e w'' he => ?_
      obtain ⟨v', rfl, hh⟩ := he
      exact ⟨v', rfl, hh⟩
  | builtin b =>
    simp only at h
    have hops : ∀ (a : Act) A ρ, (∀ x ∈ (Op.call ⟨.builtin b, args, argTypes⟩).operands, VR A ρ (ev x) (a.eval x)) → ∀ x ∈ args.toList, VR A ρ (ev x) (a.eval x) := fun a A ρ hx x hxx => hx x (by simp only [Op.operands, Call.operands, Array.mem_append]; exact .inr (by simpa using hxx))
    obtain ⟨args⟩ := args
    obtain ⟨argTypes⟩ := argTypes
    simp only at h hops
    unfold builtinV at h
    split at h
    · rename_i x
      unfold builtin1 at h
      split at h
      · obtain ⟨t, ht, h1⟩ := ob_eq h
        rw [nthL_eq] at ht
        split at h1
        · rename_i b hb
          obtain ⟨h2, h3⟩ := lenMapV_ok hE h1 (ty := type)
          refine ⟨h2, fun X A ρ w a Q hp hgl hx => wp_value (m := Builtin.len_ ⟨argTypes⟩ type #[a.eval x]) (by simp [execOp, resolve, invoke, builtin]) (h3 X A ρ w _ ⟨argTypes⟩ hp ?_ (by simpa using ht))⟩
          have := hops a A ρ hx x (by simp)
          rw [hb] at this
          exact this
        · obtain ⟨u, hu, h2⟩ := ob_eq h1
          have := some2_eq h2; simp only [Prod.mk.injEq] at this; obtain ⟨rfl, rfl⟩ := this
          refine ⟨Grows.refl _, fun X A ρ w a Q hp hgl hx => ?_⟩
          obtain ⟨v', h3, h4⟩ := lenV_ok hE hu (ty := type) A ρ _ ⟨argTypes⟩ (hops a A ρ hx x (by simp)) (by simpa using ht)
          exact wp_value (m := Builtin.len_ ⟨argTypes⟩ type #[a.eval x]) (by simp [execOp, resolve, invoke, builtin]) (SemOk.pure hp (h3 w) h4)
      · obtain ⟨t, ht, h1⟩ := ob_eq h
        rw [nthL_eq] at ht
        obtain ⟨rfl, h3⟩ := capV_ok hE h1 (ty := type)
        refine ⟨Grows.refl _, fun X A ρ w a Q hp hgl hx => ?_⟩
        obtain ⟨v', h4, h5⟩ := h3 A ρ _ ⟨argTypes⟩ (hops a A ρ hx x (by simp)) (by simpa using ht)
        exact wp_value (m := Builtin.cap_ ⟨argTypes⟩ type #[a.eval x]) (by simp [execOp, resolve, invoke, builtin]) (SemOk.pure hp (h4 w) h5)
      · obtain ⟨h1, h2⟩ := sliceDataV_ok (P := P) h
        exact ⟨h1, fun X A ρ w a Q hp hgl hx => wp_value (m := Builtin.unsafeSliceData_ ⟨argTypes⟩ type #[a.eval x]) (by simp [execOp, resolve, invoke, builtin]) (h2 X A ρ w _ ⟨argTypes⟩ type hp (hops a A ρ hx x (by simp)))⟩
      · cases h
    · rename_i x y
      unfold builtin2 at h
      split at h
      · obtain ⟨h1, h2⟩ := appendV_ok hE h
        exact ⟨h1, fun X A ρ w a Q hp hgl hx => wp_value (m := Builtin.append_ ⟨argTypes⟩ type #[a.eval x, a.eval y]) (by simp [execOp, resolve, invoke, builtin]) (h2 X A ρ w _ _ type hp (hops a A ρ hx x (by simp)) (hops a A ρ hx y (by simp)))⟩
      · obtain ⟨rfl, h2⟩ := maxV_ok (P := P) h
        refine ⟨Grows.refl _, fun X A ρ w a Q hp hgl hx => ?_⟩
        obtain ⟨v', h3, h4⟩ := h2 A ρ _ _ ⟨argTypes⟩ type (hops a A ρ hx x (by simp)) (hops a A ρ hx y (by simp))
        exact wp_value (m := Builtin.max_ ⟨argTypes⟩ type #[a.eval x, a.eval y]) (by simp [execOp, resolve, invoke, builtin]) (SemOk.pure hp (h3 w) h4)
      · obtain ⟨rfl, h2⟩ := minV_ok (P := P) h
        refine ⟨Grows.refl _, fun X A ρ w a Q hp hgl hx => ?_⟩
        obtain ⟨v', h3, h4⟩ := h2 A ρ _ _ ⟨argTypes⟩ type (hops a A ρ hx x (by simp)) (hops a A ρ hx y (by simp))
        exact wp_value (m := Builtin.min_ ⟨argTypes⟩ type #[a.eval x, a.eval y]) (by simp [execOp, resolve, invoke, builtin]) (SemOk.pure hp (h3 w) h4)
      · obtain ⟨h1, h2⟩ := deleteV_ok hE h
        exact ⟨h1, fun X A ρ w a Q hp hgl hx => wp_value (m := Builtin.delete_ ⟨argTypes⟩ type #[a.eval x, a.eval y]) (by simp [execOp, resolve, invoke, builtin]) (h2 X A ρ w _ _ type hp (hops a A ρ hx x (by simp)) (hops a A ρ hx y (by simp)))⟩
      · obtain ⟨h1, h2⟩ := copyV_ok hE h
        exact ⟨h1, fun X A ρ w a Q hp hgl hx => wp_value (m := Builtin.copy_ ⟨argTypes⟩ type #[a.eval x, a.eval y]) (by simp [execOp, resolve, invoke, builtin]) (h2 X A ρ w _ _ type hp (hops a A ρ hx x (by simp)) (hops a A ρ hx y (by simp)))⟩
      · obtain ⟨h1, h2⟩ := unsafeStringV_ok hE h
        exact ⟨h1, fun X A ρ w a Q hp hgl hx => wp_value (m := Builtin.unsafeString_ ⟨argTypes⟩ type #[a.eval x, a.eval y]) (by simp [execOp, resolve, invoke, builtin]) (h2 X A ρ w _ _ type hp (hops a A ρ hx x (by simp)) (hops a A ρ hx y (by simp)))⟩
      · cases h
    · cases h

end
end Go.Ev
