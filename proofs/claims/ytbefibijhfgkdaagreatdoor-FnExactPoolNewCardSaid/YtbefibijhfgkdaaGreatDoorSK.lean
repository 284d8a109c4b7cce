/- A lemma text of the proof that what the evaluator answers holds of every run of the model. No condition beyond those that each theorem states. -/
import Derived.Test.YtbefibijhfgkdaaGreatDoorSJ
namespace Go.Ev
open Go
set_option linter.unusedSimpArgs false
set_option linter.unusedVariables false
set_option maxHeartbeats 2000000
section
variable {E : Env} {P : Program} {call : Caller} {X A : Nat → Prop} {ρ : Rho} {s s' : St} {w w' : World} {v v' x y x' y' : Value} {o : Oper} {ev : Operand → Value}
theorem opV_ok (hE : EnvOk E P) (hC : CallerOk P call) (h : opV E call ev s o.op = some (v, s')) : OpOk P o ev s s' v := by
  obtain ⟨dst, op, type, pos, after, guard⟩ := o
  cases op <;> simp only [opV, reduceCtorEq] at h
  case move x =>
    have := some2_eq h; simp only [Prod.mk.injEq] at this; obtain ⟨rfl, rfl⟩ := this
    exact ⟨Grows.refl _, fun X A ρ w a Q hp hgl hx => wp_pure rfl hp (hx x (by simp [Op.operands]))⟩
  case assign x =>
    have := some2_eq h; simp only [Prod.mk.injEq] at this; obtain ⟨rfl, rfl⟩ := this
    exact ⟨Grows.refl _, fun X A ρ w a Q hp hgl hx => wp_pure rfl hp (hx x (by simp [Op.operands]))⟩
  case pick c p q =>
    unfold pickV at h
    split at h
    · rename_i b hc
      cases b with
      | true =>
        have := some2_eq h; simp only [Prod.mk.injEq] at this; obtain ⟨rfl, rfl⟩ := this
        refine ⟨Grows.refl _, fun X A ρ w a Q hp hgl hx => wp_pure ?_ hp (hx p (by simp [Op.operands]))⟩
        have := hx c (by simp [Op.operands]); rw [hc] at this
        simp [execOp, this.unbool, asBool]
      | false =>
        have := some2_eq h; simp only [Prod.mk.injEq] at this; obtain ⟨rfl, rfl⟩ := this
        refine ⟨Grows.refl _, fun X A ρ w a Q hp hgl hx => wp_pure ?_ hp (hx q (by simp [Op.operands]))⟩
        have := hx c (by simp [Op.operands]); rw [hc] at this
        simp [execOp, this.unbool, asBool]
    · cases h
  case alloc t =>
    obtain ⟨h1, h2⟩ := allocV_ok hE h
    exact ⟨h1, fun X A ρ w a Q hp hgl hx => wp_value (m := Instr.alloc t true (.tuple #[])) rfl (h2 X A ρ w hp)⟩
  case box t x =>
    obtain ⟨h1, h2⟩ := newV_ok (P := P) h
    refine ⟨h1, fun X A ρ w a Q hp hgl hx => wp_value (m := Instr.box t (a.eval x)) rfl ?_⟩
    have := h2 X A ρ w _ hp (by rw [cellsL_eq]; exact (hx x (by simp [Op.operands])).cells)
    exact this
  case build t ps =>
    obtain ⟨rfl, h2⟩ := buildV_ok hE h
    refine ⟨Grows.refl _, fun X A ρ w a Q hp hgl hx => ?_⟩
    obtain ⟨v', h3, h4⟩ := h2 A ρ a.eval (fun p hp => hx p.2 (by simp only [Op.operands, List.mem_toArray, List.mem_map]; exact ⟨p, by simpa using hp, rfl⟩))
    refine wp_value (m := Instr.build t (ps.map fun x => (x.1, a.eval x.2))) rfl (SemOk.pure hp ?_ h4)
    rw [← h3 w]; congr 2; apply Array.ext'; simp
  case buildSlice t n ps =>
    obtain ⟨h1, h2⟩ := buildSliceV_ok hE h
    refine ⟨h1, fun X A ρ w a Q hp hgl hx => wp_value (m := Instr.buildSlice t n (ps.map fun x => (x.1, a.eval x.2))) rfl ?_⟩
    have := h2 X A ρ w a.eval hp (fun p hp => hx p.2 (by simp only [Op.operands, List.mem_toArray, List.mem_map]; exact ⟨p, by simpa using hp, rfl⟩))
    rw [show (ps.map fun x => (x.1, a.eval x.2)) = (ps.toList.map fun x => (x.1, a.eval x.2)).toArray by apply Array.ext'; simp]
    exact this
  case load t x =>
    obtain ⟨h1, h2⟩ := load_ok hE h
    exact ⟨h1, fun X A ρ w a Q hp hgl hx => wp_value (m := Instr.loadAt t (a.eval x)) rfl (h2 X A ρ w _ hp (hx x (by simp [Op.operands])))⟩
  case store t x y =>
    obtain ⟨h1, h2⟩ := store_ok hE h
    refine ⟨h1, fun X A ρ w a Q hp hgl hx => ?_⟩
    obtain ⟨h3, h4⟩ := h2 X A ρ w _ _ hp (hx x (by simp [Op.operands])) (hx y (by simp [Op.operands]))
    exact wp_unit (m := Instr.storeAt t (a.eval x) (a.eval y)) rfl h3 h4
  case nilCheck x =>
    obtain ⟨rfl, rfl, h2⟩ := nilV_ok h
    refine ⟨Grows.refl _, fun X A ρ w a Q hp hgl hx => ?_⟩
    have hv := hx x (by simp [Op.operands])
    rcases h2 with ⟨q, hq⟩ | ⟨f, p, q, hq⟩
    · obtain ⟨b, off, sp⟩ := q
      rw [hq] at hv ⊢
      refine wp_pure (v' := a.eval x) ?_ hp hv
      simp only [execOp, hv.unptr, Sem.run_pure]
    · obtain ⟨p⟩ := p; obtain ⟨q⟩ := q
      rw [hq] at hv ⊢
      obtain ⟨p', q', he, _, _⟩ := hv.unfunc
      refine wp_pure (v' := a.eval x) ?_ hp hv
      simp only [execOp, he, Sem.run_pure]
  case binOp op t x y yt =>
    obtain ⟨u, hu, h1⟩ := ob_eq h
    have := some2_eq h1; simp only [Prod.mk.injEq] at this; obtain ⟨rfl, rfl⟩ := this
    refine ⟨Grows.refl _, fun X A ρ w a Q hp hgl hx => ?_⟩
    obtain ⟨v', h2, h3⟩ := binV_ok hE hu (hx x (by simp [Op.operands])) (hx y (by simp [Op.operands])) w
    exact wp_value (m := do eqGuard op t x y (a.eval x) (a.eval y); binOp op t (a.eval x) (a.eval y)) rfl (SemOk.pure hp h2 h3)
  case unOp op t x =>
    obtain ⟨rfl, h2⟩ := unV_ok (P := P) h
    refine ⟨Grows.refl _, fun X A ρ w a Q hp hgl hx => ?_⟩
    obtain ⟨v', h3, h4⟩ := h2 A ρ _ (hx x (by simp [Op.operands]))
    exact wp_value (m := Op.unary op (a.eval x)) rfl (SemOk.pure hp (h3 w) h4)
  case convert src d x =>
    obtain ⟨h1, h2⟩ := convV_ok hE h
    exact ⟨h1, fun X A ρ w a Q hp hgl hx => wp_value (m := convert src d (a.eval x)) rfl (h2 X A ρ w _ hp (hx x (by simp [Op.operands])))⟩
  case makeFunc fn f c =>
    have := some2_eq h; simp only [Prod.mk.injEq] at this; obtain ⟨rfl, rfl⟩ := this
    refine ⟨Grows.refl _, fun X A ρ w a Q hp hgl hx => ?_⟩
    refine wp_pure (v' := .func fn ⟨f.toList.map a.eval⟩ ⟨c.toList.map a.eval⟩) ?_ hp (VR.func (mapL_ok fun x hxx => hx x ?_) (mapL_ok fun x hxx => hx x ?_))
    · simp only [execOp, Instr.makeFunc, Sem.run_bind, Sem.run_pure, Result.andThen_ok]
      congr 3 <;> (apply Array.ext'; simp)
    · simp only [Op.operands, Array.mem_append]; exact .inl (by simpa using hxx)
    · simp only [Op.operands, Array.mem_append]; exact .inr (by simpa using hxx)
  case makeMap t r =>
    cases r with
    | some r => cases h
    | none =>
      have := some2_eq h; simp only [Prod.mk.injEq] at this; obtain ⟨rfl, rfl⟩ := this
      exact ⟨Grows.mk_new s _, fun X A ρ w a Q hp hgl hx => wp_value (m := Instr.makeMap t none) rfl (makeMap_ok t X A ρ w hp)⟩
  case makeSlice t l c =>
    obtain ⟨h1, h2⟩ := makeSliceV_ok hE h
    exact ⟨h1, fun X A ρ w a Q hp hgl hx => wp_value (m := Instr.makeSlice t (a.eval l) (a.eval c)) rfl (h2 X A ρ w _ _ hp (hx l (by simp [Op.operands])) (hx c (by simp [Op.operands])))⟩
  case slice t x lo hi mx =>
    obtain ⟨h1, h2⟩ := sliceV_ok hE h
    exact ⟨h1, fun X A ρ w a Q hp hgl hx => wp_value (m := Instr.sliceAt t (a.eval x) (lo.map a.eval) (hi.map a.eval) (mx.map a.eval)) rfl (h2 X A ρ w _ _ _ _ hp (hx x (by simp [Op.operands])) (mapO_ok fun q hq => hx q (by subst hq; simp [Op.operands])) (mapO_ok fun q hq => hx q (by subst hq; simp [Op.operands])) (mapO_ok fun q hq => hx q (by subst hq; simp [Op.operands])))⟩
  case fieldAddr t x i =>
    obtain ⟨rfl, h2⟩ := fieldAddrV_ok hE h
    refine ⟨Grows.refl _, fun X A ρ w a Q hp hgl hx => ?_⟩
    obtain ⟨v', h3, h4⟩ := h2 A ρ _ (fun _ _ _ => trivial) (hx x (by simp [Op.operands]))
    exact wp_value (m := Instr.fieldAt t (a.eval x) i) rfl (SemOk.pure hp (h3 w) h4)
  case indexAddr t x i =>
    obtain ⟨rfl, h2⟩ := indexAddrV_ok hE h
    refine ⟨Grows.refl _, fun X A ρ w a Q hp hgl hx => ?_⟩
    obtain ⟨v', h3, h4⟩ := h2 A ρ _ _ (hx x (by simp [Op.operands])) (hx i (by simp [Op.operands]))
    exact wp_value (m := Instr.indexAt t (a.eval x) (a.eval i)) rfl (SemOk.pure hp (h3 w) h4)
  case index t x i =>
    obtain ⟨rfl, h2⟩ := indexV_ok hE h
    refine ⟨Grows.refl _, fun X A ρ w a Q hp hgl hx => ?_⟩
    obtain ⟨v', h3, h4⟩ := h2 A ρ _ _ (hx x (by simp [Op.operands])) (hx i (by simp [Op.operands]))
    exact wp_value (m := Instr.index t (a.eval x) (a.eval i)) rfl (SemOk.pure hp (h3 w) h4)
  case lookup t m k ok =>
    obtain ⟨h1, h2⟩ := lookupV_ok hE h
    exact ⟨h1, fun X A ρ w a Q hp hgl hx => wp_value (m := Instr.lookup t (a.eval m) (a.eval k) ok) rfl (h2 X A ρ w _ _ hp (hx m (by simp [Op.operands])) (hx k (by simp [Op.operands])))⟩
  case mapUpdate t m k u =>
    obtain ⟨h1, h2, h3⟩ := mapUpdateV_ok hE h
    exact ⟨h1, fun X A ρ w a Q hp hgl hx => wp_unit (m := Instr.mapUpdate t (a.eval m) (a.eval k) (a.eval u)) rfl h2 (h3 X A ρ w _ _ _ hp (hx m (by simp [Op.operands])) (hx k (by simp [Op.operands])) (hx u (by simp [Op.operands])))⟩
  case extract x i =>
    obtain ⟨rfl, h2⟩ := extractV_ok (P := P) h
    refine ⟨Grows.refl _, fun X A ρ w a Q hp hgl hx => ?_⟩
    obtain ⟨v', h3, h4⟩ := h2 A ρ _ (hx x (by simp [Op.operands]))
    exact wp_value (m := Instr.extract (a.eval x) i) rfl (SemOk.pure hp (h3 w) h4)
  case range t x =>
    obtain ⟨h1, h2⟩ := rangeV_ok hE h
    exact ⟨h1, fun X A ρ w a Q hp hgl hx => wp_value (m := Instr.range t (a.eval x)) rfl (h2 X A ρ w _ hp (hx x (by simp [Op.operands])))⟩
  case next x str =>
    obtain ⟨h1, h2⟩ := nextV_ok hE h
    exact ⟨h1, fun X A ρ w a Q hp hgl hx => wp_value (m := Instr.next (a.eval x) str type) rfl (h2 X A ρ w _ type hp (hx x (by simp [Op.operands])))⟩
  case call c => exact callV1_ok hE hC h dst type pos after guard
end
end Go.Ev
