/- A lemma text of the proof that what the evaluator answers holds of every run of the model. No condition beyond those that each theorem states. -/
import Derived.Test.YtbefibijhfgkdaaGreatDoorSJ
namespace Go.Ev
open Go
set_option linter.unusedSimpArgs false
set_option linter.unusedVariables false
mutual
def groundB : Value → Bool
  | .agg ⟨cs⟩ => groundL cs
  | .tuple ⟨cs⟩ => groundL cs
  | .func _ ⟨f⟩ ⟨c⟩ => groundL f && groundL c
  | .iface _ v => groundB v
  | .pointer (some _) => false
  | .slice (some _) _ _ => false
  | .map (some _) => false
  | _ => true
def groundL : List Value → Bool
  | [] => true
  | v :: vs => groundB v && groundL vs
end
mutual
theorem groundB_ok (ρ : Rho) : ∀ v, groundB v = true → vmap ρ v = v
  | .agg ⟨cs⟩, h => by rw [vmap_agg, groundL_ok ρ cs (by simpa [groundB] using h)]
  | .tuple ⟨cs⟩, h => by rw [vmap_tuple, groundL_ok ρ cs (by simpa [groundB] using h)]
  | .func fn ⟨f⟩ ⟨c⟩, h => by
    simp only [groundB, Bool.and_eq_true] at h
    rw [vmap_func, groundL_ok ρ f h.1, groundL_ok ρ c h.2]
  | .iface t v, h => by
    have := groundB_ok ρ v (by simpa [groundB] using h)
    simp [vmap, this]
  | .pointer none, _ => by simp
  | .pointer (some _), h => by simp [groundB] at h
  | .slice none _ _, _ => by simp
  | .slice (some _) _ _, h => by simp [groundB] at h
  | .map none, _ => by simp [vmap]
  | .map (some _), h => by simp [groundB] at h
  | .bool _, _ => by simp
  | .int _ _, _ => by simp
  | .float _ _, _ => by simp [vmap]
  | .complex _ _ _, _ => by simp [vmap]
  | .string _, _ => by simp
  | .chan _, _ => by simp [vmap]
  | .nilFunc, _ => by simp
  | .nilIface, _ => by simp
theorem groundL_ok (ρ : Rho) : ∀ l : List Value, groundL l = true → l.map (vmap ρ) = l
  | [], _ => rfl
  | v :: vs, h => by
    simp only [groundL, Bool.and_eq_true] at h
    rw [List.map_cons, groundB_ok ρ v h.1, groundL_ok ρ vs h.2]
end

def opndOk (x : Operand) : Bool := match x with
  | .const v => groundB v
  | .global g => Nat.ble (Nat.succ g) 16
  | _ => true
def operOk (N : Nat) (o : Oper) : Bool := (match o.dst with
  | some d => Nat.ble (Nat.succ d) N
  | none => true) && o.op.operands.toList.all opndOk

section
variable {E : Env} {P : Program} {call : Caller} {X A B : Nat → Prop} {ρ ρ2 : Rho} {s s' : St} {w w' : World} {v v' x y x' y' : Value} {o : Oper} {ev : Operand → Value} {N : Nat} {tm tm' : Tm} {a : Act}
theorem Gl.mono (h : Gl A ρ) (hA : ∀ i, A i → B i) (hρ : ∀ i, A i → ρ2 i = ρ i) : Gl B ρ2 := fun g hg => ⟨hA g (h g hg).1, by rw [hρ g (h g hg).1]; exact (h g hg).2⟩
def TmR (A : Nat → Prop) (ρ : Rho) (N : Nat) (tm : Tm) (a : Act) : Prop := a.tmps.size = N ∧ ∀ t, VR A ρ (valOr (tm.get t)) (a.tmps.getD t undef)
theorem TmR.mono (h : TmR A ρ N tm a) (hA : ∀ i, A i → B i) (hρ : ∀ i, A i → ρ2 i = ρ i) : TmR B ρ2 N tm a := ⟨h.1, fun t => (h.2 t).mono hA hρ⟩
noncomputable def Tm.lay (tm : Tm) (d : Option Tmp) (v : Value) : Tm := match d with
  | some d => tm.set (Nat.succ d) d (some v)
  | none => tm
theorem Tm.put_eq {β : Type} (tm : Tm) (d : Option Tmp) (v : Value) (k : Tm → β) : tm.put d v k = k (tm.lay d v) := by
  cases d <;> simp [Tm.put, Tm.lay]
theorem put_getD (a : Act) (d t : Nat) (v : Value) (hd : d < a.tmps.size) : (a.put (some d) v).tmps.getD t undef = if t = d then v else a.tmps.getD t undef := by
  simp only [Act.put, Array.getD_eq_getD_getElem?, Array.getElem?_setIfInBounds]
  by_cases h : d = t
  · subst h; simp [hd]
  · rw [if_neg h, if_neg (fun e => h e.symm)]
theorem TmR.put {d : Option Tmp} {v v' : Value} (h : TmR A ρ N tm a) (hv : VR A ρ v v') (hd : ∀ t, d = some t → t < N) : TmR A ρ N (tm.lay d v) (a.put d v') := by
  cases d with
  | none => exact h
  | some d =>
    have hd := hd d rfl
    refine ⟨by simp [Act.put, h.1], fun t => ?_⟩
    rw [put_getD a d t v' (by rw [h.1]; exact hd)]
    unfold Tm.lay
    simp only [T.get_put]
    by_cases ht : t = d
    · simp only [ht, if_true]; exact hv
    · simp only [ht, if_false]; exact h.2 t
theorem evOp_ok {x : Operand} (ho : opndOk x = true) (hg : Gl A ρ) (ht : ∀ t, x = .tmp t → VR A ρ (valOr (tm.get t)) (a.tmps.getD t undef)) : VR A ρ (evOp tm x) (a.eval x) := by
  cases x with
  | tmp t => exact ht t rfl
  | const v => exact VR.ground fun ρ => groundB_ok ρ v ho
  | global g =>
    have hg' : g < 16 := Nat.le_of_ble_eq_true ho
    have := VR.ptr (ρ := ρ) (o := 0) (s := none) (hg g hg').1
    rw [(hg g hg').2] at this
    exact this
  | func f => exact VR.ground fun ρ => by simp [evOp]
theorem guardV_eq (v : Option Value) (want : Bool) : guardV v want = true ↔ v = some (.bool want) := by
  unfold guardV
  split
  · rename_i b
    rw [bo_eq]
    cases b <;> cases want <;> simp
  · rename_i h
    simp only [Bool.false_eq_true, false_iff]
    rintro rfl
    exact h want rfl
theorem bool_of_vmap {b : Bool} (h : vmap ρ v = .bool b) : v = .bool b := by
  cases v <;> try (simp [vmap] at h; done)
  · simpa using h
  · rename_i a; cases a <;> simp [vmap] at h
  · rename_i a _ _; cases a <;> simp [vmap] at h
  · rename_i a; cases a <;> simp [vmap] at h
theorem VR.bool_iff {b : Bool} (h : VR A ρ v v') (hv : v' = .bool b) : v = .bool b := bool_of_vmap (ρ := ρ) (by rw [h.self, hv])
theorem wanted_ok {ops : List Oper} {o : Oper} (hs : a.tmps.size = N) (hN : ∀ p ∈ ops, ∀ d, p.dst = some d → d < N)
    (ht : ∀ j want, o.guard = some (j, want) → ∀ d, dstOf ops j = some d → VR A ρ (valOr (tm.get d)) (a.tmps.getD d undef)) : Region.wanted o (yielded ⟨ops⟩ a.tmps) = wantedV ops tm o.guard := by
  unfold Region.wanted wantedV
  cases hgd : o.guard with
  | none => rfl
  | some p =>
    obtain ⟨j, want⟩ := p
    simp only
    have hdst : ((⟨ops⟩ : Array Oper)[j]?).bind (·.dst) = dstOf ops j := by
      unfold dstOf
      rw [nthL_eq]
      simp only [List.getElem?_toArray]
      cases ops[j]? <;> rfl
    unfold yielded
    rw [hdst]
    cases hd : dstOf ops j with
    | none => simp [guardV]
    | some d =>
      have hv := ht j want hgd d hd
      have hdN : d < a.tmps.size := by
        unfold dstOf at hd
        obtain ⟨p, hp, hd'⟩ := ob_eq hd
        rw [nthL_eq] at hp
        rw [hs]
        exact hN p (List.mem_of_getElem? hp) d hd'
      have hget : a.tmps[d]? = some (a.tmps.getD d undef) := by simp [hdN]
      simp only [Option.bind_some, ob_some, hget]
      generalize a.tmps.getD d undef = u at hv
      rw [Bool.eq_iff_iff, guardV_eq]
      constructor
      · intro h
        have hu : u = .bool want := by
          split at h
          · rename_i b hb
            simp at hb h
            rw [hb, h]
          · simp at h
        have := hv.bool_iff hu
        cases hh : tm.get d with
        | none => rw [hh] at this; cases this
        | some q => rw [hh] at this; exact congrArg some this
      · intro h
        rw [h] at hv
        rw [hv.unbool]
        simp
end
end Go.Ev
