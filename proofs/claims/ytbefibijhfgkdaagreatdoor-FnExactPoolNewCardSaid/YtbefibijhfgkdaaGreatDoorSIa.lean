/- A lemma text of the proof that what the evaluator answers holds of every run of the model. No condition beyond those that each theorem states. -/
import Derived.Test.YtbefibijhfgkdaaGreatDoorSI
namespace Go.Ev
open Go
set_option linter.unusedSimpArgs false
set_option linter.unusedVariables false
section
variable {E : Env} {P : Program} {X A : Nat → Prop} {ρ : Rho} {s s' : St} {w w' : World} {v v' x y x' y' : Value}

theorem minV_ok (h : minV x y s = some (v, s')) : s' = s ∧ ∀ A ρ x' y' ts ty, VR A ρ x x' → VR A ρ y y' → ∃ v', (∀ w, (Builtin.min_ ts ty #[x', y']).run P w = .ok v' w) ∧ VR A ρ v v' := by
  unfold minV at h
  split at h
  · rename_i k a k' b
    obtain ⟨hk, h2⟩ := chk_eq h
    have := some2_eq h2
    simp only [Prod.mk.injEq] at this
    obtain ⟨rfl, rfl⟩ := this
    refine ⟨rfl, fun A ρ x' y' ts ty hx hy => ⟨_, fun w => ?_, VR.int _ _⟩⟩
    rw [hx.unint, hy.unint]
    simp only [Builtin.min_, List.foldlM, Builtin.min2]
    simp [bo_eq, iLt_eq]
  · cases h
theorem capV_ok (hE : EnvOk E P) {t ty : TypeId} (h : capV E t x s = some (v, s')) : s' = s ∧ ∀ A ρ x' ts, VR A ρ x x' → ts[0]? = some t → ∃ v', (∀ w, (Builtin.cap_ ts ty #[x']).run P w = .ok v' w) ∧ VR A ρ v v' := by
  obtain ⟨d, hd, h1⟩ := ob_eq h
  clear h
  split at h1
  · rename_i e a n c
    obtain ⟨hc, h2⟩ := chk_eq h1
    have hc' : c < unk := Nat.le_of_ble_eq_true hc
    have := some2_eq h2
    simp only [Prod.mk.injEq] at this
    obtain ⟨rfl, rfl⟩ := this
    refine ⟨rfl, fun A ρ x' ts hx hts => ⟨.int .i64 (.ofNat c), fun w => ?_, VR.int _ _⟩⟩
    have hx' : ∃ a', x' = .slice a' n c := by
      cases a with
      | none => exact ⟨none, hx.unslice0⟩
      | some a => obtain ⟨b, o, q⟩ := a; exact ⟨_, by rw [hx.unslice, capMap_lt hc']⟩
    obtain ⟨a', rfl⟩ := hx'
    simp [Builtin.cap_, hts, run_underlying (und_ok hE hd), goInt]
  · cases h1
theorem lenMapV_ok (hE : EnvOk E P) {t ty : TypeId} {b : Nat} (h : lenMapV E s t b = some (v, s')) : Grows s s' ∧ ∀ X A ρ w x' ts, Pre P X A ρ s s' w → VR A ρ (.map (some b)) x' → ts[0]? = some t → SemOk P X A ρ s s' w v (Builtin.len_ ts ty #[x']) := by
  obtain ⟨d, hd, h1⟩ := ob_eq h
  clear h
  split at h1
  · obtain ⟨o, ho, h2⟩ := ob_eq h1
    obtain ⟨es, hes, h3⟩ := ob_eq h2
    have := mapOf_eq hes; subst this
    have := some2_eq h3
    simp only [Prod.mk.injEq] at this
    obtain ⟨rfl, rfl⟩ := this
    refine ⟨Grows.read s b, fun X A ρ w x' ts hp hx hts => ?_⟩
    obtain ⟨hA, xo, hxo, xs, ck, rfl, hl1, hl2⟩ := hp.st.obj b _ (hp.acc b (read_in s b)) ho
    have hlen : xs.length = es.length := by have := hl1.length; simp at this; omega
    refine SemOk.same hp (by simp) (by simp) (v' := .int .i64 (.ofNat es.length)) ?_ (by rw [lenL_eq]; exact VR.int _ _)
    rw [hx.unmap]
    have hget : (getObj (ρ b).1).run P w = .ok (.map ⟨xs⟩ ck) w := by
      simp [getObj, Sem.run, hxo]
    simp [Builtin.len_, hts, run_underlying (und_ok hE hd), hget, goInt, hlen]
  · cases h1
theorem eraseIdx_toList {α : Type} (l : List α) (j : Nat) : (⟨l⟩ : Array α).eraseIdxIfInBounds j = ⟨l.eraseIdx j⟩ := by
  unfold Array.eraseIdxIfInBounds
  split
  · apply Array.ext'
    simp
  · rename_i h
    rw [List.eraseIdx_of_length_le (by simpa using h)]
theorem deleteV_ok (hE : EnvOk E P) {ts : List TypeId} (h : deleteV E s ts x y = some (v, s')) : Grows s s' ∧ ∀ X A ρ w x' y' ty, Pre P X A ρ s s' w → VR A ρ x x' → VR A ρ y y' → SemOk P X A ρ s s' w v (Builtin.delete_ ⟨ts⟩ ty #[x', y']) := by
  obtain ⟨t, ht, h0⟩ := ob_eq h
  obtain ⟨d, hd, h1⟩ := ob_eq h0
  clear h h0
  rw [nthL_eq] at ht
  split at h1
  · rename_i kt e b
    obtain ⟨kd, hkd, h2⟩ := ob_eq h1
    obtain ⟨hkt, h3⟩ := chk_eq h2
    obtain ⟨o, ho, h5⟩ := ob_eq h3
    obtain ⟨es, hes, h6⟩ := ob_eq h5
    obtain ⟨es2, he2, h7⟩ := ob_eq h6
    have := mapOf_eq hes; subst this
    have hu := und_ok hE hd
    have huk := und_ok hE hkd
    have := some2_eq h7
    simp only [Prod.mk.injEq] at this
    obtain ⟨rfl, rfl⟩ := this
    refine ⟨Grows.put s b _ (by rw [show s.heap.get b = some (.map es) from ho]; simp), fun X A ρ w x' y' ty hp hx hy => ?_⟩
    obtain ⟨hA, xo, hxo, xs, ck, rfl, hl1, hl2⟩ := hp.st.obj b _ (hp.acc b (put_in_acc s b _)) ho
    have hy' : y' = y := by rw [← hy.self, keyT_ground hkt]
    subst hy'
    rw [hx.unmap]
    have hget : (getObj (ρ b).1).run P w = .ok (.map ⟨xs⟩ ck) w := by
      simp [getObj, Sem.run, hxo]
    obtain ⟨r, hr⟩ : ∃ r, findV y' es = some r := by
      have key : ∀ (l l2 : List (Value × Value)), delL y' l = some l2 → ∃ r, findV y' l = some r := by
        intro l
        induction l with
        | nil => intro _ _; exact ⟨none, rfl⟩
        | cons p l ih =>
          intro l2 h
          rw [delL_cons] at h
          obtain ⟨b, hb, h9⟩ := ob_eq h
          rw [findV_cons, hb]
          cases b with
          | true => exact ⟨some p.2, rfl⟩
          | false =>
            rw [bo_false] at h9
            obtain ⟨r, hr, _⟩ := ob_eq h9
            exact ih _ hr
      exact key _ _ he2
    obtain ⟨r', hfk, hr2⟩ := findKey_ok hE huk hkt hr hl1 hl2
    have htt : (⟨ts⟩ : Array TypeId)[0]? = some t := by simpa using ht
    cases r with
    | none =>
      obtain ⟨rfl, hdel⟩ := hr2
      have : es2 = es := Option.some.inj (he2.symm.trans hdel)
      subst this
      obtain ⟨hput, hgood⟩ := Good.put_obj (x' := .map ⟨xs⟩ ck) hp ho hxo (by simp) ⟨xs, ck, rfl, hl1, hl2⟩
      refine ⟨_, _, ρ, ?_, VR.undef, hgood⟩
      unfold Builtin.delete_
      simp [htt, run_underlying hu, hget, run_checkKey hE _ huk hkt, hfk, hput]
    | some u =>
      obtain ⟨j, v2, rfl, hv2, hkey, hdel, hset⟩ := hr2
      have : es2 = es.eraseIdx j := Option.some.inj (he2.symm.trans hdel)
      subst this
      obtain ⟨hput, hgood⟩ := Good.put_obj (x' := .map ⟨xs.eraseIdx j⟩ ck) hp ho hxo (by simp) (by
        refine ⟨xs.eraseIdx j, ck, rfl, ?_, ?_⟩
        · rw [map_eraseAt, map_eraseAt]; exact hl1.eraseAt j
        · rw [map_eraseAt, map_eraseAt]; exact hl2.eraseAt j)
      refine ⟨_, _, ρ, ?_, VR.undef, hgood⟩
      unfold Builtin.delete_
      simp [htt, run_underlying hu, hget, run_checkKey hE _ huk hkt, hfk, hput, eraseIdx_toList]
  · cases h1
theorem rangeV_ok (hE : EnvOk E P) {t : TypeId} (h : rangeV E s t x = some (v, s')) : Grows s s' ∧ ∀ X A ρ w x', Pre P X A ρ s s' w → VR A ρ x x' → SemOk P X A ρ s s' w v (Instr.range t x') := by
  obtain ⟨d, hd, h1⟩ := ob_eq h
  clear h
  have hu := und_ok hE hd
  split at h1
  · rename_i z
    have := some2_eq h1
    simp only [Prod.mk.injEq] at this
    obtain ⟨rfl, rfl⟩ := this
    refine ⟨Grows.mk_new s _, fun X A ρ w x' hp hx => ?_⟩
    refine ⟨.pointer (some ⟨w.heap.size, 0, none⟩), w.alloc (.stringIter ⟨⟨z⟩⟩ 0), ρ.at s.next (w.heap.size, 0), ?_, ?_, ?_⟩
    · rw [hx.unstr]
      unfold Instr.range
      simp only [Sem.run_bind, run_underlying hu, Result.andThen_ok, Sem.run_pure]
      rfl
    · have := VR.ptr (A := SetAdd A s.next (s.new (.siter z 0)).next) (ρ := ρ.at s.next (w.heap.size, 0)) (b := s.next) (o := 0) (s := none) (.inr ⟨Nat.le_refl _, by simp⟩)
      simpa using this
    · refine Good.alloc (o := .siter z 0) (x := .stringIter ⟨⟨z⟩⟩ 0) hp.st hp.above hp.lt (fun c => by simp) (by simp) (new_in_wr s _) (Nat.le_refl _) (heap_alloc_new w _) ?_ (Fr.alloc w _)
      rfl
  · rename_i kt e b
    obtain ⟨o, ho, h2⟩ := ob_eq h1
    obtain ⟨es, hes, h3⟩ := ob_eq h2
    have := mapOf_eq hes; subst this
    have := some2_eq h3
    simp only [Prod.mk.injEq] at this
    obtain ⟨rfl, rfl⟩ := this
    refine ⟨(Grows.read s b).trans (Grows.mk_new _ _), fun X A ρ w x' hp hx => ?_⟩
    have hacc : In ((s.read b).new (.miter b)).acc b := (Grows.mk_new (s.read b) (.miter b)).acc b (read_in s b)
    obtain ⟨hA, xo, hxo, xs, ck, rfl, hl1, hl2⟩ := hp.st.obj b _ (hp.acc b hacc) ho
    have hget : (getObj (ρ b).1).run P w = .ok (.map ⟨xs⟩ ck) w := by
      simp [getObj, Sem.run, hxo]
    have hbn : b ≠ s.next := by have := hp.lt b hA; omega
    refine ⟨.pointer (some ⟨w.heap.size, 0, none⟩), w.alloc (.mapIter (some (ρ b).1) ck #[] ck), ρ.at s.next (w.heap.size, 0), ?_, ?_, ?_⟩
    · rw [hx.unmap]
      unfold Instr.range
      simp only [Sem.run_bind, run_underlying hu, Result.andThen_ok, Sem.run_pure, hget]
      rfl
    · have := VR.ptr (A := SetAdd A s.next ((s.read b).new (.miter b)).next) (ρ := ρ.at s.next (w.heap.size, 0)) (b := s.next) (o := 0) (s := none) (.inr ⟨Nat.le_refl _, by simp⟩)
      simpa using this
    · refine Good.alloc (o := .miter b) (x := .mapIter (some (ρ b).1) ck #[] ck) hp.st hp.above hp.lt (fun c => by simp) (by simp) (by have := new_in_wr (s.read b) (.miter b); simpa using this) (Nat.le_refl _) (heap_alloc_new w _) ?_ (Fr.alloc w _)
      exact ⟨hA, ck, ck, rfl⟩
  · cases h1
theorem decode_small (z : List UInt8) (p : Nat) (c : UInt8) (h : z[p]? = some c) (hc : c.toNat < 128) : Utf8.decode ⟨⟨z⟩⟩ p = (c.toNat, 1) := by
  unfold Utf8.decode
  have hp : p < z.length := (List.getElem?_eq_some_iff.1 h).1
  have h0 : ((⟨⟨z⟩⟩ : ByteArray).get! (p + 0)).toNat = c.toNat := by
    have : (⟨⟨z⟩⟩ : ByteArray).get! (p + 0) = c := by
      show (⟨z⟩ : Array UInt8)[p + 0]! = c
      rw [Nat.add_zero]
      simp [getElem!_def, h]
    rw [this]
  simp only [h0]
  rw [if_pos (by omega)]
theorem nextV_ok (hE : EnvOk E P) {str : Bool} (h : nextV s x str = some (v, s')) : Grows s s' ∧ ∀ X A ρ w x' ty, Pre P X A ρ s s' w → VR A ρ x x' → SemOk P X A ρ s s' w v (Instr.next x' str ty) := by
  unfold nextV at h
  split at h
  · rename_i b
    obtain ⟨o, ho, h1⟩ := ob_eq h
    clear h
    have ho' : s.heap.get b = some o := ho
    split at h1
    · rename_i z p
      obtain ⟨hstr, h2⟩ := chk_eq h1
      subst hstr
      unfold nextS at h2
      split at h2
      · rename_i hz
        rw [nthL_eq] at hz
        have := some2_eq h2
        simp only [Prod.mk.injEq] at this
        obtain ⟨rfl, rfl⟩ := this
        refine ⟨Grows.read s b, fun X A ρ w x' ty hp hx => ?_⟩
        obtain ⟨hA, xo, hxo, hxo2⟩ := hp.st.obj b _ (hp.acc b (read_in s b)) ho
        have hxo2 : xo = .stringIter ⟨⟨z⟩⟩ p := hxo2
        subst hxo2
        have hget : (getObj (ρ b).1).run P w = .ok (.stringIter ⟨⟨z⟩⟩ p) w := by
          simp [getObj, Sem.run, hxo]
        refine SemOk.same hp (by simp) (by simp) (v' := .tuple #[.bool false]) ?_ (VR.tuple (LR.cons (VR.bool _) LR.nil))
        rw [hx.unptr]
        have hsz : ¬ p < (⟨⟨z⟩⟩ : ByteArray).size := by
          have h3 : (⟨⟨z⟩⟩ : ByteArray).size = z.length := rfl
          have := List.getElem?_eq_none_iff.1 hz
          omega
        unfold Instr.next
        simp only [Sem.run_bind, hget, Result.andThen_ok, if_neg hsz, Sem.run_pure]
      · rename_i c hz
        rw [nthL_eq] at hz
        obtain ⟨hc, h3⟩ := chk_eq h2
        have hc' : c.toNat < 128 := Nat.le_of_ble_eq_true hc
        have := some2_eq h3
        simp only [Prod.mk.injEq] at this
        obtain ⟨rfl, rfl⟩ := this
        refine ⟨Grows.put s b _ (by rw [ho']; simp), fun X A ρ w x' ty hp hx => ?_⟩
        obtain ⟨hA, xo, hxo, hxo2⟩ := hp.st.obj b _ (hp.acc b (put_in_acc s b _)) ho
        have hxo2 : xo = .stringIter ⟨⟨z⟩⟩ p := hxo2
        subst hxo2
        have hget : (getObj (ρ b).1).run P w = .ok (.stringIter ⟨⟨z⟩⟩ p) w := by
          simp [getObj, Sem.run, hxo]
        obtain ⟨hput, hgood⟩ := Good.put_obj (x' := .stringIter ⟨⟨z⟩⟩ (p + 1)) hp ho hxo (by simp) (show ObjR P A ρ (ρ b) (.siter z (Nat.succ p)) _ from rfl)
        refine ⟨.tuple #[.bool true, .int .i64 (.ofNat p), .int .i32 (.ofNat c.toNat)], _, ρ, ?_, VR.tuple (LR.cons (VR.bool _) (LR.cons (VR.int _ _) (LR.cons (VR.int _ _) LR.nil))), hgood⟩
        rw [hx.unptr]
        have hsz : p < (⟨⟨z⟩⟩ : ByteArray).size := (List.getElem?_eq_some_iff.1 hz).1
        unfold Instr.next
        simp only [Sem.run_bind, hget, Result.andThen_ok, if_pos hsz, decode_small z p c hz hc', hput, Sem.run_pure]
        rfl
    · rename_i m
      obtain ⟨hstr, h2⟩ := chk_eq h1
      have hstr : str = false := by simpa using hstr
      subst hstr
      obtain ⟨o2, ho2, h3⟩ := ob_eq h2
      obtain ⟨es, hes, h4⟩ := ob_eq h3
      have := mapOf_eq hes; subst this
      split at h4
      · have := some2_eq h4
        simp only [Prod.mk.injEq] at this
        obtain ⟨rfl, rfl⟩ := this
        refine ⟨(Grows.read s b).trans (Grows.read _ m), fun X A ρ w x' ty hp hx => ?_⟩
        have hacc : In ((s.read b).read m).acc b := (Grows.read (s.read b) m).acc b (read_in s b)
        obtain ⟨hA, xo, hxo, hAm, since, last, rfl⟩ := hp.st.obj b _ (hp.acc b hacc) ho
        obtain ⟨hA2, xo2, hxo2, xs, ck, rfl, hl1, hl2⟩ := hp.st.obj m _ (hp.acc m (read_in (s.read b) m)) ho2
        have hxs : xs = [] := by
          have := hl1.length
          cases xs with
          | nil => rfl
          | cons a l => simp at this
        subst hxs
        have hget : (getObj (ρ b).1).run P w = .ok (.mapIter (some (ρ m).1) since #[] last) w := by
          simp [getObj, Sem.run, hxo]
        have hget2 : (getObj (ρ m).1).run P w = .ok (.map #[] ck) w := by
          simp [getObj, Sem.run, hxo2]
        refine SemOk.same hp (by simp) (by simp) (v' := .tuple #[.bool false]) ?_ (VR.tuple (LR.cons (VR.bool _) LR.nil))
        rw [hx.unptr]
        unfold Instr.next
        simp [hget, hget2, Question.forced]
      · cases h4
    · cases h1
  · cases h
end
end Go.Ev
