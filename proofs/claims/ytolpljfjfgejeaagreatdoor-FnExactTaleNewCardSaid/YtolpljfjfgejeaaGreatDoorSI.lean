/- A lemma text of the proof that what the evaluator answers holds of every run of the model. No condition beyond those that each theorem states. -/
import Derived.Test.YtolpljfjfgejeaaGreatDoorSH
namespace Go.Ev
open Go
set_option linter.unusedSimpArgs false
set_option linter.unusedVariables false
section
variable {E : Env} {P : Program} {X A : Nat → Prop} {ρ : Rho} {s s' : St} {w w' : World} {v v' x y x' y' : Value}

theorem makeMap_ok (t : TypeId) : ∀ X A ρ w, Pre P X A ρ s (s.new (.map [])) w → SemOk P X A ρ s (s.new (.map [])) w (.map (some s.next)) (Instr.makeMap t none) := by
  intro X A ρ w hp
  refine ⟨.map (some w.heap.size), w.alloc (.map #[] 0), ρ.at s.next (w.heap.size, 0), rfl, ?_, ?_⟩
  · have := VR.mapv (A := SetAdd A s.next (s.new (.map [])).next) (ρ := ρ.at s.next (w.heap.size, 0)) (b := s.next) (.inr ⟨Nat.le_refl _, by simp⟩)
    simpa using this
  · refine Good.alloc (o := .map []) (x := .map #[] 0) hp.st hp.above hp.lt (fun c => by simp) (by simp) (new_in_wr s _) (Nat.le_refl _) (heap_alloc_new w _) ?_ (Fr.alloc w _)
    exact ⟨[], 0, rfl, LR.nil, LR.nil⟩
theorem VR.unmap {b : Nat} (h : VR A ρ (.map (some b)) v') : v' = .map (some (ρ b).1) := by rw [← h.self, vmap_mapv]

theorem bytes_beq (a b : List UInt8) : ((⟨⟨a⟩⟩ : ByteArray) == (⟨⟨b⟩⟩ : ByteArray)) = (a == b) := by
  have h : ((⟨⟨a⟩⟩ : ByteArray) == (⟨⟨b⟩⟩ : ByteArray)) = ((⟨a⟩ : Array UInt8) == (⟨b⟩ : Array UInt8)) := rfl
  rw [h, Bool.eq_iff_iff]
  simp
theorem findV_cons (k : Value) (p : Value × Value) (l : List (Value × Value)) : findV k (p :: l) = ob (keyEq k p.1) fun b => bo b (some (some p.2)) (findV k l) := rfl
theorem keyEq_ok {k k' : Value} {b : Bool} {d : TypeDesc} (h : keyEq k k' = some b) (hd : keyT d k = true) : (∀ ρ, vmap ρ k' = k') ∧ Instr.sameNow d k k' = some b := by
  unfold keyEq at h
  split at h
  · rename_i j a j' a'
    obtain ⟨h1, h2⟩ := chk_eq h
    have := kindEq_eq h1; subst this
    have := Option.some.inj h2; subst this
    refine ⟨fun ρ => by simp, ?_⟩
    unfold keyT at hd
    split at hd
    · simp [Instr.sameNow, iEq_eq]
    · simp_all
    · cases hd
  · rename_i a b'
    have := Option.some.inj h; subst this
    refine ⟨fun ρ => by simp, ?_⟩
    unfold keyT at hd
    split at hd
    · simp_all
    · simp [Instr.sameNow, bytesEq_eq, bytes_beq]
    · cases hd
  · cases h
theorem keyT_ground {d : TypeDesc} {k : Value} (h : keyT d k = true) : (∀ ρ, vmap ρ k = k) := by
  unfold keyT at h
  split at h
  · intro ρ; simp
  · intro ρ; simp
  · cases h
theorem findV_ok {k : Value} {d : TypeDesc} (hd : keyT d k = true) : ∀ (es : List (Value × Value)) (xs : List MapEntry) (i : Nat) {r : Option Value}, findV k es = some r → LR A ρ (es.map (·.1)) (xs.map (·.key)) → LR A ρ (es.map (·.2)) (xs.map (·.val)) →
    ∃ r', Instr.findNow d k xs i = some r' ∧ (match r with
      | none => r' = none
      | some v => ∃ j v', r' = some (j, v') ∧ VR A ρ v v')
  | [], xs, i, r, h, h1, h2 => by
    have := Option.some.inj h; subst this
    cases xs with
    | nil => exact ⟨none, rfl, rfl⟩
    | cons x xs => have := h1.length; simp at this
  | p :: es, xs, i, r, h, h1, h2 => by
    cases xs with
    | nil => have := h1.length; simp at this
    | cons x xs =>
      rw [findV_cons] at h
      obtain ⟨b, hb, h3⟩ := ob_eq h
      simp only [List.map_cons] at h1 h2
      obtain ⟨u, us, e1, hu, hus⟩ := h1.uncons
      simp only [List.cons.injEq] at e1
      obtain ⟨rfl, rfl⟩ := e1
      obtain ⟨u2, us2, e2, hu2, hus2⟩ := h2.uncons
      simp only [List.cons.injEq] at e2
      obtain ⟨rfl, rfl⟩ := e2
      obtain ⟨hg, hs⟩ := keyEq_ok hb hd
      have hk : x.key = p.1 := by rw [← hu.self, hg]
      unfold Instr.findNow
      rw [hk, hs]
      cases b with
      | true =>
        rw [bo_true] at h3
        have := Option.some.inj h3; subst this
        exact ⟨_, rfl, i, x.val, rfl, hu2⟩
      | false =>
        rw [bo_false] at h3
        exact findV_ok hd es xs (i + 1) h3 hus hus2
theorem run_checkKey (b : Bool) {t : TypeId} {d : TypeDesc} {k : Value} (hu : P.underlying t = some d) (hk : keyT d k = true) (w : World) : (Instr.checkKey b 10000 t k).run P w = .ok () w := by
  show (Instr.checkKey b (9999 + 1) t k).run P w = _
  unfold Instr.checkKey
  simp only [Sem.run_bind, run_underlying hu, Result.andThen_ok]
  unfold keyT at hk
  split at hk
  · rfl
  · rfl
  · cases hk
theorem mapOf_eq {o : AObj} {es : List (Value × Value)} (h : mapOf o = some es) : o = .map es := by
  cases o with
  | cells c e w => cases h
  | map es' => have := Option.some.inj h; subst this; rfl

theorem lookupV_ok (hE : EnvOk E P) {t : TypeId} {ok : Bool} (h : lookupV E s t x y ok = some (v, s')) : Grows s s' ∧ ∀ X A ρ w x' y', Pre P X A ρ s s' w → VR A ρ x x' → VR A ρ y y' → SemOk P X A ρ s s' w v (Instr.lookup t x' y' ok) := by
  obtain ⟨d, hd, h1⟩ := ob_eq h
  clear h
  split at h1
  · rename_i kt e b
    obtain ⟨kd, hkd, h2⟩ := ob_eq h1
    obtain ⟨hkt, h3⟩ := chk_eq h2
    obtain ⟨z, hz, h4⟩ := ob_eq h3
    obtain ⟨o, ho, h5⟩ := ob_eq h4
    obtain ⟨es, hes, h6⟩ := ob_eq h5
    obtain ⟨r, hr, h7⟩ := ob_eq h6
    have := mapOf_eq hes; subst this
    have hu := und_ok hE hd
    have huk := und_ok hE hkd
    have hs' : s' = s.read b := by
      split at h7
      · have := some2_eq h7; simp only [Prod.mk.injEq] at this; exact this.2.symm ▸ rfl
      · have := some2_eq h7; simp only [Prod.mk.injEq] at this; exact this.2.symm ▸ rfl
    refine ⟨by rw [hs']; exact Grows.read s b, fun X A ρ w x' y' hp hx hy => ?_⟩
    obtain ⟨hA, xo, hxo, xs, ck, rfl, hl1, hl2⟩ := hp.st.obj b _ (hp.acc b (by rw [hs']; exact read_in s b)) ho
    have hy' : y' = y := by rw [← hy.self, keyT_ground hkt]
    subst hy'
    rw [hx.unmap]
    obtain ⟨r', hr1, hr2⟩ := findV_ok hkt es xs 0 hr hl1 hl2
    have hget : (getObj (ρ b).1).run P w = .ok (.map ⟨xs⟩ ck) w := by
      simp [getObj, Sem.run, hxo]
    have hfk : (Instr.findKey kt y' (⟨xs⟩ : Array MapEntry).toList).run P w = .ok r' w := by
      unfold Instr.findKey
      simp only [Sem.run_bind, run_underlying huk, Result.andThen_ok, hr1, Sem.run_pure]
    split at h7
    · rename_i u
      obtain ⟨j, v2, rfl, hv2⟩ := hr2
      have := some2_eq h7
      simp only [Prod.mk.injEq] at this
      obtain ⟨rfl, rfl⟩ := this
      refine SemOk.same hp (by simp) (by simp) (v' := if ok then .tuple #[v2, .bool true] else v2) ?_ ?_
      · unfold Instr.lookup
        simp only [Sem.run_bind, run_underlying hu, Result.andThen_ok, hget, Sem.run_pure, run_checkKey _ huk hkt, hfk]
      · cases ok with
        | true => exact VR.tuple (LR.cons hv2 (LR.cons (VR.bool _) LR.nil))
        | false => exact hv2
    · subst hr2
      have := some2_eq h7
      simp only [Prod.mk.injEq] at this
      obtain ⟨rfl, rfl⟩ := this
      refine SemOk.same hp (by simp) (by simp) (v' := if ok then .tuple #[z, .bool false] else z) ?_ ?_
      · unfold Instr.lookup
        simp only [Sem.run_bind, run_underlying hu, Result.andThen_ok, hget, Sem.run_pure, run_checkKey _ huk hkt, hfk, run_zeroValue hE hz]
      · have hzz : VR A ρ z z := VR.ground (zero_ground hE hz)
        cases ok with
        | true => exact VR.tuple (LR.cons hzz (LR.cons (VR.bool _) LR.nil))
        | false => exact hzz
  · cases h1

theorem mapUpdateV_ok (hE : EnvOk E P) {t : TypeId} {u : Value} (h : mapUpdateV E s t x y u = some (v, s')) : Grows s s' ∧ v = .tuple ⟨[]⟩ ∧ ∀ X A ρ w x' y' u', Pre P X A ρ s s' w → VR A ρ x x' → VR A ρ y y' → VR A ρ u u' → ∃ w' ρ', (Instr.mapUpdate t x' y' u').run P w = .ok () w' ∧ Good P X A ρ s s' w w' ρ' := by
  obtain ⟨d, hd, h1⟩ := ob_eq h
  clear h
  split at h1
  · rename_i kt e b
    obtain ⟨kd, hkd, h2⟩ := ob_eq h1
    obtain ⟨hkt, h3⟩ := chk_eq h2
    obtain ⟨o, ho, h5⟩ := ob_eq h3
    obtain ⟨es, hes, h6⟩ := ob_eq h5
    obtain ⟨r, hr, h7⟩ := ob_eq h6
    have := mapOf_eq hes; subst this
    have hu := und_ok hE hd
    have huk := und_ok hE hkd
    split at h7
    · cases h7
    · have := some2_eq h7
      simp only [Prod.mk.injEq] at this
      obtain ⟨rfl, rfl⟩ := this
      refine ⟨Grows.put s b _ (by rw [show s.heap.get b = some (.map es) from ho]; simp), rfl, fun X A ρ w x' y' u' hp hx hy hu' => ?_⟩
      obtain ⟨hA, xo, hxo, xs, ck, rfl, hl1, hl2⟩ := hp.st.obj b _ (hp.acc b (put_in_acc s b _)) ho
      have hy' : y' = y := by rw [← hy.self, keyT_ground hkt]
      subst hy'
      rw [hx.unmap]
      obtain ⟨r', hr1, hr2⟩ := findV_ok hkt es xs 0 hr hl1 hl2
      have hr2 : r' = none := hr2
      subst hr2
      have hget : (getObj (ρ b).1).run P w = .ok (.map ⟨xs⟩ ck) w := by
        simp [getObj, Sem.run, hxo]
      have hfk : (Instr.findKey kt y' (⟨xs⟩ : Array MapEntry).toList).run P w = .ok none w := by
        unfold Instr.findKey
        simp only [Sem.run_bind, run_underlying huk, Result.andThen_ok, hr1, Sem.run_pure]
      have hset : ∀ o, (setObj (ρ b).1 o).run P w = .ok () { w with heap := w.heap.setIfInBounds (ρ b).1 o } := fun o => by
        simp [setObj, Sem.run, hxo]
      refine ⟨{ w with heap := w.heap.setIfInBounds (ρ b).1 (.map ((⟨xs⟩ : Array MapEntry).push { key := y', val := u', born := ck }) (ck + 1)) }, ρ, ?_, ?_⟩
      · unfold Instr.mapUpdate
        simp only [Sem.run_bind, run_underlying hu, Result.andThen_ok, hget, run_checkKey _ huk hkt, hfk, hset]
      · have hlt := (Array.getElem?_eq_some_iff.1 hxo).1
        refine Good.write (o := .map es) (o' := .map (es ++ [(y', u)])) (x' := .map ((⟨xs⟩ : Array MapEntry).push { key := y', val := u', born := ck }) (ck + 1)) hp.st hp.above (hp.acc b (put_in_acc s b _)) ho (fun c => by simp) (by simp) (put_in_wr s b _) ?_ ?_ ?_
        · simp [hlt]
        · refine ⟨xs ++ [{ key := y', val := u', born := ck }], ck + 1, by simp, ?_, ?_⟩
          · rw [List.map_append, List.map_append]; exact hl1.append (LR.cons hy LR.nil)
          · rw [List.map_append, List.map_append]; exact hl2.append (LR.cons hu' LR.nil)
        · refine ⟨rfl, rfl, rfl, by simp, fun r hr hne => ?_⟩
          simp only [Array.getElem?_setIfInBounds]
          rw [if_neg (fun e => hne e.symm)]
  · cases h1
end
end Go.Ev
