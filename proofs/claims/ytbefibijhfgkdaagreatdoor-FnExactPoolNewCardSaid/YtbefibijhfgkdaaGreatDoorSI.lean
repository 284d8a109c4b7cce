/- A lemma text of the proof that what the evaluator answers holds of every run of the model. No condition beyond those that each theorem states. -/
import Derived.Test.YtbefibijhfgkdaaGreatDoorSH
namespace Go.Ev
open Go
set_option linter.unusedSimpArgs false
set_option linter.unusedVariables false
section
variable {E : Env} {P : Program} {X A : Nat → Prop} {ρ : Rho} {s s' : St} {w w' : World} {v v' x y x' y' : Value}

theorem makeMap_ok (t : TypeId) : ∀ X A ρ w, Pre P X A ρ s (s.new (.map [])) w → SemOk P X A ρ s (s.new (.map [])) w (.map (some s.next)) (Instr.makeMap t none) := by
  intro X A ρ w hp
  refine ⟨.map (some w.heap.size), w.alloc (.map #[] 0), ρ.at s.next (w.heap.size, 0), rfl, ?_, ?_⟩
  · have := VR.mapv (A := SetAdd A s.next (s.new (.map [])).next) (ρ := ρ.at s.next (w.heap.size, 0)) (b := s.next) (.inr ⟨Nat.le_refl _, by simp⟩)
    simpa using this
  · refine Good.alloc (o := .map []) (x := .map #[] 0) hp.st hp.above hp.lt (fun c => by simp) (by simp) (new_in_wr s _) (Nat.le_refl _) (heap_alloc_new w _) ?_ (Fr.alloc w _)
    exact ⟨[], 0, rfl, LR.nil, LR.nil⟩
theorem VR.unmap {b : Nat} (h : VR A ρ (.map (some b)) v') : v' = .map (some (ρ b).1) := by rw [← h.self, vmap_mapv]

theorem bytes_beq (a b : List UInt8) : ((⟨⟨a⟩⟩ : ByteArray) == (⟨⟨b⟩⟩ : ByteArray)) = (a == b) := by
  have h : ((⟨⟨a⟩⟩ : ByteArray) == (⟨⟨b⟩⟩ : ByteArray)) = ((⟨a⟩ : Array UInt8) == (⟨b⟩ : Array UInt8)) := rfl
  rw [h, Bool.eq_iff_iff]
  simp
theorem findV_cons (k : Value) (p : Value × Value) (l : List (Value × Value)) : findV k (p :: l) = ob (keyEq k p.1) fun b => bo b (some (some p.2)) (findV k l) := rfl
theorem delL_cons (k : Value) (p : Value × Value) (l : List (Value × Value)) : delL k (p :: l) = ob (keyEq k p.1) fun b => bo b (some l) (ob (delL k l) fun r => some (p :: r)) := rfl
theorem setL_cons (k v : Value) (p : Value × Value) (l : List (Value × Value)) : setL k v (p :: l) = ob (keyEq k p.1) fun b => bo b (some ((k, v) :: l)) (ob (setL k v l) fun r => some (p :: r)) := rfl
theorem keyEq_ground {k k' : Value} {b : Bool} (h : keyEq k k' = some b) (ρ : Rho) : vmap ρ k' = k' := by
  unfold keyEq at h
  split at h
  · have := (cellsEq_ground _ _ _ h).2 ρ
    simp [this]
  · simp
  · simp
  · cases h
theorem cellEq_same {x y : Value} (h : cellEq x y = some true) : x = y := by
  unfold cellEq at h
  split at h
  · rw [iEq_eq] at h; simp at h; rw [h]
  · rw [bytesEq_eq] at h; simp at h; rw [h]
  · rename_i a b; cases a <;> cases b <;> first | rfl | cases h
  · cases h
theorem cellsEq_same (xs : List Value) : ∀ (ys : List Value), cellsEq xs ys = some true → xs = ys := by
  induction xs with
  | nil => intro ys h; cases ys with
    | nil => rfl
    | cons y ys => cases h
  | cons x xs ih =>
    intro ys h
    cases ys with
    | nil => cases h
    | cons y ys =>
      rw [cellsEq_cons] at h
      obtain ⟨e, he, h1⟩ := ob_eq h
      obtain ⟨r, h2, h3⟩ := ob_eq h1
      have h4 := Option.some.inj h3
      cases e with
      | false => cases h4
      | true =>
        rw [bo_true] at h4
        subst h4
        rw [cellEq_same he, ih _ h2]
theorem keyEq_same {k k' : Value} (h : keyEq k k' = some true) : k' = k := by
  unfold keyEq at h
  split at h
  · rw [cellsEq_same _ _ h]
  · obtain ⟨h1, h2⟩ := chk_eq h
    have := kindEq_eq h1; subst this
    rw [iEq_eq] at h2; simp at h2; rw [h2]
  · rw [bytesEq_eq] at h; simp at h; rw [h]
  · cases h
/-- A key of a type: one of two kinds. -/
theorem keyT_cases {kt : TypeId} {d : TypeDesc} {k : Value} (h : keyT E kt d k = true) : ((∃ j, d = .int j) ∧ (∃ j n, k = .int j n)) ∨ (d = .string ∧ ∃ z, k = .string ⟨⟨z⟩⟩) ∨ (((∃ fs, d = .struct fs) ∨ ∃ n e, d = .array n e) ∧ ∃ cs, k = .agg ⟨cs⟩ ∧ eqOk kt cs E.eqs = true) := by
  unfold keyT at h
  split at h
  · exact .inr (.inr ⟨.inl ⟨_, rfl⟩, _, rfl, h⟩)
  · exact .inr (.inr ⟨.inr ⟨_, _, rfl⟩, _, rfl, h⟩)
  · exact .inl ⟨⟨_, rfl⟩, _, _, rfl⟩
  · rename_i s; obtain ⟨⟨z⟩⟩ := s; exact .inr (.inl ⟨rfl, z, rfl⟩)
  · cases h
theorem keyT_ground {kt : TypeId} {d : TypeDesc} {k : Value} (h : keyT E kt d k = true) : (∀ ρ, vmap ρ k = k) := by
  intro ρ
  rcases keyT_cases h with ⟨_, j, n, rfl⟩ | ⟨_, z, rfl⟩ | ⟨_, cs, rfl, hq⟩
  · simp
  · simp
  · simp [eqOk_ground hq ρ]
theorem keyEq_now {kt : TypeId} {k k' : Value} {b : Bool} {d : TypeDesc} (h : keyEq k k' = some b) (hd : (∃ j, d = .int j) ∧ (∃ j n, k = .int j n) ∨ (d = .string ∧ ∃ z, k = .string ⟨⟨z⟩⟩)) : Instr.sameNow d k k' = some b := by
  rcases hd with ⟨⟨j0, rfl⟩, j, n, rfl⟩ | ⟨rfl, z, rfl⟩
  · unfold keyEq at h
    split at h
    · simp_all
    · rename_i j1 a j' a' e1
      obtain ⟨h1, h2⟩ := chk_eq h
      have := kindEq_eq h1; subst this
      have := Option.some.inj h2; subst this
      cases e1
      simp [Instr.sameNow, iEq_eq]
    · simp_all
    · cases h
  · unfold keyEq at h
    split at h
    · simp_all
    · simp_all
    · rename_i a b' e1
      have := Option.some.inj h; subst this
      cases e1
      simp [Instr.sameNow, bytesEq_eq, bytes_beq]
    · cases h
/-- What a search in a map's entries says. -/
def FindR (A : Nat → Prop) (ρ : Rho) (k : Value) (es : List (Value × Value)) (xs : List MapEntry) (i : Nat) (r : Option Value) (r' : Option (Nat × Value)) : Prop := match r with
  | none => r' = none ∧ delL k es = some es
  | some v => ∃ j v', r' = some (i + j, v') ∧ VR A ρ v v' ∧ (xs[j]?).map (·.key) = some k ∧ delL k es = some (es.eraseIdx j) ∧ ∀ u, setL k u es = some (es.set j (k, u))
theorem FindR.step {k : Value} {p : Value × Value} {x : MapEntry} {es : List (Value × Value)} {xs : List MapEntry} {i : Nat} {r : Option Value} {r' : Option (Nat × Value)} (hb : keyEq k p.1 = some false) (h : FindR A ρ k es xs (i + 1) r r') : FindR A ρ k (p :: es) (x :: xs) i r r' := by
  cases r with
  | none =>
    obtain ⟨h1, h2⟩ := h
    refine ⟨h1, ?_⟩
    rw [delL_cons, hb, h2]; rfl
  | some v =>
    obtain ⟨j, v', h1, h2, h3, h4, h5⟩ := h
    refine ⟨j + 1, v', by rw [h1]; congr 2; omega, h2, by simpa using h3, ?_, fun u => ?_⟩
    · rw [delL_cons, hb, h4]; rfl
    · rw [setL_cons, hb, h5]; rfl
theorem FindR.here {k : Value} {p : Value × Value} {x : MapEntry} {es : List (Value × Value)} {xs : List MapEntry} {i : Nat} {v' : Value} (hb : keyEq k p.1 = some true) (hx : x.key = k) (h : VR A ρ p.2 v') : FindR A ρ k (p :: es) (x :: xs) i (some p.2) (some (i, v')) := by
  refine ⟨0, v', rfl, h, by simp [hx], ?_, fun u => ?_⟩
  · rw [delL_cons, hb]; rfl
  · rw [setL_cons, hb]; rfl
theorem LR.split {es : List (Value × Value)} {p : Value × Value} {xs : List MapEntry} (h1 : LR A ρ ((p :: es).map (·.1)) (xs.map (·.key))) (h2 : LR A ρ ((p :: es).map (·.2)) (xs.map (·.val))) : ∃ x xs', xs = x :: xs' ∧ VR A ρ p.1 x.key ∧ VR A ρ p.2 x.val ∧ LR A ρ (es.map (·.1)) (xs'.map (·.key)) ∧ LR A ρ (es.map (·.2)) (xs'.map (·.val)) := by
  cases xs with
  | nil => have := h1.length; simp at this
  | cons x xs =>
    simp only [List.map_cons] at h1 h2
    obtain ⟨u, us, e1, hu, hus⟩ := h1.uncons
    simp only [List.cons.injEq] at e1
    obtain ⟨rfl, rfl⟩ := e1
    obtain ⟨u2, us2, e2, hu2, hus2⟩ := h2.uncons
    simp only [List.cons.injEq] at e2
    obtain ⟨rfl, rfl⟩ := e2
    exact ⟨x, xs, rfl, hu, hu2, hus, hus2⟩
theorem findNow_ok {k : Value} {d : TypeDesc} (hd : (∃ j, d = .int j) ∧ (∃ j n, k = .int j n) ∨ (d = .string ∧ ∃ z, k = .string ⟨⟨z⟩⟩)) : ∀ (es : List (Value × Value)) (xs : List MapEntry) (i : Nat) {r : Option Value}, findV k es = some r → LR A ρ (es.map (·.1)) (xs.map (·.key)) → LR A ρ (es.map (·.2)) (xs.map (·.val)) →
    ∃ r', Instr.findNow d k xs i = some r' ∧ FindR A ρ k es xs i r r'
  | [], xs, i, r, h, h1, h2 => by
    have := Option.some.inj h; subst this
    cases xs with
    | nil => exact ⟨none, rfl, rfl, rfl⟩
    | cons x xs => have := h1.length; simp at this
  | p :: es, xs, i, r, h, h1, h2 => by
    obtain ⟨x, xs, rfl, hu, hu2, hus, hus2⟩ := LR.split h1 h2
    rw [findV_cons] at h
    obtain ⟨b, hb, h3⟩ := ob_eq h
    have hk : x.key = p.1 := by rw [← hu.self, keyEq_ground hb]
    have hs := keyEq_now (kt := 0) hb hd
    unfold Instr.findNow
    rw [hk, hs]
    cases b with
    | true =>
      rw [bo_true] at h3
      have := Option.some.inj h3; subst this
      exact ⟨_, rfl, FindR.here hb (by rw [hk, keyEq_same hb]) hu2⟩
    | false =>
      rw [bo_false] at h3
      obtain ⟨r', h4, h5⟩ := findNow_ok hd es xs (i + 1) h3 hus hus2
      exact ⟨r', h4, FindR.step hb h5⟩
theorem findAsking_ok (hE : EnvOk E P) {kt : TypeId} {cs : List Value} (hq : eqOk kt cs E.eqs = true) : ∀ (es : List (Value × Value)) (xs : List MapEntry) (i : Nat) {r : Option Value}, findV (.agg ⟨cs⟩) es = some r → LR A ρ (es.map (·.1)) (xs.map (·.key)) → LR A ρ (es.map (·.2)) (xs.map (·.val)) →
    ∃ r', (∀ w, (Instr.findAsking kt (.agg ⟨cs⟩) xs i).run P w = .ok r' w) ∧ FindR A ρ (.agg ⟨cs⟩) es xs i r r'
  | [], xs, i, r, h, h1, h2 => by
    have := Option.some.inj h; subst this
    cases xs with
    | nil => exact ⟨none, fun w => rfl, rfl, rfl⟩
    | cons x xs => have := h1.length; simp at this
  | p :: es, xs, i, r, h, h1, h2 => by
    obtain ⟨x, xs, rfl, hu, hu2, hus, hus2⟩ := LR.split h1 h2
    rw [findV_cons] at h
    obtain ⟨b, hb, h3⟩ := ob_eq h
    have hk : x.key = p.1 := by rw [← hu.self, keyEq_ground hb]
    obtain ⟨ys, hy⟩ : ∃ ys, p.1 = .agg ⟨ys⟩ := by
      revert hb
      cases p.1 <;> intro hb <;> first | cases hb | (rename_i q; exact ⟨q.toList, rfl⟩)
    have hce : cellsEq cs ys = some b := by rw [hy] at hb; exact hb
    have hs : ∀ w, (Op.equal kt (.agg ⟨cs⟩) x.key).run P w = .ok b w := fun w => by rw [hk, hy]; exact (hE.eqs kt cs hq ys b hce w).1
    cases b with
    | true =>
      rw [bo_true] at h3
      have := Option.some.inj h3; subst this
      refine ⟨some (i, x.val), fun w => ?_, FindR.here hb (by rw [hk, keyEq_same hb]) hu2⟩
      unfold Instr.findAsking
      simp only [Sem.run_bind, hs, Result.andThen_ok, if_true, Sem.run_pure]
    | false =>
      rw [bo_false] at h3
      obtain ⟨r', h4, h5⟩ := findAsking_ok hE hq es xs (i + 1) h3 hus hus2
      refine ⟨r', fun w => ?_, FindR.step hb h5⟩
      unfold Instr.findAsking
      simp only [Sem.run_bind, hs, Result.andThen_ok, Bool.false_eq_true, if_false, h4]
theorem findKey_ok (hE : EnvOk E P) {kt : TypeId} {d : TypeDesc} {k : Value} (hu : P.underlying kt = some d) (hk : keyT E kt d k = true) {es : List (Value × Value)} {xs : List MapEntry} {r : Option Value} (h : findV k es = some r) (h1 : LR A ρ (es.map (·.1)) (xs.map (·.key))) (h2 : LR A ρ (es.map (·.2)) (xs.map (·.val))) :
    ∃ r', (∀ w, (Instr.findKey kt k xs).run P w = .ok r' w) ∧ FindR A ρ k es xs 0 r r' := by
  have go : ((∃ j, d = .int j) ∧ (∃ j n, k = .int j n) ∨ (d = .string ∧ ∃ z, k = .string ⟨⟨z⟩⟩)) → ∃ r', (∀ w, (Instr.findKey kt k xs).run P w = .ok r' w) ∧ FindR A ρ k es xs 0 r r' := fun hd => by
    obtain ⟨r', h3, h4⟩ := findNow_ok hd es xs 0 h h1 h2
    refine ⟨r', fun w => ?_, h4⟩
    unfold Instr.findKey
    simp only [Sem.run_bind, run_underlying hu, Result.andThen_ok, h3, Sem.run_pure]
  rcases keyT_cases hk with hd | hd | ⟨hd, cs, rfl, hq⟩
  · exact go (.inl hd)
  · exact go (.inr hd)
  · obtain ⟨r', h3, h4⟩ := findAsking_ok hE hq es xs 0 h h1 h2
    refine ⟨r', fun w => ?_, h4⟩
    unfold Instr.findKey
    simp only [Sem.run_bind, run_underlying hu, Result.andThen_ok]
    cases xs with
    | nil =>
      have := h3 w
      unfold Instr.findNow
      simpa [Instr.findAsking] using this
    | cons x xs =>
      have : Instr.findNow d (.agg ⟨cs⟩) (x :: xs) 0 = none := by
        unfold Instr.findNow
        rcases hd with ⟨fs, rfl⟩ | ⟨n, e, rfl⟩ <;> rfl
      rw [this]
      exact h3 w
theorem run_checkKey (hE : EnvOk E P) (b : Bool) {t : TypeId} {d : TypeDesc} {k : Value} (hu : P.underlying t = some d) (hk : keyT E t d k = true) (w : World) : (Instr.checkKey b 10000 t k).run P w = .ok () w := by
  rcases keyT_cases hk with ⟨⟨j0, rfl⟩, j, n, rfl⟩ | ⟨rfl, z, rfl⟩ | ⟨hd, cs, rfl, hq⟩
  · show (Instr.checkKey b (9999 + 1) t _).run P w = _
    unfold Instr.checkKey
    simp only [Sem.run_bind, run_underlying hu, Result.andThen_ok]
    rfl
  · show (Instr.checkKey b (9999 + 1) t _).run P w = _
    unfold Instr.checkKey
    simp only [Sem.run_bind, run_underlying hu, Result.andThen_ok]
    rfl
  · exact hE.keys t cs hq b w
theorem kinds_same : ∀ (xs : List Value) (ks : List Nat), kindsOk xs ks = true → ∀ n, (xs.zip xs).all (fun (x, y) => Instr.sameBits n x y) = true
  | [], _, _, n => rfl
  | v :: xs, [], h, n => by cases h
  | v :: xs, k :: ks, h, n => by
    obtain ⟨h1, h2, h3⟩ := kindsOk_step h
    have ih := kinds_same xs ks h3 n
    have hk : k = 0 ∨ k = 1 ∨ k = 2 := by omega
    have : Instr.sameBits n v v = true := by
      rcases hk with h | h | h
      · obtain ⟨m, rfl⟩ := kindC_int (h1.trans h); simp [Instr.sameBits]
      · obtain ⟨m, rfl⟩ := kindC_str (h1.trans h); simp [Instr.sameBits, bytes_beq]
      · obtain ⟨m, rfl⟩ := kindC_bool (h1.trans h); simp [Instr.sameBits]
    simpa [this] using ih
theorem run_keyStays {kt : TypeId} {d : TypeDesc} {k : Value} (hk : keyT E kt d k = true) (w : World) : (Instr.keyThatStays k k).run P w = .ok k w := by
  have h : Instr.sameBits 10000 k k = true := by
    rcases keyT_cases hk with ⟨_, j, n, rfl⟩ | ⟨_, z, rfl⟩ | ⟨_, cs, rfl, hq⟩
    · simp [Instr.sameBits]
    · simp [Instr.sameBits, bytes_beq]
    · obtain ⟨ks, _, h2⟩ := eqOk_mem kt cs _ hq
      have := kinds_same cs ks h2 9999
      show Instr.sameBits (9999 + 1) (.agg ⟨cs⟩) (.agg ⟨cs⟩) = true
      unfold Instr.sameBits
      simp only [beq_self_eq_true, Bool.true_and]
      exact this
  unfold Instr.keyThatStays
  simp only [h, if_true, Sem.run_pure]
theorem mapOf_eq {o : AObj} {es : List (Value × Value)} (h : mapOf o = some es) : o = .map es := by
  cases o with
  | cells c e w => cases h
  | map es' => have := Option.some.inj h; subst this; rfl
  | siter z p => cases h
  | miter m => cases h
  | glob c => cases h

theorem lookupV_ok (hE : EnvOk E P) {t : TypeId} {ok : Bool} (h : lookupV E s t x y ok = some (v, s')) : Grows s s' ∧ ∀ X A ρ w x' y', Pre P X A ρ s s' w → VR A ρ x x' → VR A ρ y y' → SemOk P X A ρ s s' w v (Instr.lookup t x' y' ok) := by
  obtain ⟨d, hd, h1⟩ := ob_eq h
  clear h
  split at h1
  · rename_i kt e b
    obtain ⟨kd, hkd, h2⟩ := ob_eq h1
    obtain ⟨hkt, h3⟩ := chk_eq h2
    obtain ⟨z, hz, h4⟩ := ob_eq h3
    obtain ⟨o, ho, h5⟩ := ob_eq h4
    obtain ⟨es, hes, h6⟩ := ob_eq h5
    obtain ⟨r, hr, h7⟩ := ob_eq h6
    have := mapOf_eq hes; subst this
    have hu := und_ok hE hd
    have huk := und_ok hE hkd
    have hs' : s' = s.read b := by
      split at h7
      · have := some2_eq h7; simp only [Prod.mk.injEq] at this; exact this.2.symm ▸ rfl
      · have := some2_eq h7; simp only [Prod.mk.injEq] at this; exact this.2.symm ▸ rfl
    refine ⟨by rw [hs']; exact Grows.read s b, fun X A ρ w x' y' hp hx hy => ?_⟩
    obtain ⟨hA, xo, hxo, xs, ck, rfl, hl1, hl2⟩ := hp.st.obj b _ (hp.acc b (by rw [hs']; exact read_in s b)) ho
    have hy' : y' = y := by rw [← hy.self, keyT_ground hkt]
    subst hy'
    rw [hx.unmap]
    obtain ⟨r', hfk0, hr2⟩ := findKey_ok hE huk hkt hr hl1 hl2
    have hget : (getObj (ρ b).1).run P w = .ok (.map ⟨xs⟩ ck) w := by
      simp [getObj, Sem.run, hxo]
    have hfk : (Instr.findKey kt y' (⟨xs⟩ : Array MapEntry).toList).run P w = .ok r' w := hfk0 w
    split at h7
    · rename_i u
      obtain ⟨j, v2, rfl, hv2, _⟩ := hr2
      have := some2_eq h7
      simp only [Prod.mk.injEq] at this
      obtain ⟨rfl, rfl⟩ := this
      refine SemOk.same hp (by simp) (by simp) (v' := if ok then .tuple #[v2, .bool true] else v2) ?_ ?_
      · unfold Instr.lookup
        simp only [Sem.run_bind, run_underlying hu, Result.andThen_ok, hget, Sem.run_pure, run_checkKey hE _ huk hkt, hfk]
      · cases ok with
        | true => exact VR.tuple (LR.cons hv2 (LR.cons (VR.bool _) LR.nil))
        | false => exact hv2
    · obtain ⟨hr2, _⟩ := hr2
      subst hr2
      have := some2_eq h7
      simp only [Prod.mk.injEq] at this
      obtain ⟨rfl, rfl⟩ := this
      refine SemOk.same hp (by simp) (by simp) (v' := if ok then .tuple #[z, .bool false] else z) ?_ ?_
      · unfold Instr.lookup
        simp only [Sem.run_bind, run_underlying hu, Result.andThen_ok, hget, Sem.run_pure, run_checkKey hE _ huk hkt, hfk, run_zeroValue hE hz]
      · have hzz : VR A ρ z z := VR.ground (zero_ground hE hz)
        cases ok with
        | true => exact VR.tuple (LR.cons hzz (LR.cons (VR.bool _) LR.nil))
        | false => exact hzz
  · cases h1

theorem LR.setAt {l l' : List Value} (h : LR A ρ l l') (hv : VR A ρ v v') (j : Nat) : LR A ρ (l.set j v) (l'.set j v') := fun ρ' e => by
  rw [List.map_set, h ρ' e, hv ρ' e]
theorem map_eraseAt {α β : Type} (f : α → β) : ∀ (l : List α) (j : Nat), (l.eraseIdx j).map f = (l.map f).eraseIdx j
  | [], j => by simp
  | x :: l, 0 => by simp
  | x :: l, j + 1 => by simp [map_eraseAt f l j]
theorem modify_eq_set {α : Type} (f : α → α) : ∀ (l : List α) (j : Nat) (x : α), l[j]? = some x → l.modify j f = l.set j (f x)
  | [], j, x, h => by simp at h
  | y :: l, 0, x, h => by simp at h; subst h; simp
  | y :: l, j + 1, x, h => by simp at h; simp [modify_eq_set f l j x h]
theorem LR.eraseAt {l l' : List Value} (h : LR A ρ l l') (j : Nat) : LR A ρ (l.eraseIdx j) (l'.eraseIdx j) := fun ρ' e => by
  rw [map_eraseAt, h ρ' e]
theorem Good.put_obj {b : Nat} {o o' : AObj} {x x' : Obj} (hp : Pre P X A ρ s (s.put b (some o')) w) (ho : s.heap.get b = some o) (hx : w.heap[(ρ b).1]? = some x) (hnc : ∀ c e f, x ≠ .cells c e f) (hr : ObjR P A ρ (ρ b) o' x') :
    (setObj (ρ b).1 x').run P w = .ok () { w with heap := w.heap.setIfInBounds (ρ b).1 x' } ∧ Good P X A ρ s (s.put b (some o')) w { w with heap := w.heap.setIfInBounds (ρ b).1 x' } ρ := by
  refine ⟨by cases x <;> first | (exact absurd rfl (hnc _ _ _)) | (simp [setObj, Sem.run, hx]), ?_⟩
  have hlt := (Array.getElem?_eq_some_iff.1 hx).1
  refine Good.write (o := o) (o' := o') (x' := x') hp.st hp.above (hp.acc b (put_in_acc s b _)) ho (fun c => by simp) (by simp) (put_in_wr s b _) ?_ hr ?_
  · simp [hlt]
  · refine ⟨rfl, rfl, rfl, by simp, fun r hr hne => ?_⟩
    simp only [Array.getElem?_setIfInBounds]
    rw [if_neg (fun e => hne e.symm)]
theorem mapUpdateV_ok (hE : EnvOk E P) {t : TypeId} {u : Value} (h : mapUpdateV E s t x y u = some (v, s')) : Grows s s' ∧ v = .tuple ⟨[]⟩ ∧ ∀ X A ρ w x' y' u', Pre P X A ρ s s' w → VR A ρ x x' → VR A ρ y y' → VR A ρ u u' → ∃ w' ρ', (Instr.mapUpdate t x' y' u').run P w = .ok () w' ∧ Good P X A ρ s s' w w' ρ' := by
  obtain ⟨d, hd, h1⟩ := ob_eq h
  clear h
  split at h1
  · rename_i kt e b
    obtain ⟨kd, hkd, h2⟩ := ob_eq h1
    obtain ⟨hkt, h3⟩ := chk_eq h2
    obtain ⟨o, ho, h5⟩ := ob_eq h3
    obtain ⟨es, hes, h6⟩ := ob_eq h5
    obtain ⟨r, hr, h7⟩ := ob_eq h6
    have := mapOf_eq hes; subst this
    have hu := und_ok hE hd
    have huk := und_ok hE hkd
    have hnone : s.heap.get b ≠ none := by rw [show s.heap.get b = some (.map es) from ho]; simp
    split at h7
    · obtain ⟨es2, he2, h8⟩ := ob_eq h7
      have := some2_eq h8
      simp only [Prod.mk.injEq] at this
      obtain ⟨rfl, rfl⟩ := this
      refine ⟨Grows.put s b _ hnone, rfl, fun X A ρ w x' y' u' hp hx hy hu' => ?_⟩
      obtain ⟨hA, xo, hxo, xs, ck, rfl, hl1, hl2⟩ := hp.st.obj b _ (hp.acc b (put_in_acc s b _)) ho
      have hy' : y' = y := by rw [← hy.self, keyT_ground hkt]
      subst hy'
      rw [hx.unmap]
      obtain ⟨r', hfk, j, v2, rfl, hv2, hkey, hdel, hset⟩ := findKey_ok hE huk hkt hr hl1 hl2
      have hes2 : es2 = es.set j (y', u) := Option.some.inj (he2.symm.trans (hset u))
      subst hes2
      have hget : (getObj (ρ b).1).run P w = .ok (.map ⟨xs⟩ ck) w := by
        simp [getObj, Sem.run, hxo]
      obtain ⟨x0, hx0, hk0⟩ := Option.map_eq_some_iff.1 hkey
      have hjl := (List.getElem?_eq_some_iff.1 hx0).1
      obtain ⟨hput, hgood⟩ := Good.put_obj (x' := .map ⟨xs.set j { x0 with key := y', val := u' }⟩ ck) hp ho hxo (by simp) (by
        refine ⟨xs.set j { x0 with key := y', val := u' }, ck, rfl, ?_, ?_⟩
        · rw [List.map_set, List.map_set]; exact hl1.setAt hy j
        · rw [List.map_set, List.map_set]; exact hl2.setAt hu' j)
      refine ⟨_, ρ, ?_, hgood⟩
      unfold Instr.mapUpdate
      have hmod : (⟨xs⟩ : Array MapEntry).modify (0 + j) (fun e => { e with key := y', val := u' }) = ⟨xs.set j { x0 with key := y', val := u' }⟩ := by
        apply Array.ext'
        rw [Array.toList_modify, Nat.zero_add]
        simp only
        rw [modify_eq_set _ _ _ _ hx0]
      have hold : (((⟨xs⟩ : Array MapEntry)[0 + j]?).map (·.key)).getD y' = y' := by
        rw [Nat.zero_add]
        simp only [List.getElem?_toArray, hkey, Option.getD_some]
      simp only [Sem.run_bind, run_underlying hu, Result.andThen_ok, hget, run_checkKey hE _ huk hkt, hfk, hold, run_keyStays hkt, hmod, hput]
    · have := some2_eq h7
      simp only [Prod.mk.injEq] at this
      obtain ⟨rfl, rfl⟩ := this
      refine ⟨Grows.put s b _ hnone, rfl, fun X A ρ w x' y' u' hp hx hy hu' => ?_⟩
      obtain ⟨hA, xo, hxo, xs, ck, rfl, hl1, hl2⟩ := hp.st.obj b _ (hp.acc b (put_in_acc s b _)) ho
      have hy' : y' = y := by rw [← hy.self, keyT_ground hkt]
      subst hy'
      rw [hx.unmap]
      obtain ⟨r', hfk, hr2, _⟩ := findKey_ok hE huk hkt hr hl1 hl2
      subst hr2
      have hget : (getObj (ρ b).1).run P w = .ok (.map ⟨xs⟩ ck) w := by
        simp [getObj, Sem.run, hxo]
      obtain ⟨hput, hgood⟩ := Good.put_obj (x' := .map ((⟨xs⟩ : Array MapEntry).push { key := y', val := u', born := ck }) (ck + 1)) hp ho hxo (by simp) (by
        refine ⟨xs ++ [{ key := y', val := u', born := ck }], ck + 1, by simp, ?_, ?_⟩
        · rw [List.map_append, List.map_append]; exact hl1.append (LR.cons hy LR.nil)
        · rw [List.map_append, List.map_append]; exact hl2.append (LR.cons hu' LR.nil))
      refine ⟨_, ρ, ?_, hgood⟩
      unfold Instr.mapUpdate
      simp only [Sem.run_bind, run_underlying hu, Result.andThen_ok, hget, run_checkKey hE _ huk hkt, hfk, hput]
  · cases h1
end
end Go.Ev
