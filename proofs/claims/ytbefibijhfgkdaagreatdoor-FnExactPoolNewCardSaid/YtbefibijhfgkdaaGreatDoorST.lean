/- A lemma text of the proof that what the evaluator answers holds of every run of the model. No condition beyond those that each theorem states. -/
import Derived.Test.YtbefibijhfgkdaaGreatDoorSS
import Derived.Test.YtbefibijhfgkdaaGreatDoorE3
namespace Go.Ev
open Go
set_option linter.unusedSimpArgs false
set_option linter.unusedVariables false
structure FnOk (E : Env) (P : Program) (X : Ext) : Prop where
  enter : ∀ f fn c, E.fn.get f = some fn → fn.body = some c → ∀ args w, (callFunc f args).run P w = .ok (.enter f args) w
  code : ∀ f fn c, E.fn.get f = some fn → f ≠ X.look → fn.body = some c → codeOk fn.ntmps c = true
  noEscape : ∀ x w, (callFunc X.noEscape #[x]).run P w = .ok (.value x) w
  indexByte : ∀ (z : List UInt8) (c : Nat) w, c < 256 → (callFunc X.indexByte #[.string ⟨⟨z⟩⟩, .int .u8 (.ofNat c)]).run P w = .ok (.value (.int .i64 (idxV c z 0))) w
  byte : P.cellsOf X.byte = 1
  noZero : ∀ fn, E.fn.get X.noZero = some fn → ∀ (n : Nat) w, n ≤ 1000000 → ∃ cs : List Value, (callFunc X.noZero #[.int .i64 (.ofNat n)]).run P w = .ok (.value (.slice (some ⟨w.heap.size, 0, none⟩) n cs.length)) (w.drew.drew.alloc (.cells ⟨cs⟩ X.byte)) ∧ cs.length ≤ maxLen
  look : ∀ fn, E.fn.get X.look = some fn → ∀ (b o n c : Nat) (a : Option Addr) (k : Nat) (g : Value) (i : Nat) (z : List UInt8) w, i < n → w.cell? ⟨b, o + i, none⟩ = some (.string ⟨⟨z⟩⟩) →
    Calls P X.look #[.agg ⟨[.slice (some ⟨b, o, none⟩) n c, .slice a 0 k, g]⟩, .int .i64 (.ofNat i)] w fun e w' => e = .returned (.string ⟨⟨z⟩⟩) ∧ Fr w w' fun _ => False
section
variable {E : Env} {P : Program} {call : Caller} {N : Nat} {X A : Nat → Prop} {ρ : Rho} {s s' : St} {w : World} {a : Act} {Q : Exit → Act → World → Prop} {tm : Tm}
theorem resV_cons (r : ResultVar) (l : List ResultVar) (s : St) : resV E tm (r :: l) s = match r with
    | .tmp t => ob (resV E tm l s) fun p => some (valOr (tm.get t) :: p.1, p.2)
    | .cell a t => atP (valOr (tm.get a)) fun b o => ob (loadV E s t b o) fun q => ob (resV E tm l q.2) fun p => some (q.1 :: p.1, p.2) := rfl
theorem resV_ok (hE : EnvOk E P) : ∀ (l : List ResultVar) (s : St) {vs : List Value} {s' : St}, resV E tm l s = some (vs, s') → Grows s s' ∧ s'.heap = s.heap ∧ s'.next = s.next ∧ ∀ X A ρ w (a : Act), (∀ b, In s'.acc b → X b) → StateR P X A ρ s.heap.get w → (∀ t, VR A ρ (valOr (tm.get t)) (a.tmps.getD t undef)) →
    ∃ vs', (l.mapM (fun (r : ResultVar) => match r with | .tmp t => pure (a.tmps.getD t undef) | .cell x t => do loadVar t (← asAddr (a.tmps.getD x undef))) : Sem (List Value)).run P w = .ok vs' w ∧ LR A ρ vs vs'
  | [], s, vs, s', h => by
    have := Option.some.inj h
    simp only [Prod.mk.injEq] at this
    obtain ⟨rfl, rfl⟩ := this
    exact ⟨Grows.refl _, rfl, rfl, fun X A ρ w a _ _ _ => ⟨[], by simp, LR.nil⟩⟩
  | r :: l, s, vs, s', h => by
    rw [resV_cons] at h
    cases r with
    | tmp t =>
      obtain ⟨⟨vs1, s1⟩, h1, h2⟩ := ob_eq h
      have := Option.some.inj h2
      simp only [Prod.mk.injEq] at this
      obtain ⟨rfl, rfl⟩ := this
      obtain ⟨hg, e1, e2, hk⟩ := resV_ok hE l s h1
      refine ⟨hg, e1, e2, fun X A ρ w a hX hst ht => ?_⟩
      obtain ⟨vs', h3, h4⟩ := hk X A ρ w a hX hst ht
      refine ⟨a.tmps.getD t undef :: vs', ?_, LR.cons (ht t) h4⟩
      simp only [List.mapM_cons, Sem.run_bind, Sem.run_pure, Result.andThen_ok, h3]
    | cell x t =>
      obtain ⟨b, o, hx, h1⟩ := atP_eq h
      obtain ⟨⟨v, s1⟩, h2, h3⟩ := ob_eq h1
      obtain ⟨⟨vs1, s2⟩, h4, h5⟩ := ob_eq h3
      have := Option.some.inj h5
      simp only [Prod.mk.injEq] at this
      obtain ⟨rfl, rfl⟩ := this
      obtain ⟨rfl, hl⟩ := loadV_ok hE h2
      obtain ⟨hg, e1, e2, hk⟩ := resV_ok hE l _ h4
      refine ⟨(Grows.read s b).trans hg, by rw [e1]; simp, by rw [e2]; simp, fun X A ρ w a hX hst ht => ?_⟩
      obtain ⟨v', h6, h7⟩ := hl X A ρ w (hX b (hg.acc b (read_in s b))) hst
      obtain ⟨vs', h8, h9⟩ := hk X A ρ w a hX (by simpa using hst) ht
      refine ⟨v' :: vs', ?_, LR.cons h7 h9⟩
      have hv := ht x
      rw [hx] at hv
      have hadd : (asAddr (a.tmps.getD x undef)).run P w = .ok ⟨(ρ b).1, o, none⟩ w := by rw [hv.unptr]; rfl
      simp only [List.mapM_cons, Sem.run_bind, hadd, Sem.run_pure, Result.andThen_ok, h6, h8]
theorem oneV_ok {vs vs' : List Value} (h : LR A ρ vs vs') : VR A ρ (oneV vs) (if h : (⟨vs'⟩ : Array Value).size = 1 then (⟨vs'⟩ : Array Value)[0] else .tuple ⟨vs'⟩) := by
  have hl := h.length
  unfold oneV
  split
  · rename_i v
    obtain ⟨u, us, rfl, hu, hus⟩ := h.uncons
    have : us = [] := List.eq_nil_of_length_eq_zero (by simpa using hl)
    subst this
    simpa using hu
  · rename_i hne
    rw [dif_neg]
    · exact VR.tuple h
    · intro h1
      have h2 : vs.length = 1 := by rw [← hl]; simpa using h1
      match vs, h2 with
      | [v], _ => exact hne v rfl
theorem layArgs_cons (v : Value) (l : List Value) (i : Nat) (tm : Tm) : layArgs (v :: l) i tm = layArgs l (i + 1) (tm.set (Nat.succ i) i (some v)) := by
  have h : layArgs (v :: l) i tm = nowV v fun v => (tm.set (Nat.succ i) i (some v)).now fun tm => layArgs l (Nat.succ i) tm := rfl
  rw [h, nowV_eq, T.now_eq]
theorem layArgs_get : ∀ (l : List Value) (i : Nat) (tm : Tm) (t : Nat), (layArgs l i tm).get t = if i ≤ t ∧ t < i + l.length then l[t - i]? else tm.get t
  | [], i, tm, t => by
    have : layArgs [] i tm = tm := rfl
    rw [this, if_neg (by simp only [List.length_nil]; omega)]
  | v :: l, i, tm, t => by
    rw [layArgs_cons, layArgs_get l, T.get_put]
    by_cases h : t = i
    · subst h
      rw [if_neg (by omega), if_pos rfl, if_pos (by simp)]
      simp
    · simp only [h, if_false]
      by_cases h2 : i + 1 ≤ t ∧ t < i + 1 + l.length
      · rw [if_pos h2, if_pos (by simp; omega)]
        rw [show t - i = (t - (i + 1)) + 1 by omega]
        simp
      · rw [if_neg h2, if_neg (by simp; omega)]

theorem bo_and {a b : Bool} : bo a b false = (a && b) := by cases a <;> rfl
theorem boolEq_ok {a b : Bool} (h : boolEq a b = true) : a = b := by cases a <;> cases b <;> simp_all [boolEq]
theorem pEq_ok {a b : Option Addr} (h : pEq a b = true) : a = b := by
  unfold pEq at h
  split at h
  · rfl
  · rw [Bool.and_eq_true] at h
    have h1 := Nat.eq_of_beq_eq_true h.1
    have h2 := Nat.eq_of_beq_eq_true h.2
    subst h1 h2; rfl
  · cases h
mutual
theorem vEq_ok : ∀ (x y : Value), vEq x y = true → x = y
  | .bool a, y, h => by
    cases y <;> simp only [vEq, Bool.false_eq_true] at h
    rw [boolEq_ok h]
  | .int k a, y, h => by
    cases y <;> simp only [vEq, Bool.false_eq_true, Bool.and_eq_true] at h
    rw [kindEq_eq h.1]
    have := h.2; rw [iEq_eq] at this; simp at this; rw [this]
  | .string ⟨⟨a⟩⟩, y, h => by
    cases y <;> simp only [vEq, Bool.false_eq_true] at h
    rw [bytesEq_eq] at h; simp at h; rw [h]
  | .pointer a, y, h => by
    cases y <;> simp only [vEq, Bool.false_eq_true] at h
    rw [pEq_ok h]
  | .slice a l c, y, h => by
    cases y <;> simp only [vEq, Bool.false_eq_true, Bool.and_eq_true] at h
    rw [pEq_ok h.1.1, Nat.eq_of_beq_eq_true h.1.2, Nat.eq_of_beq_eq_true h.2]
  | .agg ⟨a⟩, y, h => by
    cases y <;> simp only [vEq, Bool.false_eq_true] at h
    rw [lEq_ok _ _ h]
  | .tuple ⟨a⟩, y, h => by
    cases y <;> simp only [vEq, Bool.false_eq_true] at h
    rw [lEq_ok _ _ h]
  | .func fn ⟨a⟩ ⟨b⟩, y, h => by
    cases fn <;> cases y <;> (try (simp only [vEq, Bool.false_eq_true] at h; done))
    rename_i f fn2 c d
    cases fn2 <;> (try (simp only [vEq, Bool.false_eq_true] at h; done))
    simp only [vEq, Bool.and_eq_true] at h
    rw [Nat.eq_of_beq_eq_true h.1.1, lEq_ok _ _ h.1.2, lEq_ok _ _ h.2]
  | .nilFunc, y, h => by
    cases y <;> first | rfl | (simp only [vEq, Bool.false_eq_true] at h; done)
  | .nilIface, y, h => by
    cases y <;> first | rfl | (simp only [vEq, Bool.false_eq_true] at h; done)
  | .float _ _, y, h => by cases y <;> simp only [vEq, Bool.false_eq_true] at h
  | .complex _ _ _, y, h => by cases y <;> simp only [vEq, Bool.false_eq_true] at h
  | .map a, y, h => by
    cases y
    case map b =>
      cases a <;> cases b <;> first | rfl | (simp only [vEq, Bool.false_eq_true] at h; done) | skip
      rename_i a b
      simp only [vEq] at h
      rw [Nat.eq_of_beq_eq_true h]
    all_goals cases a <;> simp only [vEq, Bool.false_eq_true] at h
  | .chan _, y, h => by cases y <;> simp only [vEq, Bool.false_eq_true] at h
  | .iface _ _, y, h => by cases y <;> simp only [vEq, Bool.false_eq_true] at h
theorem lEq_ok : ∀ (x y : List Value), lEq x y = true → x = y
  | [], [], _ => rfl
  | [], _ :: _, h => by simp only [lEq, Bool.false_eq_true] at h
  | _ :: _, [], h => by simp only [lEq, Bool.false_eq_true] at h
  | a :: x, b :: y, h => by
    simp only [lEq, Bool.and_eq_true] at h
    rw [vEq_ok a b h.1, lEq_ok x y h.2]
end
theorem zip_ext {α β : Type} : ∀ (x y : List (α × β)), x.map (·.1) = y.map (·.1) → x.map (·.2) = y.map (·.2) → x = y
  | [], [], _, _ => rfl
  | [], _ :: _, h, _ => by simp at h
  | _ :: _, [], h, _ => by simp at h
  | (a, b) :: x, (c, d) :: y, h, k => by
    simp only [List.map_cons, List.cons.injEq] at h k
    rw [h.1, k.1, zip_ext x y h.2 k.2]
theorem aEq_ok {x y : AObj} (h : aEq x y = true) : x = y := by
  unfold aEq at h
  split at h
  · simp only [Bool.and_eq_true] at h
    rw [Nat.eq_of_beq_eq_true h.1.1, boolEq_ok h.1.2, lEq_ok _ _ h.2]
  · simp only [Bool.and_eq_true, mapL_eq] at h
    rw [zip_ext _ _ (lEq_ok _ _ h.1) (lEq_ok _ _ h.2)]
  · rw [lEq_ok _ _ h]
  · cases h
theorem blocksIn_ok {h : T AObj} : ∀ {l : List (Nat × AObj)}, blocksIn h l = true → ∀ p ∈ l, h.get p.1 = some p.2
  | [], _, p, hp => by cases hp
  | q :: l, hb, p, hp => by
    have hb' : bo (sameV (h.get q.1) q.2) (blocksIn h l) false = true := hb
    rw [bo_and, Bool.and_eq_true] at hb'
    rcases List.mem_cons.1 hp with rfl | hp
    · have := hb'.1
      unfold sameV at this
      split at this
      · rename_i o ho; rw [ho, aEq_ok this]
      · cases this
    · exact blocksIn_ok hb'.2 p hp
theorem idsV_ok {n m : Nat} : ∀ {l : List (Nat × AObj)}, idsV n m l = true → ∀ p ∈ l, n ≤ p.1 ∧ p.1 < m
  | [], _, p, hp => by cases hp
  | q :: l, hb, p, hp => by
    have hb' : bo (Nat.ble n q.1 && Nat.ble (Nat.succ q.1) m) (idsV n m l) false = true := hb
    rw [bo_and, Bool.and_eq_true, Bool.and_eq_true] at hb'
    rcases List.mem_cons.1 hp with rfl | hp
    · exact ⟨Nat.le_of_ble_eq_true hb'.1.1, Nat.le_of_ble_eq_true hb'.1.2⟩
    · exact idsV_ok hb'.2 p hp
theorem layB_cons (p : Nat × AObj) (l : List (Nat × AObj)) (h : T AObj) : layB (p :: l) h = layB l (h.set (Nat.succ p.1) p.1 (some p.2)) := by
  have : layB (p :: l) h = (h.set (Nat.succ p.1) p.1 (some p.2)).now (layB l) := rfl
  rw [this, T.now_eq]
theorem layB_get : ∀ (l : List (Nat × AObj)) (h : T AObj) (b : Nat), ((∃ p ∈ l, p.1 = b ∧ (layB l h).get b = some p.2) ∨ ((∀ p ∈ l, p.1 ≠ b) ∧ (layB l h).get b = h.get b))
  | [], h, b => .inr ⟨fun p hp => (by cases hp), rfl⟩
  | p :: l, h, b => by
    rw [layB_cons]
    rcases layB_get l (h.set (Nat.succ p.1) p.1 (some p.2)) b with ⟨q, hq, h1, h2⟩ | ⟨h1, h2⟩
    · exact .inl ⟨q, by simp [hq], h1, h2⟩
    · rw [T.get_put] at h2
      by_cases hb : b = p.1
      · rw [if_pos hb] at h2
        exact .inl ⟨p, by simp, hb.symm, h2⟩
      · rw [if_neg hb] at h2
        refine .inr ⟨fun q hq => ?_, h2⟩
        rcases List.mem_cons.1 hq with rfl | hq
        · exact fun e => hb e.symm
        · exact h1 q hq
theorem in_mask {n m b : Nat} : In (maskV n m) b ↔ n ≤ b ∧ b < m := by
  have h : maskV n m = ((1 <<< (m - n)) - 1) <<< n := rfl
  rw [h, In, Nat.testBit_shiftLeft, Nat.one_shiftLeft, Nat.testBit_two_pow_sub_one]
  simp only [Bool.and_eq_true, decide_eq_true_eq]
  omega
section
variable (e : Ent)
theorem use_heap (s : St) : (useV e s).heap = layB e.made s.heap := by cases s; simp [useV]
theorem use_next (s : St) : (useV e s).next = e.next' := by cases s; simp [useV]
theorem use_acc (s : St) (b : Nat) : In (useV e s).acc b ↔ In s.acc b ∨ In e.acc b ∨ (e.next ≤ b ∧ b < e.next') := by
  obtain ⟨h, n, a, r⟩ := s
  have : (useV e ⟨h, n, a, r⟩).acc = a ||| e.acc ||| maskV e.next e.next' := by simp [useV]
  rw [this, in_lor, in_lor, in_mask, or_assoc]
theorem use_wr (s : St) (b : Nat) : In (useV e s).wr b ↔ In s.wr b ∨ (e.next ≤ b ∧ b < e.next') := by
  obtain ⟨h, n, a, r⟩ := s
  have : (useV e ⟨h, n, a, r⟩).wr = r ||| maskV e.next e.next' := by simp [useV]
  rw [this, in_lor, in_mask]
end
structure EntOk (P : Program) (e : Ent) (s1 : St) : Prop where
  next : s1.next = e.next'
  grows : Grows (entSt e) s1
  acc : ∀ b, In s1.acc b → b < e.next → In e.acc b
  wr : ∀ b, b < e.next → ¬ In s1.wr b
  made : ∀ p ∈ e.made, s1.heap.get p.1 = some p.2 ∧ e.next ≤ p.1 ∧ p.1 < e.next'
  blocks : ∀ p ∈ e.blocks, p.1 < e.next
  call : ∀ X A ρ w args', Pre P X A ρ (entSt e) s1 w → Gl A ρ → LR A ρ e.args args' → CallUp P e.f ⟨args'⟩ w fun v' w' => OpPost P X A ρ (entSt e) s1 w e.val v' w'
theorem CallUp.mono {f : FuncId} {args : Array Value} {R R' : Value → World → Prop} (h : CallUp P f args w R) (hr : ∀ v w, R v w → R' v w) : CallUp P f args w R' := by
  rcases h with ⟨v, w', h1, h2⟩ | ⟨g, as, w', h1, h2⟩
  · exact .inl ⟨v, w', h1, hr _ _ h2⟩
  · exact .inr ⟨g, as, w', h1, h2.mono fun e w'' ⟨v, he, hh⟩ => ⟨v, he, hr _ _ hh⟩⟩
theorem hit_ok {e : Ent} {s1 : St} (he : EntOk P e s1) {f : FuncId} {args : List Value} {s : St} (h : hitV e f args s = true) :
    Grows s (useV e s) ∧ ∀ Y A ρ w args', Pre P Y A ρ s (useV e s) w → Gl A ρ → LR A ρ args args' → CallUp P f ⟨args'⟩ w fun v' w' => OpPost P Y A ρ s (useV e s) w e.val v' w' := by
  unfold hitV at h
  rw [bo_and, bo_and, bo_and, Bool.and_eq_true, Bool.and_eq_true, Bool.and_eq_true] at h
  obtain ⟨hf, hn, ha, hb⟩ := h
  have hf := Nat.eq_of_beq_eq_true hf
  have hn := Nat.eq_of_beq_eq_true hn
  have ha := lEq_ok _ _ ha
  have hb := blocksIn_ok hb
  subst hf ha
  have hent : (entSt e).next = e.next := rfl
  have hle : e.next ≤ e.next' := by rw [← he.next, ← hent]; exact he.grows.next
  have hkept : ∀ b, b < e.next → (useV e s).heap.get b = s.heap.get b := fun b hb' => by
    rw [use_heap]
    rcases layB_get e.made s.heap b with ⟨p, hp, h1, _⟩ | ⟨_, h2⟩
    · have := (he.made p hp).2.1; omega
    · exact h2
  have hg : Grows s (useV e s) := by
    refine ⟨by rw [use_next, hn]; exact hle, fun b hb' => (use_acc e s b).2 (.inl hb'), fun b hb' => (use_wr e s b).2 (.inl hb'), fun b h1 h2 => (use_wr e s b).2 (.inr ⟨by omega, by rw [use_next] at h2; exact h2⟩), fun hs b hb' => ?_, fun b h1 _ => hkept b (by omega), fun hab b h1 => ?_⟩
    · rcases (use_wr e s b).1 hb' with h1 | h1
      · exact (use_acc e s b).2 (.inl (hs b h1))
      · exact (use_acc e s b).2 (.inr (.inr h1))
    · rw [use_next] at h1
      rw [use_heap]
      rcases layB_get e.made s.heap b with ⟨p, hp, h2, _⟩ | ⟨_, h2⟩
      · have := (he.made p hp).2.2; omega
      · rw [h2]; exact hab b (by omega)
  refine ⟨hg, fun Y A ρ w args' hp hgl hl => ?_⟩
  have hlow : ∀ b o, (entSt e).heap.get b = some o → s.heap.get b = some o ∧ b < e.next := by
    intro b o ho
    have ho' : (layB e.blocks .nil).get b = some o := ho
    rcases layB_get e.blocks .nil b with ⟨p, hp, h1, h2⟩ | ⟨_, h2⟩
    · rw [h2] at ho'
      have := Option.some.inj ho'
      subst this h1
      exact ⟨hb p hp, he.blocks p hp⟩
    · rw [h2] at ho'; cases ho'
  have hpre : Pre P (fun b => In s1.acc b) A ρ (entSt e) s1 w := by
    refine ⟨fun i hi => by have := hp.lt i hi; rw [hent]; omega, fun b hb' => ?_, fun b hb' => hb', ⟨fun b o hx ho => ?_, fun b b' o o' hx hx' ho ho' ee => ?_⟩⟩
    · cases hh : (entSt e).heap.get b with
      | none => rfl
      | some o => have := (hlow b o hh).2; rw [hent] at hb'; omega
    · obtain ⟨h1, h2⟩ := hlow b o ho
      exact hp.st.obj b o (hp.acc b ((use_acc e s b).2 (.inr (.inl (he.acc b hx h2))))) h1
    · obtain ⟨h1, h2⟩ := hlow b o ho
      obtain ⟨h3, h4⟩ := hlow b' o' ho'
      exact hp.st.inj b b' o o' (hp.acc b ((use_acc e s b).2 (.inr (.inl (he.acc b hx h2))))) (hp.acc b' ((use_acc e s b').2 (.inr (.inl (he.acc b' hx' h4))))) h1 h3 ee
  refine (he.call _ A ρ w args' hpre hgl hl).mono fun v' w' hpost => ?_
  obtain ⟨ρ', hv, hG⟩ := hpost
  have hset : SetAdd A (entSt e).next s1.next = SetAdd A s.next (useV e s).next := by rw [use_next, he.next, hent, hn]
  have hnotouch : ∀ r, ¬ ∃ b o, In s1.wr b ∧ In s1.acc b ∧ (entSt e).heap.get b = some o ∧ (ρ b).1 = r := by
    rintro r ⟨b, o, h1, _, h2, _⟩
    exact he.wr b (hlow b o h2).2 h1
  have hsame : ∀ i, i < e.next → ρ' i = ρ i := fun i hi => hG.same i (by rw [hent]; omega)
  have hsub : ∀ b, In s1.wr b → In s1.acc b := he.grows.sub (fun b hb' => absurd hb' (zero_in b))
  have hget : ∀ b o, (useV e s).heap.get b = some o → (e.next ≤ b ∧ b < e.next' ∧ s1.heap.get b = some o ∧ In s1.acc b) ∨ (b < e.next ∧ s.heap.get b = some o) := by
    intro b o ho
    rw [use_heap] at ho
    rcases layB_get e.made s.heap b with ⟨p, hp', h1, h2⟩ | ⟨_, h2⟩
    · rw [h2] at ho
      have := Option.some.inj ho
      subst this h1
      obtain ⟨h3, h4, h5⟩ := he.made p hp'
      exact .inl ⟨h4, h5, h3, hsub _ (he.grows.made _ (by rw [hent]; exact h4) (by rw [he.next]; exact h5))⟩
    · rw [h2] at ho
      refine .inr ⟨?_, ho⟩
      rcases Nat.lt_or_ge b e.next with h3 | h3
      · exact h3
      · rw [hp.above b (by omega)] at ho; cases ho
  have hnew : ∀ b o, e.next ≤ b → b < e.next' → s1.heap.get b = some o → w.heap.size ≤ (ρ' b).1 := by
    intro b o h1 h2 h3
    rcases hG.fresh b (by rw [hent]; exact h1) (by rw [he.next]; exact h2) (by rw [h3]; simp) with h4 | ⟨c, o', h4, h5, h6, _⟩
    · exact h4
    · exact absurd h4 (he.wr c (hlow c o' h6).2)
  refine ⟨ρ', by rw [← hset]; exact hv, ⟨hg.next, fun i hi => hG.same i (by rw [hent, he.next]; rw [use_next] at hi; omega), ⟨fun b o hx ho => ?_, fun b b' o o' hx hx' ho ho' ee => ?_⟩, ⟨hG.frame.os, hG.frame.tape, hG.frame.output, hG.frame.size, fun r hr _ => hG.frame.block r hr (hnotouch r)⟩, fun b h1 h2 => by rw [hkept b (by omega)] at h2; exact h2, fun b h1 h2 h3 => ?_, hg.kept, hg.above hp.above⟩⟩
  · rw [← hset]
    rcases hget b o ho with ⟨h1, h2, h3, h4⟩ | ⟨h1, h2⟩
    · exact hG.state.obj b o h4 h3
    · obtain ⟨h3, x, h4, h5⟩ := hp.st.obj b o hx h2
      rw [hsame b h1]
      refine ⟨.inl h3, x, ?_, h5.mono (fun i hi => .inl hi) (fun i hi => hsame i (by have := hp.lt i hi; omega))⟩
      rw [hG.frame.block _ (Array.getElem?_eq_some_iff.1 h4).1 (hnotouch _)]
      exact h4
  · rcases hget b o ho with ⟨h1, h2, h3, h4⟩ | ⟨h1, h2⟩
    · rcases hget b' o' ho' with ⟨k1, k2, k3, k4⟩ | ⟨k1, k2⟩
      · exact hG.state.inj b b' o o' h4 k4 h3 k3 ee
      · rw [hsame b' k1] at ee
        have := hp.st.lt hx' k2
        have := hnew b o h1 h2 h3
        omega
    · rcases hget b' o' ho' with ⟨k1, k2, k3, k4⟩ | ⟨k1, k2⟩
      · rw [hsame b h1] at ee
        have := hp.st.lt hx h2
        have := hnew b' o' k1 k2 k3
        omega
      · rw [hsame b h1, hsame b' k1] at ee
        exact hp.st.inj b b' o o' hx hx' h2 k2 ee
  · obtain ⟨o, ho⟩ := Option.ne_none_iff_exists'.1 h3
    rcases hget b o ho with ⟨k1, k2, k3, _⟩ | ⟨k1, _⟩
    · exact .inl (hnew b o k1 k2 k3)
    · omega
theorem tabV_ok {tab : List Ent} {f : FuncId} {args : List Value} {s : St} {k : Option (Value × St)} {r : Value × St} (h : tabV tab f args s k = some r) : k = some r ∨ ∃ e ∈ tab, hitV e f args s = true ∧ r = (e.val, useV e s) := by
  induction tab with
  | nil => exact .inl h
  | cons e tab ih =>
    have h' : bo (hitV e f args s) (some2 e.val (useV e s)) (tabV tab f args s k) = some r := h
    cases hh : hitV e f args s with
    | true =>
      rw [hh, bo_true] at h'
      exact .inr ⟨e, by simp, hh, some2_eq h'⟩
    | false =>
      rw [hh, bo_false] at h'
      rcases ih h' with h1 | ⟨e', h1, h2, h3⟩
      · exact .inl h1
      · exact .inr ⟨e', by simp [h1], h2, h3⟩

theorem zeroV_ok {X : Ext} (hF : FnOk E P X) {fn : Func} (hfn : E.fn.get X.noZero = some fn) {args : List Value} {v : Value} (h : zeroV X args s = some (v, s')) :
    Grows s s' ∧ ∀ Y A ρ w args', Pre P Y A ρ s s' w → Gl A ρ → LR A ρ args args' → CallUp P X.noZero ⟨args'⟩ w fun v' w' => OpPost P Y A ρ s s' w v v' w' := by
  unfold zeroV at h
  split at h
  · rename_i n
    obtain ⟨hc, h2⟩ := chk_eq h
    simp only [Bool.and_eq_true, Nat.ble_eq] at hc
    have := some2_eq h2
    simp only [Prod.mk.injEq] at this
    obtain ⟨rfl, rfl⟩ := this
    refine ⟨Grows.mk_new s _, fun Y A ρ w args' hp hgl hl => .inl ?_⟩
    obtain ⟨x', r, rfl, hx, hr⟩ := hl.uncons
    have : r = [] := List.eq_nil_of_length_eq_zero (by simpa using hr.length)
    subst this
    rw [hx.unint]
    obtain ⟨cs, hrun, hlen⟩ := hF.noZero fn hfn n w hc.2
    refine ⟨_, _, hrun, ρ.at s.next (w.heap.size, cs.length), ?_, ?_⟩
    · have := VR.slice (A := SetAdd A s.next (s.new (.cells [] X.byte true)).next) (ρ := ρ.at s.next (w.heap.size, cs.length)) (b := s.next) (o := 0) (l := n) (c := unk) (s := none) (.inr ⟨Nat.le_refl _, by simp⟩)
      simpa [freshSlice, capMap] using this
    · refine Good.alloc (o := .cells [] X.byte true) (x := .cells ⟨cs⟩ X.byte) hp.st hp.above hp.lt (fun c => by simp) (by simp) (new_in_wr s _) (Nat.le_refl _) ?_ ?_ ?_
      · have := heap_alloc_new w.drew.drew (.cells ⟨cs⟩ X.byte)
        exact this
      · refine ⟨[], cs, (0, 0), rfl, LR.nil, fun _ => ⟨rfl, ?_, ?_, hlen⟩, fun h => by cases h⟩
        · rw [hF.byte]; simp
        · rw [hF.byte]; exact Nat.one_pos
      · have := Fr.alloc w.drew.drew (.cells ⟨cs⟩ X.byte)
        exact ⟨this.os, this.tape, this.output, this.size, this.block⟩
  · cases h
/-- The world has grown; what lay lies as it did. -/
theorem Good.grew {s1 : St} {w1 : World} (hst : StateR P X A ρ s.heap.get w) (hfr : ∀ b, s.next ≤ b → s.heap.get b = none) (hn : s1.next = s.next) (hg : s1.heap = s.heap) (hf : Fr w w1 fun _ => False) : Good P X A ρ s s1 w w1 ρ := by
  refine ⟨by omega, fun _ _ => rfl, ?_, ⟨hf.os, hf.tape, hf.output, hf.size, fun r hr _ => hf.block r hr fun h => h⟩, fun b _ h => by rw [hg] at h; exact h, fun b h1 h2 => by omega, fun b _ _ => by rw [hg], fun b hb => by rw [hg]; exact hfr b (by omega)⟩
  rw [hg]
  refine ⟨fun b o hx hb => ?_, hst.inj⟩
  obtain ⟨h1, x, h2, h3⟩ := hst.obj b o hx hb
  refine ⟨.inl h1, x, ?_, h3.mono (fun i hi => .inl hi) (fun _ _ => rfl)⟩
  rw [hf.block _ (Array.getElem?_eq_some_iff.1 h2).1 fun h => h]
  exact h2
theorem lookV_ok {X : Ext} (hF : FnOk E P X) (hen : ∀ args w, (callFunc X.look args).run P w = .ok (.enter X.look args) w) {fn : Func} (hfn : E.fn.get X.look = some fn) {args : List Value} {v : Value} (h : lookV args s = some (v, s')) :
    Grows s s' ∧ ∀ Y A ρ w args', Pre P Y A ρ s s' w → Gl A ρ → LR A ρ args args' → CallUp P X.look ⟨args'⟩ w fun v' w' => OpPost P Y A ρ s s' w v v' w' := by
  unfold lookV at h
  split at h
  · rename_i b o n c a k g i
    obtain ⟨hi, h2⟩ := chk_eq h
    have hi : i < n := Nat.le_of_ble_eq_true hi
    obtain ⟨cs, e, u, hg, h3⟩ := row_eq h2
    obtain ⟨v1, hv1, h4⟩ := ob_eq h3
    split at h4
    rotate_left
    · cases h4
    rename_i z
    have := some2_eq h4
    simp only [Prod.mk.injEq] at this
    obtain ⟨rfl, rfl⟩ := this
    rw [nthL_eq] at hv1
    refine ⟨Grows.read s b, fun Y A ρ w args' hp hgl hl => .inr ?_⟩
    obtain ⟨x', r, rfl, hx, hr⟩ := hl.uncons
    obtain ⟨y', r2, rfl, hy, hr2⟩ := hr.uncons
    have : r2 = [] := List.eq_nil_of_length_eq_zero (by simpa using hr2.length)
    subst this
    rw [hy.unint]
    obtain ⟨xs, rfl, hxs⟩ := hx.unagg
    obtain ⟨x1, xs, rfl, hx1, hxs⟩ := hxs.uncons
    obtain ⟨x2, xs, rfl, hx2, hxs⟩ := hxs.uncons
    obtain ⟨x3, xs, rfl, hx3, hxs⟩ := hxs.uncons
    have : xs = [] := List.eq_nil_of_length_eq_zero (by simpa using hxs.length)
    subst this
    obtain ⟨hA, c', rest, fr, r1, r2, r3, r4, r5, r6⟩ := hp.st.row (hp.acc b (read_in s b)) hg
    obtain ⟨v', hv2, hv3⟩ := r2.get hv1
    have hv2 : c'[o + i]? = some v' := hv2
    have hx2' : ∃ a' k', x2 = .slice a' 0 k' := by
      cases a with
      | none => exact ⟨none, k, hx2.unslice0⟩
      | some a => obtain ⟨b2, o2, q2⟩ := a; exact ⟨_, _, hx2.unslice⟩
    obtain ⟨a', k', rfl⟩ := hx2'
    rw [hx1.unslice]
    have hcell : w.cell? ⟨(ρ b).1, o + i, none⟩ = some v' := by
      rw [cell_at r1, List.getElem?_append_left (List.getElem?_eq_some_iff.1 hv2).1]
      exact hv2
    have := hv3.unstr; subst this
    refine ⟨_, _, w, hen _ _, (hF.look fn hfn (ρ b).1 o n _ a' k' x3 i z w hi hcell).mono fun e w' hh => ?_⟩
    obtain ⟨rfl, hf⟩ := hh
    exact ⟨_, rfl, ρ, hv3.mono (fun i hi => .inl hi) (fun _ _ => rfl), Good.grew hp.st hp.above (by simp) (by simp) hf⟩
  · cases h
theorem callV_ok (hE : EnvOk E P) {X : Ext} (hF : FnOk E P X) (hm : P.follows .mixedOrders = true) (lf : Nat) {tab : List Ent} (hT : ∀ e ∈ tab, ∃ s1, EntOk P e s1) : ∀ n, CallerOk P (callV E X lf tab n)
  | 0 => fun f args s v s' h => by cases h
  | n + 1 => fun f args s v s' h => by
    rcases tabV_ok (show tabV tab f args s (ob (E.fn.get f) (fun fn => match fn.body with
      | none => extV X f args s
      | some c => bo (Nat.beq f X.look) (lookV args s) <| chk (Nat.ble (lenL args) fn.ntmps) <| outOf E fn (codeV E (callV E X lf tab n) lf c (layArgs args (nat_lit 0) .nil) s))) = some (v, s') from h) with h0 | ⟨e, he, hh, hr⟩
    case inr =>
      simp only [Prod.mk.injEq] at hr
      obtain ⟨rfl, rfl⟩ := hr
      obtain ⟨s1, hs1⟩ := hT e he
      exact hit_ok hs1 hh
    obtain ⟨fn, hfn, h1⟩ := ob_eq h0
    split at h1
    · unfold extV at h1
      rw [bo_eq, bo_eq, bo_eq] at h1
      split at h1
      · rename_i hf
        have hf : f = X.noEscape := by simpa using hf
        subst hf
        obtain ⟨u, hu, h2⟩ := ob_eq h1
        have := some2_eq h2
        simp only [Prod.mk.injEq] at this
        obtain ⟨rfl, rfl⟩ := this
        refine ⟨Grows.refl _, fun Y A ρ w args' hp hgl hl => .inl ?_⟩
        unfold id1 at hu
        split at hu
        · rename_i x
          have := Option.some.inj hu; subst this
          obtain ⟨x', r, rfl, hx, hr⟩ := hl.uncons
          have : r = [] := List.eq_nil_of_length_eq_zero (by simpa using hr.length)
          subst this
          exact ⟨x', w, hF.noEscape x' w, ρ, hx.mono (fun i hi => .inl hi) (fun _ _ => rfl), Good.refl hp.st hp.above⟩
        · cases hu
      · split at h1
        · rename_i hf
          have hf : f = X.indexByte := by simpa using hf
          subst hf
          obtain ⟨u, hu, h2⟩ := ob_eq h1
          have := some2_eq h2
          simp only [Prod.mk.injEq] at this
          obtain ⟨rfl, rfl⟩ := this
          refine ⟨Grows.refl _, fun Y A ρ w args' hp hgl hl => .inl ?_⟩
          unfold index1 at hu
          split at hu
          · rename_i z c
            obtain ⟨hc256, hu⟩ := chk_eq hu
            have := Option.some.inj hu; subst this
            obtain ⟨x', r, rfl, hx, hr⟩ := hl.uncons
            obtain ⟨y', r2, rfl, hy, hr2⟩ := hr.uncons
            have : r2 = [] := List.eq_nil_of_length_eq_zero (by simpa using hr2.length)
            subst this
            rw [hx.unstr, hy.unint]
            exact ⟨_, w, hF.indexByte z c w (Nat.le_of_ble_eq_true hc256), ρ, VR.int _ _, Good.refl hp.st hp.above⟩
          · cases hu
        · split at h1
          · rename_i hf
            have hf : f = X.noZero := by simpa using hf
            subst hf
            exact zeroV_ok hF hfn h1
          · cases h1
    · rename_i c hc
      rw [bo_eq] at h1
      split at h1
      · rename_i hf
        have hf : f = X.look := by simpa using hf
        subst hf
        exact lookV_ok hF (hF.enter _ fn c hfn hc) hfn h1
      rename_i hne0
      have hne0 : f ≠ X.look := by simpa using hne0
      obtain ⟨hla, h2⟩ := chk_eq h1
      have hla : args.length ≤ fn.ntmps := by simpa using hla
      obtain ⟨⟨e, tm, s1⟩, h3, h4⟩ := ob_eq h2
      have ih := callV_ok hE hF hm lf hT n
      have hcode := codeV_ok hE ih hm lf c (hF.code f fn c hfn hne0 hc) _ _ _ _ _ h3
      have key : ∀ (hne : e = .normal ∨ e = .ret), (ob (resV E tm fn.results.toList s1) fun p => some (oneV p.1, p.2)) = some (v, s') → Grows s s' ∧ ∀ Y A ρ w args', Pre P Y A ρ s s' w → Gl A ρ → LR A ρ args args' → CallUp P f ⟨args'⟩ w fun v' w' => OpPost P Y A ρ s s' w v v' w' := by
        intro hne h5
        obtain ⟨⟨vs, s2⟩, h6, h7⟩ := ob_eq h5
        have := Option.some.inj h7
        simp only [Prod.mk.injEq] at this
        obtain ⟨rfl, rfl⟩ := this
        obtain ⟨hg2, e1, e2, hres⟩ := resV_ok hE _ _ h6
        refine ⟨hcode.1.trans hg2, fun Y A ρ w args' hp hgl hl => .inr ⟨f, ⟨args'⟩, w, hF.enter f fn c hfn hc _ _, ?_⟩⟩
        refine calls_of_wp (hE.fn f fn hfn) hc ?_
        have hsize : args'.length = args.length := hl.length
        have ht : TmR A ρ fn.ntmps (layArgs args 0 .nil) { tmps := (⟨args'⟩ : Array Value) ++ Array.replicate (fn.ntmps - (⟨args'⟩ : Array Value).size) undef, defers := [] } := by
          refine ⟨by simp; omega, fun t => ?_⟩
          rw [layArgs_get, T.get_nil]
          by_cases h8 : 0 ≤ t ∧ t < 0 + args.length
          · rw [if_pos h8, Nat.sub_zero]
            have h9 : t < args.length := by omega
            obtain ⟨u', hu1, hu2⟩ := hl.get (List.getElem?_eq_getElem h9)
            rw [List.getElem?_eq_getElem h9]
            have h10 : ((⟨args'⟩ : Array Value) ++ Array.replicate (fn.ntmps - (⟨args'⟩ : Array Value).size) undef).getD t undef = u' := by
              rw [Array.getD_eq_getD_getElem?, Array.getElem?_append_left (by simp; omega)]
              simp [hu1]
            rw [h10]; exact hu2
          · rw [if_neg h8]
            have h10 : ((⟨args'⟩ : Array Value) ++ Array.replicate (fn.ntmps - (⟨args'⟩ : Array Value).size) undef).getD t undef = undef := by
              rw [Array.getD_eq_getD_getElem?, Array.getElem?_append_right (by simp; omega)]
              simp only [Array.getElem?_replicate]
              split <;> rfl
            rw [h10]; exact VR.undef
        have hp1 : Pre P Y A ρ s s1 w := hp.part hg2
        refine hcode.2 Y A ρ w _ _ hp1 hgl ht fun a1 w1 hleft => ?_
        obtain ⟨hd, ρ1, ht1, hG⟩ := hleft
        obtain ⟨vs', h8, h9⟩ := hres Y (SetAdd A s.next s1.next) ρ1 w1 a1 hp.acc hG.state ht1.2
        have hrun : (results fn a1.tmps).run P w1 = .ok (if h : (⟨vs'⟩ : Array Value).size = 1 then (⟨vs'⟩ : Array Value)[0] else .tuple ⟨vs'⟩) w1 := by
          unfold results
          rw [Array.mapM_eq_mapM_toList]
          simp only [map_eq_pure_bind, Sem.run_bind, Sem.run_pure]
          generalize hXX : Sem.run P (List.mapM _ fn.results.toList) w1 = XX
          have hx2 : XX = .ok vs' w1 := hXX.symm.trans h8
          rw [hx2]
          rfl
        have hpost : ∃ v, Ending.returned (if h : (⟨vs'⟩ : Array Value).size = 1 then (⟨vs'⟩ : Array Value)[0] else .tuple ⟨vs'⟩) = .returned v ∧ OpPost P Y A ρ s s2 w (oneV vs) v w1 := by
          refine ⟨_, rfl, ρ1, ?_, ?_⟩
          · rw [e2]; exact oneV_ok h9
          · exact Good.trans hp.acc hcode.1 hg2 hp.lt hG (Good.same' hG.state hG.above e2 e1 rfl rfl rfl rfl)
        rcases hne with rfl | rfl
        · exact ⟨hd, _, hrun, hpost⟩
        · exact ⟨hd, _, hrun, hpost⟩
      cases e with
      | normal => exact key (.inl rfl) h4
      | ret => exact key (.inr rfl) h4
      | exit id => cases h4

theorem check_ok (hE : EnvOk E P) {X : Ext} (hF : FnOk E P X) (hm : P.follows .mixedOrders = true) (lf : Nat) {tab : List Ent} (hT : ∀ e ∈ tab, ∃ s1, EntOk P e s1) (n : Nat) {e : Ent} (h : checkV E X lf tab n e = true) : ∃ s1, EntOk P e s1 := by
  unfold checkV at h
  split at h
  · cases h
  · rename_i v s1 hc
    obtain ⟨hg, hk⟩ := callV_ok hE hF hm lf hT n _ _ _ _ _ hc
    simp only [Bool.and_eq_true] at h
    obtain ⟨⟨⟨⟨⟨⟨h1, h2⟩, h3⟩, h4⟩, h5⟩, h6⟩, h7⟩ := h
    have h1 := vEq_ok _ _ h1
    subst h1
    have h3 := Nat.eq_of_beq_eq_true h3
    have h4 := Nat.eq_of_beq_eq_true h4
    have hmod : ∀ m b, b < e.next → (In (Nat.mod m (Nat.shiftLeft 1 e.next)) b ↔ In m b) := fun m b hb => by
      have : Nat.mod m (Nat.shiftLeft 1 e.next) = m % 2 ^ e.next := by
        show m % (1 <<< e.next) = _
        rw [Nat.one_shiftLeft]
      rw [this, In, In, Nat.testBit_mod_two_pow]
      simp [hb]
    refine ⟨s1, Nat.eq_of_beq_eq_true h2, hg, fun b hb hlt => ?_, fun b hb hw => ?_, fun p hp => ⟨blocksIn_ok h5 p hp, idsV_ok h7 p hp⟩, fun p hp => (idsV_ok h6 p hp).2, hk⟩
    · have h8 : (Nat.mod s1.acc (Nat.shiftLeft 1 e.next) ||| e.acc) = e.acc := h3
      rw [← h8]
      exact (in_lor _ _ _).2 (.inl ((hmod _ b hlt).2 hb))
    · have := (hmod _ b hb).2 hw
      have h8 : Nat.mod s1.wr (Nat.shiftLeft 1 e.next) = 0 := h4
      rw [h8] at this
      exact zero_in b this
end
end Go.Ev
