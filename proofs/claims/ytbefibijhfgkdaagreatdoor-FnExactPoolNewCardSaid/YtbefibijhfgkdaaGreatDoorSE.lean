/- A lemma text of the proof that what the evaluator answers holds of every run of the model. No condition beyond those that each theorem states. -/
import Derived.Test.YtbefibijhfgkdaaGreatDoorSD
namespace Go.Ev
open Go
set_option linter.unusedSimpArgs false
set_option linter.unusedVariables false
section
variable {E : Env} {P : Program} {X A : Nat → Prop} {ρ : Rho} {s s' : St} {w w' : World} {v v' x y x' y' : Value}

theorem run_ti {e : TypeId} {i : TypeInfo} (hi : P.info? e = some i) (w : World) : (typeInfo e).run P w = .ok i w := by simp [typeInfo, hi]
theorem run_append_room2 {ts : Array TypeId} {ty t xt e : TypeId} {xd : TypeDesc} {i : TypeInfo} (h0 : ts[0]? = some t) (h1 : ts[1]? = some xt) (ht : P.underlying t = some (.slice e)) (hxt : P.underlying xt = some xd) (hxd : isInt xd = false) (hi : P.info? e = some i)
    {len n cap : Nat} {base : Option Addr} {new : List Value} (hl : (Builtin.lenOf x').run P w = .ok n w) (hf : (Builtin.firstCells i.size n x').run P w = .ok ⟨new⟩ w) (hr : len + n ≤ cap)
    (hn : base = none → w' = w) (hs : ∀ a, base = some a → (storeCells (a.add (len * i.size)) new).run P w = .ok () w') :
    (Builtin.append_ ts ty #[.slice base len cap, x']).run P w = .ok (.slice base (len + n) cap) w' := by
  cases xd <;> first | (cases hxd; done) | skip
  all_goals
    unfold Builtin.append_
    simp only [h0, h1, List.getElem?_toArray, List.getElem?_cons_zero, List.getElem?_cons_succ, Sem.run_bind, run_underlying ht, run_underlying hxt, Result.andThen_ok, sizeOf, run_ti hi, Sem.run_pure, Bool.false_eq_true, if_false, hl, hr, if_true, Bool.not_false, hf]
    cases base with
    | none => simp [hn rfl]
    | some a => simp [hs a rfl]
theorem run_append_grow2 {ts : Array TypeId} {ty t xt e : TypeId} {xd : TypeDesc} {i : TypeInfo} {z : Value} (h0 : ts[0]? = some t) (h1 : ts[1]? = some xt) (ht : P.underlying t = some (.slice e)) (hxt : P.underlying xt = some xd) (hxd : isInt xd = false) (hi : P.info? e = some i) (hz : i.zero = some z)
    {len n cap : Nat} {base : Option Addr} {old new : List Value} (hl : (Builtin.lenOf x').run P w = .ok n w) (hf : (Builtin.firstCells i.size n x').run P w.drew = .ok ⟨new⟩ w.drew) (ho : (Builtin.firstCells i.size len (.slice base len cap)).run P w.drew = .ok ⟨old⟩ w.drew) (hr : ¬ len + n ≤ cap)
    (hsm : len + n ≤ 1000000) (hby : i.bytes ≤ 1000000) :
    (Builtin.append_ ts ty #[.slice base len cap, x']).run P w = .ok (.slice (some ⟨w.heap.size, 0, none⟩) (len + n) (grownCap w (len + n) cap e)) (w.drew.alloc (.cells (⟨old⟩ ++ ⟨new⟩ ++ Builtin.zeroCells z.cells (grownCap w (len + n) cap e - (len + n))) e)) := by
  have hb : (len + n) * i.bytes ≤ 140737488355328 := by
    have : (len + n) * i.bytes ≤ 1000000 * 1000000 := Nat.mul_le_mul hsm hby
    omega
  have hgs := growslice_fits (need := len + n) (old := cap) (bytes := i.bytes) (by omega) hb
  have h48 : ¬ (2 ^ 48 < Builtin.nextslicecap (len + n) cap * i.bytes) := by omega
  have h63 : ¬ (((len + n : Nat) : Int) > IntKind.i64.max) := by
    have : IntKind.i64.max = 9223372036854775807 := rfl
    rw [this]; omega
  have hq : (Question.appendCap (len + n) cap e).forced = false := rfl
  have hch : (choose (.appendCap (len + n) cap e)).run P w = .ok (grownCap w (len + n) cap e) w.drew := by
    rfl
  have har : ∀ k, (askRoom k).run P w.drew = .ok () w.drew := by
    intro k; unfold askRoom; split <;> simp [mark, Sem.run]
  cases xd <;> first | (cases hxd; done) | skip
  all_goals
    unfold Builtin.append_
    simp only [h0, h1, List.getElem?_toArray, List.getElem?_cons_zero, List.getElem?_cons_succ, Sem.run_bind, run_underlying ht, run_underlying hxt, Result.andThen_ok, sizeOf, run_ti hi, Sem.run_pure, Bool.false_eq_true, if_false, hl, hr, Bool.not_false, if_true, h63, false_and, gt_iff_lt, h48]
    simp only [hch, har, ho, hf, Result.andThen_ok, zeroValue, Sem.run_bind, run_ti hi, Sem.run_pure, hz, run_newRow]
    rfl

theorem zeroCells_size (z : Array Value) (n : Nat) : (Builtin.zeroCells z n).toList.length = n * z.size := by simp [Builtin.zeroCells]

/-- A row made by an append: a new block, whose capacity the world draws. -/
theorem grown_ok {c c' : List Value} {e : TypeId} {i : TypeInfo} {z : Value} {len cap : Nat} (hp : Pre P X A ρ s (s.new (.cells c e true)) w) (hc : LR A ρ c c') (hi : P.info? e = some i) (hzs : z.cells.size = i.size) (h0 : 0 < i.size) (hl : c.length = len * i.size) (hlen : len ≤ 1000000) {m : Sem Value}
    (hm : m.run P w = .ok (.slice (some ⟨w.heap.size, 0, none⟩) len (grownCap w len cap e)) (w.drew.alloc (.cells ⟨c' ++ (Builtin.zeroCells z.cells (grownCap w len cap e - len)).toList⟩ e))) :
    SemOk P X A ρ s (s.new (.cells c e true)) w (freshSlice s len) m := by
  have hce : P.cellsOf e = i.size := by simp [Program.cellsOf, hi]
  have hge := grownCap_ge w len cap e
  have hle := grownCap_le_maxLen w len cap e (by unfold maxLen; omega)
  refine ⟨_, _, ρ.at s.next (w.heap.size, grownCap w len cap e), hm, ?_, ?_⟩
  · have := VR.slice (A := SetAdd A s.next (s.new (.cells c e true)).next) (ρ := ρ.at s.next (w.heap.size, grownCap w len cap e)) (b := s.next) (o := 0) (l := len) (c := unk) (s := none) (.inr ⟨Nat.le_refl _, by simp⟩)
    simpa [capMap, freshSlice] using this
  · refine Good.alloc (o := .cells c e true) (x := .cells ⟨c' ++ (Builtin.zeroCells z.cells (grownCap w len cap e - len)).toList⟩ e) hp.st hp.above hp.lt (fun c => by simp) (by simp) (new_in_wr s _) (Nat.le_refl _) (heap_alloc_new w.drew _) ?_ (Fr.drewAlloc w _)
    refine ⟨c', _, (0, 0), rfl, hc, fun _ => ⟨rfl, ?_, by rw [hce]; exact h0, hle⟩, fun h => by cases h⟩
    rw [zeroCells_size, hzs, hl, hce, ← Nat.add_mul]
    congr 1; omega

theorem Good.cong {s1 : St} {ρ' : Rho} (h1 : s1.heap = s.heap) (h2 : s1.next = s.next) (g : Good P X A ρ s1 s' w w' ρ') : Good P X A ρ s s' w w' ρ' := by
  obtain ⟨a, b, c, d, e, f, g, h⟩ := g
  rw [h2] at a b c e f g
  rw [h1] at d e f g
  exact ⟨a, b, c, d, e, f, g, h⟩
theorem SemOk.cong {s1 : St} {m : Sem Value} (h1 : s1.heap = s.heap) (h2 : s1.next = s.next) (g : SemOk P X A ρ s1 s' w v m) : SemOk P X A ρ s s' w v m := by
  obtain ⟨v', w', ρ', a, b, c⟩ := g
  exact ⟨v', w', ρ', a, by rw [← h2]; exact b, c.cong h1 h2⟩
theorem Pre.cong {s1 s2 : St} (h1 : s1.heap = s.heap) (h2 : s1.next = s.next) (hacc : ∀ b, In s2.acc b → In s'.acc b) (h : Pre P X A ρ s s' w) : Pre P X A ρ s1 s2 w :=
  ⟨by rw [h2]; exact h.lt, by rw [h1, h2]; exact h.above, fun b hb => h.acc b (hacc b hb), by rw [h1]; exact h.st⟩

theorem setRow_wr {g : Nat} {cs : List Value} {e : TypeId} {fr : Nat × Nat} (hg : w.heap[g]? = some (.cells ⟨cs⟩ e fr)) (hfr : fr = (0, 0) ∨ cs.length ≤ fr.1) (o : Nat) (vs : List Value) (hl : o + vs.length ≤ cs.length) (hf : ∀ v ∈ vs, flat v = true) :
    (storeCells ⟨g, o, none⟩ vs).run P w = .ok () (w.setRow g ⟨cs.take o ++ vs ++ cs.drop (o + vs.length)⟩) := by
  have := run_storeCells_any P g o e fr vs 0 ⟨cs⟩ w hg (by simpa using hfr) (by simpa using hl) (fun v hv => by rw [← flat_one]; exact hf v hv)
  simpa using this

theorem put_end (c' rest new' : List Value) (k : Nat) (h : c'.length = k) : (c' ++ rest).take k ++ new' ++ (c' ++ rest).drop (k + new'.length) = (c' ++ new') ++ rest.drop new'.length := by
  subst h
  rw [List.take_left, List.drop_append, List.drop_eq_nil_of_le (by omega)]
  simp
theorem put_mid (c' rest new' : List Value) (k : Nat) (h : k + new'.length ≤ c'.length) : (c' ++ rest).take k ++ new' ++ (c' ++ rest).drop (k + new'.length) = (c'.take k ++ new' ++ c'.drop (k + new'.length)) ++ rest := by
  rw [List.take_append_of_le_length (by omega), List.drop_append_of_le_length (by omega)]
  simp
theorem arr3 (a b : List Value) (c : Array Value) : ((⟨a⟩ : Array Value) ++ (⟨b⟩ : Array Value) ++ c) = ⟨a ++ b ++ c.toList⟩ := by apply Array.ext'; simp
theorem appendTo_ok (hE : EnvOk E P) {elem t xt : TypeId} {xd : TypeDesc} {i : TypeInfo} {z : Value} {base : Option Addr} {len cap n : Nat} {new : List Value} {s1 : St}
    (h : appendTo elem i.size base len cap n new s1 = some (v, s')) (hi : P.info? elem = some i) (hz : i.zero = some z) (hzs : z.cells.size = i.size) (hsz : 0 < i.size) (hby : i.bytes ≤ 1000000) (hnl : new.length = n * i.size) (hnf : ∀ v ∈ new, flat v = true) (hlen : len + n ≤ 1000000)
    (ht : P.underlying t = some (.slice elem)) (hxt : P.underlying xt = some xd) (hxd : isInt xd = false) :
    Grows s1 s' ∧ ∀ X A ρ w b' x' new' (ts : Array TypeId) ty, Pre P X A ρ s1 s' w → VR A ρ (.slice base len cap) b' → LR A ρ new new' → ts[0]? = some t → ts[1]? = some xt →
      (∀ w2, w2.heap = w.heap → (Builtin.lenOf x').run P w2 = .ok n w2 ∧ (Builtin.firstCells i.size n x').run P w2 = .ok ⟨new'⟩ w2) → SemOk P X A ρ s1 s' w v (Builtin.append_ ts ty #[b', x']) := by
  have hce : P.cellsOf elem = i.size := by simp [Program.cellsOf, hi]
  unfold appendTo at h
  split at h
  · obtain ⟨hc, h2⟩ := chk_eq h
    simp only [Bool.and_eq_true, Nat.beq_eq] at hc
    obtain ⟨rfl, rfl⟩ := hc
    cases hn : Nat.beq n 0 with
    | true =>
      rw [hn, bo_true] at h2
      have hn0 : n = 0 := by simpa using hn
      subst hn0
      have := some2_eq h2
      simp only [Prod.mk.injEq] at this
      obtain ⟨rfl, rfl⟩ := this
      refine ⟨Grows.refl _, fun X A ρ w b' x' new' ts ty hp hb hnew h0 h1 hx => ?_⟩
      rw [hb.unslice0]
      have hr := run_append_room2 (ty := ty) (w' := w) h0 h1 ht hxt hxd hi (hx w rfl).1 (hx w rfl).2 (len := 0) (cap := 0) (base := none) (by omega) (fun _ => rfl) (fun a h => by cases h)
      exact SemOk.pure hp hr (VR.ground (by simp))
    | false =>
      rw [hn, bo_false] at h2
      have hn0 : n ≠ 0 := by intro e; subst e; cases hn
      have := some2_eq h2
      simp only [Prod.mk.injEq] at this
      obtain ⟨rfl, rfl⟩ := this
      refine ⟨Grows.mk_new s1 _, fun X A ρ w b' x' new' ts ty hp hb hnew h0 h1 hx => ?_⟩
      rw [hb.unslice0]
      have hr := run_append_grow2 (ty := ty) h0 h1 ht hxt hxd hi hz (hx w rfl).1 (hx w.drew rfl).2 (len := 0) (cap := 0) (base := none) (old := []) (by simp [Builtin.firstCells]) (by omega) (by omega) hby
      simp only [Nat.zero_add] at hr
      refine grown_ok (cap := 0) hp hnew hi hzs hsz hnl (by omega) (hr.trans ?_)
      rw [arr3, List.nil_append]
  · rename_i b o
    obtain ⟨c, e, wd, hg, h3⟩ := row_eq h
    cases hk : Nat.ble unk cap with
    | true =>
      rw [hk, bo_true] at h3
      obtain ⟨hc, h4⟩ := chk_eq h3
      simp only [Bool.and_eq_true, Nat.beq_eq, lenL_eq] at hc
      obtain ⟨⟨⟨⟨hw, he⟩, hcap⟩, ho⟩, hcl⟩ := hc
      subst hw he hcap ho
      have hmul : Nat.mul len i.size = len * i.size := rfl
      rw [hmul] at hcl
      have hcapq : ∀ ρ : Rho, capMap (ρ b) unk = (ρ b).2 := fun ρ => by simp [capMap]
      cases hn : Nat.beq n 0 with
      | true =>
        rw [hn, bo_true] at h4
        have hn0 : n = 0 := by simpa using hn
        subst hn0
        have := some2_eq h4
        simp only [Prod.mk.injEq] at this
        obtain ⟨rfl, rfl⟩ := this
        refine ⟨Grows.read s1 b, fun X A ρ w b' x' new' ts ty hp hb hnew h0 h1 hx => ?_⟩
        obtain ⟨hA, c', rest, fr, r1, r2, r3, r4, r5, r6⟩ := hp.st.row (hp.acc b (read_in s1 b)) hg
        obtain ⟨r7, r8, r9, r10⟩ := r5 rfl
        rw [hce] at r8
        rw [hb.unslice, hcapq]
        have hle : len ≤ (ρ b).2 := Nat.le_of_mul_le_mul_right (c := i.size) (by omega) hsz
        have hn' : new' = [] := List.eq_nil_of_length_eq_zero (by rw [hnew.length, hnl]; omega)
        have hr := run_append_room2 (ty := ty) (w' := w) h0 h1 ht hxt hxd hi (hx w rfl).1 (hx w rfl).2 (len := len) (cap := (ρ b).2) (base := some ⟨(ρ b).1, 0, none⟩) (by omega) (fun h => by cases h) (fun a h => by
          subst hn'; simp [storeCells])
        refine SemOk.same hp (by simp) (by simp) hr ?_
        have := VR.slice (A := A) (ρ := ρ) (b := b) (o := 0) (l := len) (c := unk) (s := none) hA
        rw [hcapq] at this
        exact this
      | false =>
        rw [hn, bo_false] at h4
        have := some2_eq h4
        simp only [Prod.mk.injEq] at this
        obtain ⟨rfl, rfl⟩ := this
        have hgr : Grows s1 (((s1.read b).put b none).new (.cells (c ++ new) e true)) := ((Grows.read s1 b).trans (Grows.put _ b _ (by rw [read_heap, hg]; simp))).trans (Grows.mk_new _ _)
        refine ⟨hgr, fun X A ρ w b' x' new' ts ty hp hb hnew h0 h1 hx => ?_⟩
        have hX : X b := hp.acc b ((Grows.mk_new _ _).acc b (put_in_acc _ b _))
        obtain ⟨hA, c', rest, fr, r1, r2, r3, r4, r5, r6⟩ := hp.st.row hX hg
        obtain ⟨r7, r8, r9, r10⟩ := r5 rfl
        rw [hce] at r8
        subst r7
        rw [hb.unslice, hcapq]
        have hnew' := hnew.length
        have hlr : LR A ρ (c ++ new) (c' ++ new') := r2.append hnew
        by_cases hroom : len + n ≤ (ρ b).2
        · have hfit : len * i.size + n * i.size ≤ c.length + rest.length := by rw [r8, ← Nat.add_mul]; exact Nat.mul_le_mul_right _ hroom
          have hst := setRow_wr (P := P) r1 r4 (len * i.size) new' (by simp; omega) (hnew.flats hnf)
          have hr := run_append_room2 (ty := ty) (w' := w.setRow (ρ b).1 ⟨(c' ++ rest).take (len * i.size) ++ new' ++ (c' ++ rest).drop (len * i.size + new'.length)⟩) h0 h1 ht hxt hxd hi (hx w rfl).1 (hx w rfl).2 (len := len) (cap := (ρ b).2) (base := some ⟨(ρ b).1, 0, none⟩) hroom (fun h => by cases h) (fun a h => by
            have := Option.some.inj h; subst this
            rw [add_lit, Nat.zero_add]; exact hst)
          refine ⟨_, _, ρ.at s1.next (ρ b), hr, ?_, ?_⟩
          · have := VR.slice (A := SetAdd A s1.next (((s1.read b).put b none).new (.cells (c ++ new) e true)).next) (ρ := ρ.at s1.next (ρ b)) (b := s1.next) (o := 0) (l := len + n) (c := unk) (s := none) (.inr ⟨Nat.le_refl _, by simp⟩)
            simpa [capMap, freshSlice] using this
          · refine Good.renew (o := .cells c e true) (o' := .cells (c ++ new) e true) hp.st hp.above hp.lt hX hg (fun c => by simp) (by simp) ((Grows.mk_new _ _).wr b (put_in_wr _ b _)) ?_ (setRow_heap w _ _ _ _ _ r1) ?_ (Fr.setRow w _ _)
            · have := new_in_wr ((s1.read b).put b none) (.cells (c ++ new) e true)
              simpa using this
            · have hcl' : c'.length = len * i.size := by omega
              refine ⟨c' ++ new', rest.drop new'.length, (0, 0), ?_, hlr, fun _ => ⟨rfl, ?_, r9, r10⟩, fun h => by cases h⟩
              · rw [put_end c' rest new' _ hcl']
              · rw [hce, List.length_append, List.length_drop]
                omega
        · have hold : (Builtin.firstCells i.size len (.slice (some ⟨(ρ b).1, 0, none⟩) len (ρ b).2)).run P w.drew = .ok ⟨c'⟩ w.drew := by
            unfold Builtin.firstCells
            rw [run_loadCells_at P (w := w.drew) r1 0 (len * i.size) (by simp; omega)]
            rw [List.drop_zero, List.take_append_of_le_length (by omega), List.take_of_length_le (by omega)]
          have hr := run_append_grow2 (ty := ty) h0 h1 ht hxt hxd hi hz (hx w rfl).1 (hx w.drew rfl).2 (len := len) (cap := (ρ b).2) (base := some ⟨(ρ b).1, 0, none⟩) hold hroom hlen hby
          have hg1 : Good P X A ρ s1 ((s1.read b).put b none) w w ρ := Good.drop (o := .cells c e true) hp.st hp.above (fun c => by simp) (by simp) (put_in_wr _ b _) hX hg (Fr.refl w _)
          have hp2 : Pre P X (SetAdd A s1.next ((s1.read b).put b none).next) ρ ((s1.read b).put b none) (((s1.read b).put b none).new (.cells (c ++ new) e true)) w :=
            ⟨fun j hj => by rcases hj with hj | hj
                            · have := hp.lt j hj; simp; exact this
                            · simp at hj; omega, fun c hc => hg1.above c hc, hp.acc, hg1.state⟩
          obtain ⟨v', w', ρ', g1, g2, g3⟩ := grown_ok (cap := (ρ b).2) (m := Builtin.append_ ts ty #[.slice (some ⟨(ρ b).1, 0, none⟩) len (ρ b).2, x']) hp2 (hlr.mono (fun i hi => .inl hi) (fun _ _ => rfl)) hi hzs hsz (len := len + n) (by rw [List.length_append, hcl, hnl, Nat.add_mul]) hlen (hr.trans (by rw [arr3]))
          refine ⟨v', w', ρ', g1, ?_, ?_⟩
          · have : freshSlice ((s1.read b).put b none) (len + n) = freshSlice s1 (len + n) := by simp [freshSlice]
            refine VR.mono (g2) (fun j hj => ?_) (fun _ _ => rfl)
            rcases hj with (hj | hj) | hj
            · exact .inl hj
            · simp at hj; omega
            · exact .inr (by simpa using hj)
          · exact Good.trans hp.acc ((Grows.read s1 b).trans (Grows.put _ b _ (by rw [read_heap, hg]; simp))) (Grows.mk_new _ _) hp.lt hg1 g3
    | false =>
      rw [hk, bo_false] at h3
      have hcap : cap < unk := by
        rcases Nat.lt_or_ge cap unk with h | h
        · exact h
        · rw [Nat.ble_eq_true_of_le h] at hk; cases hk
      cases hr : Nat.ble (Nat.add len n) cap with
      | true =>
        rw [hr, bo_true] at h3
        have hroom : len + n ≤ cap := Nat.le_of_ble_eq_true hr
        cases hn : Nat.beq n 0 with
        | true =>
          rw [hn, bo_true] at h3
          have hn0 : n = 0 := by simpa using hn
          subst hn0
          have := some2_eq h3
          simp only [Prod.mk.injEq] at this
          obtain ⟨rfl, rfl⟩ := this
          refine ⟨Grows.read s1 b, fun X A ρ w b' x' new' ts ty hp hb hnew h0 h1 hx => ?_⟩
          rw [hb.unslice, capMap_lt hcap]
          have hn' : new' = [] := List.eq_nil_of_length_eq_zero (by rw [hnew.length, hnl]; omega)
          have hr := run_append_room2 (ty := ty) (w' := w) h0 h1 ht hxt hxd hi (hx w rfl).1 (hx w rfl).2 (len := len) (cap := cap) (base := some ⟨(ρ b).1, o, none⟩) hroom (fun h => by cases h) (fun a h => by
            subst hn'; simp [storeCells])
          have hA := (hp.st.row (hp.acc b (read_in s1 b)) hg).1
          refine SemOk.same hp (by simp) (by simp) hr ?_
          have := VR.slice (A := A) (ρ := ρ) (b := b) (o := o) (l := len) (c := cap) (s := none) hA
          rw [capMap_lt hcap] at this
          exact this
        | false =>
          rw [hn, bo_false] at h3
          obtain ⟨cs, hcs, h4⟩ := ob_eq h3
          have := some2_eq h4
          simp only [Prod.mk.injEq] at this
          obtain ⟨rfl, rfl⟩ := this
          obtain ⟨h8, h9⟩ := putAt_some _ _ hcs
          refine ⟨(Grows.read s1 b).trans (Grows.put _ b _ (by rw [read_heap, hg]; simp)), fun X A ρ w b' x' new' ts ty hp hb hnew h0 h1 hx => ?_⟩
          have hX : X b := hp.acc b (put_in_acc _ b _)
          obtain ⟨hA, c', rest, fr, r1, r2, r3, r4, r5, r6⟩ := hp.st.row hX hg
          rw [hb.unslice, capMap_lt hcap]
          have hnew' := hnew.length
          have hadd : Nat.add o (Nat.mul len i.size) = o + len * i.size := rfl
          rw [hadd] at h8 h9
          have hst := setRow_wr (P := P) r1 r4 (o + len * i.size) new' (by simp; omega) (hnew.flats hnf)
          have hr := run_append_room2 (ty := ty) (w' := w.setRow (ρ b).1 ⟨(c' ++ rest).take (o + len * i.size) ++ new' ++ (c' ++ rest).drop (o + len * i.size + new'.length)⟩) h0 h1 ht hxt hxd hi (hx w rfl).1 (hx w rfl).2 (len := len) (cap := cap) (base := some ⟨(ρ b).1, o, none⟩) hroom (fun h => by cases h) (fun a h => by
            have := Option.some.inj h; subst this
            rw [add_lit]; exact hst)
          refine ⟨_, _, ρ, hr, ?_, ?_⟩
          · have := VR.slice (A := SetAdd A s1.next ((s1.read b).put b (some (.cells cs e wd))).next) (ρ := ρ) (b := b) (o := o) (l := len + n) (c := cap) (s := none) (.inl hA)
            rw [capMap_lt hcap] at this
            exact this
          · refine Good.write (o := .cells c e wd) (o' := .cells cs e wd) hp.st hp.above hX hg (fun c => by simp) (by simp) (put_in_wr _ b _) (setRow_heap w _ _ _ _ _ r1) ?_ (Fr.setRow w _ _)
            have hcl : cs.length = c.length := by rw [h9]; simp; omega
            refine ⟨c'.take (o + len * i.size) ++ new' ++ c'.drop (o + len * i.size + new'.length), rest, fr, ?_, ?_, ?_, ?_⟩
            · rw [put_mid c' rest new' _ (by omega)]
            · rw [h9, hnew']
              exact ((r2.take _).append hnew).append (r2.drop _)
            · rw [hcl]; exact r5
            · rw [hcl]; exact r6
      | false =>
        rw [hr, bo_false] at h3
        have hroom : ¬ len + n ≤ cap := fun h => by
          have : Nat.ble (Nat.add len n) cap = true := Nat.ble_eq_true_of_le h
          rw [this] at hr; cases hr
        obtain ⟨old, hold, h4⟩ := ob_eq h3
        have := some2_eq h4
        simp only [Prod.mk.injEq] at this
        obtain ⟨rfl, rfl⟩ := this
        rw [dropN_eq] at hold
        obtain ⟨h5, h6⟩ := takeN_some hold
        have hmul : Nat.mul len i.size = len * i.size := rfl
        rw [hmul] at h5 h6
        rw [List.length_drop] at h5
        refine ⟨(Grows.read s1 b).trans (Grows.mk_new _ _), fun X A ρ w b' x' new' ts ty hp hb hnew h0 h1 hx => ?_⟩
        have hX : X b := hp.acc b ((Grows.mk_new _ _).acc b (read_in s1 b))
        obtain ⟨hA, c', rest, fr, r1, r2, r3, r4, r5, r6⟩ := hp.st.row hX hg
        rw [hb.unslice, capMap_lt hcap]
        have hold' : (Builtin.firstCells i.size len (.slice (some ⟨(ρ b).1, o, none⟩) len cap)).run P w.drew = .ok ⟨(c'.drop o).take (len * i.size)⟩ w.drew := by
          unfold Builtin.firstCells
          rcases Nat.eq_zero_or_pos (len * i.size) with hz0 | hz0
          · simp only [hz0, loadCells, loadCellsFrom, List.take_zero]; rfl
          · rw [run_loadCells_at P (w := w.drew) r1 o (len * i.size) (by simp; omega)]
            congr 1
            apply Array.ext'
            simp only []
            rw [List.drop_append_of_le_length (by omega), List.take_append_of_le_length (by simp; omega)]
        have hr := run_append_grow2 (ty := ty) h0 h1 ht hxt hxd hi hz (hx w rfl).1 (hx w.drew rfl).2 (len := len) (cap := cap) (base := some ⟨(ρ b).1, o, none⟩) hold' hroom hlen hby
        have hlr : LR A ρ (old ++ new) ((c'.drop o).take (len * i.size) ++ new') := by rw [h6]; exact ((r2.drop o).take _).append hnew
        have hol : (old ++ new).length = (len + n) * i.size := by
          rw [List.length_append, hnl, h6, List.length_take, List.length_drop, Nat.min_eq_left h5, Nat.add_mul]
        have hp' : Pre P X A ρ (s1.read b) ((s1.read b).new (.cells (old ++ new) elem true)) w := hp.cong (by simp) (by simp) (fun _ h => h)
        have := grown_ok (cap := cap) (m := Builtin.append_ ts ty #[.slice (some ⟨(ρ b).1, o, none⟩) len cap, x']) hp' hlr hi hzs hsz (len := len + n) hol hlen (hr.trans (by rw [arr3]))
        have hfs : freshSlice (s1.read b) (Nat.add len n) = freshSlice (s1.read b) (len + n) := rfl
        rw [hfs]
        exact this.cong (by simp) (by simp)
  · cases h
end
end Go.Ev
