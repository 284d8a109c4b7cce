/- A lemma text of the proof that what the evaluator answers holds of every run of the model. No condition beyond those that each theorem states. -/
import Derived.Test.YtbefibijhfgkdaaGreatDoorSM
import Derived.Orders
namespace Go.Ev
open Go
set_option linter.unusedSimpArgs false
set_option linter.unusedVariables false
/-- A region whose order is drawn: no select; an operation waits only for earlier ones, for its guard among them; and two operations of which neither waits for the other are apart. -/
def relOkG (ops : Array Oper) : Bool :=
  Region.noSelect ops && (List.range ops.size).all fun j => match ops[j]? with
    | none => true
    | some oj => (match oj.guard with
        | none => true
        | some (g, _) => oj.after.any fun e => Region.binds .any e && e.on == g) && (oj.after.all fun e => !Region.binds .any e || decide (e.on < j)) &&
      (List.range j).all fun i => match ops[i]? with
        | none => true
        | some oi => (oj.after.any fun e => Region.binds .any e && e.on == i) || oi.apart ops oj
/-- The frame behind the operations 'has' of the first k. -/
def lay (ops : Array Oper) (a0 : Act) (has : Nat → Bool) (vals : Nat → Value) : Nat → Act
  | 0 => a0
  | k + 1 => if has k then (lay ops a0 has vals k).put ((ops[k]?).bind (·.dst)) (vals k) else lay ops a0 has vals k

theorem put_size (a : Act) (d : Option Tmp) (v : Value) : (a.put d v).tmps.size = a.tmps.size := by cases d <;> simp [Act.put]
theorem lay_size (ops : Array Oper) (a0 : Act) (has : Nat → Bool) (vals : Nat → Value) (k : Nat) : (lay ops a0 has vals k).tmps.size = a0.tmps.size := by
  induction k with
  | zero => rfl
  | succ k ih => unfold lay; split <;> simp [put_size, ih]
theorem lay_congr (ops : Array Oper) (a0 : Act) {has has' : Nat → Bool} {vals vals' : Nat → Value} (k : Nat) (h : ∀ j, j < k → has j = has' j) (hv : ∀ j, j < k → has j = true → vals j = vals' j) : lay ops a0 has vals k = lay ops a0 has' vals' k := by
  induction k with
  | zero => rfl
  | succ k ih =>
    unfold lay
    rw [ih (fun j hj => h j (by omega)) (fun j hj => hv j (by omega)), ← h k (by omega)]
    split
    · rename_i hk; rw [hv k (by omega) hk]
    · rfl

theorem lay_ins (ops : Array Oper) (a0 : Act) {has : Nat → Bool} {vals : Nat → Value} {i : Nat} (v : Value) (hi : has i = false) (n : Nat) (hn : i < n)
    (hd : ∀ j, i < j → j < n → has j = true → ∀ d, (ops[i]?).bind (·.dst) = some d → (ops[j]?).bind (·.dst) ≠ some d) :
    lay ops a0 (fun j => if j = i then true else has j) (fun j => if j = i then v else vals j) n = (lay ops a0 has vals n).put ((ops[i]?).bind (·.dst)) v := by
  induction n with
  | zero => omega
  | succ n ih =>
    unfold lay
    rcases Nat.lt_or_ge i n with h | h
    · rw [ih h (fun j h1 h2 => hd j h1 (by omega))]
      have hne : n ≠ i := by omega
      simp only [hne, if_false]
      split
      · rename_i hk
        rw [Act.put_comm _ _ _ (hd n h (by omega) hk)]
      · rfl
    · have : n = i := by omega
      subst this
      simp only [if_true, hi, Bool.false_eq_true, if_false]
      rw [lay_congr ops a0 n (has' := has) (vals' := vals) (fun j hj => by have : j ≠ n := by omega
                                                                           simp [this]) (fun j hj _ => by have : j ≠ n := by omega
                                                                                                          simp [this])]

theorem eval_put_same {a b : Act} (d : Option Tmp) (v : Value) (x : Operand) (hs : a.tmps.size = b.tmps.size) (h : a.eval x = b.eval x) : (a.put d v).eval x = (b.put d v).eval x := by
  cases d with
  | none => exact h
  | some d =>
    cases x with
    | tmp t =>
      simp only [Act.eval, Act.put, Array.getD_eq_getD_getElem?, Array.getElem?_setIfInBounds] at h ⊢
      by_cases hdt : d = t
      · subst hdt
        simp only [if_true, hs]
      · simp only [if_neg hdt]; exact h
    | _ => rfl

/-- What an operation looks at is the same in the frame at hand and in the frame of the lexical order. -/
theorem lay_eval (ops : Array Oper) (a0 : Act) {has : Nat → Bool} {vals : Nat → Value} (i : Nat) (x : Operand) (n : Nat)
    (h1 : ∀ j, j < i → has j = false → ∀ d, (ops[j]?).bind (·.dst) = some d → x ≠ .tmp d)
    (h2 : ∀ j, i ≤ j → has j = true → ∀ d, (ops[j]?).bind (·.dst) = some d → x ≠ .tmp d) :
    (lay ops a0 has vals n).eval x = (lay ops a0 (fun _ => true) vals (min n i)).eval x := by
  induction n with
  | zero => simp [lay]
  | succ n ih =>
    rcases Nat.lt_or_ge n i with h | h
    · rw [Nat.min_eq_left (by omega)] at ih
      rw [Nat.min_eq_left (by omega)]
      unfold lay
      simp only [if_true]
      by_cases hh : has n = true
      · rw [if_pos hh]
        exact eval_put_same _ _ _ (by rw [lay_size, lay_size]) ih
      · rw [if_neg hh, Act.eval_put (h1 n h (by simpa using hh))]
        exact ih
    · rw [Nat.min_eq_right (by omega)] at ih
      rw [Nat.min_eq_right (by omega)]
      conv => lhs; unfold lay
      by_cases hh : has n = true
      · rw [if_pos hh, Act.eval_put (h2 n h hh)]
        exact ih
      · rw [if_neg hh]
        exact ih

theorem put_same {a b : Act} {d : Option Tmp} {v v' : Value} (hs : a.tmps.size = b.tmps.size) (h : b.put d v = b.put d v') : a.put d v = a.put d v' := by
  cases d with
  | none => rfl
  | some d =>
    simp only [Act.put] at h ⊢
    by_cases hd : d < b.tmps.size
    · have h3 := congrArg (fun c => c.tmps[d]?) h
      simp [hd] at h3
      rw [h3]
    · have e : ∀ u : Value, a.tmps.setIfInBounds d u = a.tmps := fun u => Array.setIfInBounds_eq_of_size_le (by rw [hs]; exact Nat.le_of_not_lt hd)
      rw [e, e]

/-- An operation that has been walked in one frame, in another that looks the same to it. -/
theorem wp_at {P : Program} {o : Oper} {a b : Act} {u : World} {R : Value → World → Prop} {Q : Exit → Act → World → Prop} (hs : a.tmps.size = b.tmps.size) (he : execOp a.eval o = execOp b.eval o)
    (h : o.wp P b u (fun b' w' => ∃ v, b' = b.put o.dst v ∧ R v w') (fun _ _ _ => False)) : o.wp P a u (fun a' w' => ∃ v, a' = a.put o.dst v ∧ R v w') Q := by
  unfold Oper.wp at *
  rw [he]
  generalize (execOp b.eval o).run P u = r at *
  cases r with
  | ok n w' =>
    cases n with
    | value v => obtain ⟨v', h1, h2⟩ := h; exact ⟨v', put_same hs h1, h2⟩
    | skip => obtain ⟨v', h1, h2⟩ := h; exact ⟨v', put_same hs h1, h2⟩
    | defer d =>
      obtain ⟨v', h1, _⟩ := h
      have := congrArg (fun a => a.defers.length) h1
      cases hd : o.dst <;> simp [Act.put, hd] at this
    | enter f args =>
      refine Calls.mono h fun e w'' he => ?_
      cases e with
      | returned v => obtain ⟨v', h1, h2⟩ := he; exact ⟨v', put_same hs h1, h2⟩
      | panicked c => exact he.elim
      | outgrown => obtain ⟨_, _, hf⟩ := he; exact hf.elim
    | row f args => exact Rows.mono h fun v w'' ⟨v', h1, h2⟩ => ⟨v', put_same hs h1, h2⟩
    | _ => exact h.elim
  | halt x w' =>
    cases x with
    | panic v => exact h.elim
    | _ => exact h.elim

theorem countP_lt {α : Type} {p q : α → Bool} : ∀ {L : List α}, (∀ x, q x = true → p x = true) → (∃ x ∈ L, p x = true ∧ q x = false) → L.countP q < L.countP p
  | [], _, ⟨x, hx, _⟩ => by simp at hx
  | y :: L, h, ⟨x, hx, hp, hq⟩ => by
    have hle : L.countP q ≤ L.countP p := List.countP_mono_left fun x _ => h x
    simp only [List.countP_cons]
    rcases List.mem_cons.1 hx with rfl | hx
    · simp [hp, hq]; omega
    · have := countP_lt (L := L) h ⟨x, hx, hp, hq⟩
      by_cases hy : q y = true
      · simp [hy, h y hy]; omega
      · simp [hy]; split <;> omega


theorem relOkG_spec {ops : Array Oper} (h : relOkG ops = true) : Region.noSelect ops = true ∧ ∀ j oj, ops[j]? = some oj →
    (∀ e ∈ oj.after, Region.binds .any e = true → e.on < j) ∧
    (∀ i oi, i < j → ops[i]? = some oi → (∃ e ∈ oj.after, Region.binds .any e = true ∧ e.on = i) ∨ oi.apart ops oj = true) ∧
    (∀ g b, oj.guard = some (g, b) → ∃ e ∈ oj.after, Region.binds .any e = true ∧ e.on = g) := by
  unfold relOkG at h
  rw [Bool.and_eq_true] at h
  refine ⟨h.1, fun j oj hj => ?_⟩
  have hlt : j < ops.size := (Array.getElem?_eq_some_iff.1 hj).1
  have h2 := (List.all_eq_true.1 h.2) j (List.mem_range.2 hlt)
  simp only [hj, Bool.and_eq_true] at h2
  obtain ⟨⟨hg, ha⟩, hw⟩ := h2
  refine ⟨fun e he hb => ?_, fun i oi hij hi => ?_, fun g b hgb => ?_⟩
  · have := Array.all_eq_true_iff_forall_mem.1 ha e he
    simpa [hb] using this
  · have := (List.all_eq_true.1 hw) i (List.mem_range.2 hij)
    simp only [hi, Bool.or_eq_true] at this
    rcases this with h | h
    · obtain ⟨e, he, hb⟩ := Array.any_eq_true'.1 h
      simp only [Bool.and_eq_true, beq_iff_eq] at hb
      exact .inl ⟨e, he, hb.1, hb.2⟩
    · exact .inr h
  · rw [hgb] at hg
    obtain ⟨e, he, hb⟩ := Array.any_eq_true'.1 hg
    simp only [Bool.and_eq_true, beq_iff_eq] at hb
    exact ⟨e, he, hb.1, hb.2⟩

theorem get_of_getD {a b : Array Value} {d : Nat} (hs : a.size = b.size) (h : a.getD d undef = b.getD d undef) : a[d]? = b[d]? := by
  rcases Nat.lt_or_ge d a.size with h1 | h1
  · have h2 : d < b.size := by omega
    rw [Array.getElem?_eq_getElem h1, Array.getElem?_eq_getElem h2]
    simpa [h1, h2] using h
  · rw [Array.getElem?_eq_none h1, Array.getElem?_eq_none (by omega)]
def Closed (ops : Array Oper) (L : Nat → Bool) : Prop := ∀ j oj, ops[j]? = some oj → L j = true → ∀ e ∈ oj.after, Region.binds .any e = true → L e.on = true
def upd {α : Type} (L : Nat → α) (i : Nat) (x : α) : Nat → α := fun j => if j = i then x else L j

section
variable {P : Program} {ops : Array Oper} {Q : Exit → Act → World → Prop} {a0 : Act}

theorem wpAny_inv (hok : relOkG ops = true) (Inv : (Nat → Bool) → (Nat → Value) → World → Prop)
    (hstep : ∀ (L : Nat → Bool) (vals : Nat → Value) (w : World) (i : Nat) (o : Oper), ops[i]? = some o → L i = false → (∀ e ∈ o.after, Region.binds .any e = true → L e.on = true) → Closed ops L → (∀ j, L j = true → j < ops.size) → Inv L vals w →
      (Region.wanted o (yielded ops (lay ops a0 (fun _ => true) vals i).tmps) = true → o.wp P (lay ops a0 (fun _ => true) vals i) w (fun a' w' => ∃ v, a' = (lay ops a0 (fun _ => true) vals i).put o.dst v ∧ Inv (upd L i true) (upd vals i v) w') (fun _ _ _ => False)) ∧
      (Region.wanted o (yielded ops (lay ops a0 (fun _ => true) vals i).tmps) = false → Inv (upd L i true) (upd vals i undef) w))
    (hend : ∀ (L : Nat → Bool) (vals : Nat → Value) (w : World), (∀ i, i < ops.size → L i = true) → Inv L vals w → Q .normal (lay ops a0 (fun _ => true) vals ops.size) w) :
    ∀ (fuel : Nat) (listed : Array Bool) (vals : Nat → Value) (u : World), listed.size = ops.size → Closed ops (fun i => listed.getD i false) → Inv (fun i => listed.getD i false) vals u →
      (List.range ops.size).countP (fun i => !listed.getD i false) ≤ fuel →
      wpAny P .any ops Q fuel listed (lay ops a0 (fun i => listed.getD i false) vals ops.size) u := by
  obtain ⟨hns, hspec⟩ := relOkG_spec hok
  have done : ∀ (listed : Array Bool) (vals : Nat → Value) (u : World), Inv (fun i => listed.getD i false) vals u → (∀ i, i < ops.size → listed.getD i false = true) →
      Q .normal (lay ops a0 (fun i => listed.getD i false) vals ops.size) u := fun listed vals u hI hall => by
    rw [lay_congr ops a0 (has' := fun _ => true) (vals' := vals) ops.size (fun j hj => hall j hj) (fun _ _ _ => rfl)]
    exact hend _ vals u hall hI
  have getDtf : ∀ (listed : Array Bool) (i : Nat), i < listed.size → listed.getD i true = listed.getD i false := fun listed i hi => by simp [hi]
  have hin : ∀ (listed : Array Bool), listed.size = ops.size → ∀ k, listed.getD k false = true → k < ops.size := fun listed hs k hk => by
    rcases Nat.lt_or_ge k listed.size with h | h
    · omega
    · simp [Array.getElem?_eq_none h] at hk
  intro fuel
  induction fuel with
  | zero =>
    intro listed vals u hsz hcl hI hc
    have hall : ∀ i, i < ops.size → listed.getD i false = true := fun i hi => by
      have h0 : (List.range ops.size).countP (fun i => !listed.getD i false) = 0 := by omega
      have := List.countP_eq_zero.1 h0 i (List.mem_range.2 hi)
      simpa using this
    refine ⟨?_, done listed vals u hI hall⟩
    cases hr : Region.ready .any ops listed with
    | nil => rfl
    | cons x xs =>
      have hx : x ∈ Region.ready .any ops listed := by rw [hr]; simp
      obtain ⟨h0, o, ho, _⟩ := mem_ready.1 hx
      have hlt : x < ops.size := (Array.getElem?_eq_some_iff.1 ho).1
      have h1 := hall x hlt
      rw [getDtf listed x (by omega)] at h0
      rw [h0] at h1
      cases h1
  | succ fuel ih =>
    intro listed vals u hsz hcl hI hc
    refine ⟨fun hr => done listed vals u hI ?_, fun i hi => ?_⟩
    · intro i
      induction i using Nat.strongRecOn with
      | ind i ihi =>
        intro hlt
        cases hl : listed.getD i false with
        | true => rfl
        | false =>
          have hm : i ∈ Region.ready .any ops listed := by
            rw [mem_ready]
            refine ⟨by rw [getDtf listed i (by omega)]; exact hl, ops[i], Array.getElem?_eq_getElem hlt, fun e he hbd => ?_⟩
            have h1 := (hspec i _ (Array.getElem?_eq_getElem hlt)).1 e he hbd
            exact ihi e.on h1 (by omega)
          rw [hr] at hm
          cases hm
    · obtain ⟨h0, o, ho, hafter⟩ := mem_ready.1 hi
      have hlt : i < ops.size := (Array.getElem?_eq_some_iff.1 ho).1
      have hun : listed.getD i false = false := by rw [← getDtf listed i (by omega)]; exact h0
      obtain ⟨hbefore, hwait, hguard⟩ := hspec i o ho
      have hst := hstep (fun i => listed.getD i false) vals u i o ho hun hafter hcl (hin listed hsz) hI
      have hsel := Region.noSelect_spec hns
      have hlook : ∀ d, d ∈ o.looksAt ops → (lay ops a0 (fun i => listed.getD i false) vals ops.size).eval (.tmp d) = (lay ops a0 (fun _ => true) vals i).eval (.tmp d) := fun d0 hd0 => by
        have key := lay_eval ops a0 (has := fun i => listed.getD i false) (vals := vals) i (.tmp d0) ops.size ?_ ?_
        · rw [Nat.min_eq_right (by omega)] at key; exact key
        · intro j hj hju d hd hxd
          cases hoj : ops[j]? with
          | none => simp [hoj] at hd
          | some oj =>
            simp only [hoj, Option.bind_some] at hd
            rcases hwait j oj hj hoj with ⟨e, he, hbd, hon⟩ | hap
            · have := hafter e he hbd
              rw [hon] at this
              rw [this] at hju
              cases hju
            · refine (Oper.apart_spec hap).1 d hd ?_
              cases hxd
              exact hd0
        · intro j hj hju d hd hxd
          have hne : j ≠ i := fun e => by rw [e, hun] at hju; cases hju
          cases hoj : ops[j]? with
          | none => simp [hoj] at hd
          | some oj =>
            simp only [hoj, Option.bind_some] at hd
            rcases (hspec j oj hoj).2.1 i o (by omega) ho with ⟨e, he, hbd, hon⟩ | hap
            · have : listed.getD e.on false = true := hcl j oj hoj hju e he hbd
              rw [hon, hun] at this
              cases this
            · refine (Oper.apart_spec hap).2.2 d hd ?_
              cases hxd
              exact hd0
      have he : execOp (lay ops a0 (fun i => listed.getD i false) vals ops.size).eval o = execOp (lay ops a0 (fun _ => true) vals i).eval o := by
        refine execOp_congr o (fun cs b => hsel i o cs b ho) fun x hx => ?_
        cases x with
        | tmp t => exact hlook t (List.mem_append_left _ (List.mem_filterMap.2 ⟨.tmp t, by simpa using hx, rfl⟩))
        | _ => rfl
      have hwant : Region.wanted o (yielded ops (lay ops a0 (fun i => listed.getD i false) vals ops.size).tmps) = Region.wanted o (yielded ops (lay ops a0 (fun _ => true) vals i).tmps) := by
        unfold Region.wanted
        cases hg : o.guard with
        | none => rfl
        | some p =>
          obtain ⟨g, b⟩ := p
          simp only
          congr 1
          unfold yielded
          cases hd : (ops[g]?).bind (·.dst) with
          | none => rfl
          | some d =>
            have h1 := hlook d (by
              unfold Oper.looksAt
              refine List.mem_append_right _ ?_
              rw [hg]
              simp only [hd]
              simp)
            simp only [Option.bind_some]
            have hsz2 : (lay ops a0 (fun i => listed.getD i false) vals ops.size).tmps.size = (lay ops a0 (fun _ => true) vals i).tmps.size := by rw [lay_size, lay_size]
            have h2 : (lay ops a0 (fun i => listed.getD i false) vals ops.size).tmps[d]? = (lay ops a0 (fun _ => true) vals i).tmps[d]? := by
              exact get_of_getD hsz2 h1
            rw [h2]
      have hget : ∀ j, (listed.setIfInBounds i true).getD j false = if j = i then true else listed.getD j false := fun j => by
        by_cases hji : j = i
        · subst hji; simp [hsz, hlt]
        · simp only [hji, if_false]; exact getD_set_ne false (Ne.symm hji)
      have hfun : upd (fun j => listed.getD j false) i true = fun j => (listed.setIfInBounds i true).getD j false := funext fun j => (hget j).symm
      have hins : ∀ v, lay ops a0 (fun j => (listed.setIfInBounds i true).getD j false) (upd vals i v) ops.size = (lay ops a0 (fun i => listed.getD i false) vals ops.size).put o.dst v := fun v => by
        have hli := lay_ins ops a0 (has := fun i => listed.getD i false) (vals := vals) (i := i) v hun ops.size hlt (fun j hij hjn hjl d hd => by
          simp only [ho, Option.bind_some] at hd
          cases hoj : ops[j]? with
          | none => simp
          | some oj =>
            simp only [Option.bind_some]
            rcases (hspec j oj hoj).2.1 i o hij ho with ⟨e, he, hbd, hon⟩ | hap
            · have : listed.getD e.on false = true := hcl j oj hoj hjl e he hbd
              rw [hon, hun] at this
              cases this
            · exact (Oper.apart_spec hap).2.1 d hd)
        simp only [ho, Option.bind_some] at hli
        rw [← hli, ← hfun]
        rfl
      have hcl2 : Closed ops (fun j => (listed.setIfInBounds i true).getD j false) := fun j oj hoj hj e he hbd => by
        show (listed.setIfInBounds i true).getD e.on false = true
        rw [hget]
        by_cases hon : e.on = i
        · simp [hon]
        · rw [if_neg hon]
          by_cases hji : j = i
          · subst hji
            rw [ho] at hoj; cases hoj
            exact hafter e he hbd
          · have hj2 : (listed.setIfInBounds i true).getD j false = true := hj
            rw [hget, if_neg hji] at hj2
            exact hcl j oj hoj hj2 e he hbd
      have hcount : (List.range ops.size).countP (fun j => !(listed.setIfInBounds i true).getD j false) ≤ fuel := by
        have := countP_lt (p := fun i => !listed.getD i false) (q := fun j => !(listed.setIfInBounds i true).getD j false) (L := List.range ops.size) (fun x hx => by
          rw [hget] at hx
          by_cases hxi : x = i
          · simp [hxi] at hx
          · simpa [hxi] using hx) ⟨i, List.mem_range.2 hlt, by simp only [hun]; rfl, by simp only [hget, if_true]; rfl⟩
        omega
      unfold wpOp
      simp only [ho]
      rw [hwant]
      by_cases hw : Region.wanted o (yielded ops (lay ops a0 (fun _ => true) vals i).tmps) = true
      · rw [if_pos hw]
        refine .inl ?_
        refine Oper.wp_mono (fun a' w' ⟨v, ha, hI'⟩ => ?_) (wp_at (Q := Q) (by rw [lay_size, lay_size]) he (hst.1 hw))
        subst ha
        rw [← hins v]
        rw [hfun] at hI'
        exact ih _ _ w' (by simpa using hsz) hcl2 hI' hcount
      · rw [if_neg hw]
        rw [← hins undef]
        have hI' := hst.2 (by simpa using hw)
        rw [hfun] at hI'
        exact ih _ _ u (by simpa using hsz) hcl2 hI' hcount

theorem wp_region_inv {id : Nat} {W : World} (hm : P.follows .mixedOrders = true) (hok : relOkG ops = true) (Inv : (Nat → Bool) → (Nat → Value) → World → Prop)
    (hstep : ∀ (L : Nat → Bool) (vals : Nat → Value) (w : World) (i : Nat) (o : Oper), ops[i]? = some o → L i = false → (∀ e ∈ o.after, Region.binds .any e = true → L e.on = true) → Closed ops L → (∀ j, L j = true → j < ops.size) → Inv L vals w →
      (Region.wanted o (yielded ops (lay ops a0 (fun _ => true) vals i).tmps) = true → o.wp P (lay ops a0 (fun _ => true) vals i) w (fun a' w' => ∃ v, a' = (lay ops a0 (fun _ => true) vals i).put o.dst v ∧ Inv (upd L i true) (upd vals i v) w') (fun _ _ _ => False)) ∧
      (Region.wanted o (yielded ops (lay ops a0 (fun _ => true) vals i).tmps) = false → Inv (upd L i true) (upd vals i undef) w))
    (hend : ∀ (L : Nat → Bool) (vals : Nat → Value) (w : World), (∀ i, i < ops.size → L i = true) → Inv L vals w → Q .normal (lay ops a0 (fun _ => true) vals ops.size) w)
    (h0 : Inv (fun _ => false) (fun _ => undef) W.drew) : (Code.region id ops true).wp P Q a0 W := by
  refine wp_region_any hm ?_
  have hz0 : ∀ i, (Array.replicate ops.size false).getD i false = false := fun i => by by_cases h : i < ops.size <;> simp [h]
  have hf : (fun i => (Array.replicate ops.size false).getD i false) = fun _ => false := funext hz0
  have := wpAny_inv hok Inv hstep hend ops.size (Array.replicate ops.size false) (fun _ => undef) W.drew (by simp) (by rw [hf]; intro j oj _ h; cases h) (by rw [hf]; exact h0) (by
    refine Nat.le_trans (List.countP_le_length) (by simp))
  have hlz : ∀ k, lay ops a0 (fun i => (Array.replicate ops.size false).getD i false) (fun _ => undef) k = a0 := fun k => by
    induction k with
    | zero => rfl
    | succ k ih =>
      unfold lay
      rw [if_neg (by rw [hz0]; decide), ih]
  rw [hlz] at this
  exact this
end
end Go.Ev
