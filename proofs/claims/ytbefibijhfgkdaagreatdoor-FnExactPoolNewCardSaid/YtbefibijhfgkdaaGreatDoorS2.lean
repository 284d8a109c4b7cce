/- A lemma text of the proof that what the evaluator answers holds of every run of the model. No condition beyond those that each theorem states. -/
import Derived.Test.YtbefibijhfgkdaaGreatDoorS1
namespace Go.Ev
open Go
set_option linter.unusedSimpArgs false
set_option linter.unusedVariables false

theorem lt_pow (n : Nat) : n + 1 + 1 < 2 ^ (n + 1 + 1) := @Nat.lt_two_pow_self (n + 1 + 1)
theorem T.get_put {α : Type} (t : T α) (n m : Nat) (x : Option α) : (T.set (Nat.succ n) t n x).get m = if m = n then x else t.get m := by
  cases n with
  | zero =>
    rw [show Nat.succ 0 = 0 + 1 from rfl, T.set_succ]
    cases t <;> simp only [T.get_node, T.get_nil, if_true] <;> (repeat' split) <;> first | rfl | omega | simp_all
  | succ n => exact T.get_set _ _ _ _ _ (lt_pow n)
theorem in_or (a b c : Nat) : In (a ||| bit b) c ↔ In a c ∨ c = b := by
  have h : (a ||| bit b) = a ||| (1 <<< b) := rfl
  simp only [In, h, Nat.testBit_or, Nat.testBit_shiftLeft, Bool.or_eq_true, Bool.and_eq_true, decide_eq_true_eq]
  constructor
  · rintro (h | ⟨h1, h2⟩)
    · exact .inl h
    · right
      have : c - b = 0 := by
        rcases Nat.eq_zero_or_pos (c - b) with h | h
        · exact h
        · rw [Nat.testBit_one_eq_true_iff_self_eq_zero] at h2; exact h2
      omega
  · rintro (h | rfl)
    · exact .inl h
    · right; simp
theorem in_lor (a b c : Nat) : In (a ||| b) c ↔ In a c ∨ In b c := by
  simp only [In, Nat.testBit_or, Bool.or_eq_true]
section
variable (s : St) (b : Nat)
@[simp] theorem read_heap : (s.read b).heap = s.heap := by cases s; simp [St.read]
@[simp] theorem read_next : (s.read b).next = s.next := by cases s; simp [St.read]
@[simp] theorem read_wr : (s.read b).wr = s.wr := by cases s; simp [St.read]
@[simp] theorem read_acc : (s.read b).acc = s.acc ||| bit b := by cases s; simp [St.read]
@[simp] theorem put_get (o : Option AObj) (c : Nat) : (s.put b o).heap.get c = if c = b then o else s.heap.get c := by cases s; simp [St.put, T.get_put]
@[simp] theorem put_next (o : Option AObj) : (s.put b o).next = s.next := by cases s; simp [St.put]
@[simp] theorem put_wr (o : Option AObj) : (s.put b o).wr = s.wr ||| bit b := by cases s; simp [St.put]
@[simp] theorem put_acc (o : Option AObj) : (s.put b o).acc = s.acc ||| bit b := by cases s; simp [St.put]
@[simp] theorem new_get (o : AObj) (c : Nat) : (s.new o).heap.get c = if c = s.next then some o else s.heap.get c := by cases s; simp [St.new, T.get_put]
@[simp] theorem new_next (o : AObj) : (s.new o).next = s.next + 1 := by cases s; simp [St.new]
@[simp] theorem new_wr (o : AObj) : (s.new o).wr = s.wr ||| bit s.next := by cases s; simp [St.new]
@[simp] theorem new_acc (o : AObj) : (s.new o).acc = s.acc ||| bit s.next := by cases s; simp [St.new]
end

theorem Grows.refl (s : St) : Grows s s := ⟨Nat.le_refl _, fun _ h => h, fun _ h => h, fun b h1 h2 => by omega, fun h => h, fun _ _ _ => rfl, fun h => h⟩
theorem Grows.trans {a b c : St} (h : Grows a b) (k : Grows b c) : Grows a c :=
  ⟨Nat.le_trans h.next k.next, fun i hi => k.acc i (h.acc i hi), fun i hi => k.wr i (h.wr i hi), fun i h1 h2 => by
    rcases Nat.lt_or_ge i b.next with h3 | h3
    · exact k.wr i (h.made i h1 h3)
    · exact k.made i h3 h2, fun hs => k.sub (h.sub hs), fun i hi hw => by
      rw [k.kept i (Nat.lt_of_lt_of_le hi h.next) hw, h.kept i hi fun h' => hw (k.wr i h')], fun ha => k.above (h.above ha)⟩
theorem Grows.read (s : St) (b : Nat) : Grows s (s.read b) :=
  ⟨by simp, fun i hi => by simp only [read_acc, in_or]; exact Or.inl hi, fun i hi => by simpa using hi, fun i h1 h2 => by simp at h2; omega, fun hs i hi => by simp only [read_acc, read_wr, in_or] at hi ⊢; exact Or.inl (hs i hi), fun i _ _ => by simp, fun h => by simpa using h⟩
theorem Grows.put (s : St) (b : Nat) (o : Option AObj) (hb : s.heap.get b ≠ none) : Grows s (s.put b o) :=
  ⟨by simp, fun i hi => by simp only [put_acc, in_or]; exact Or.inl hi, fun i hi => by simp only [put_wr, in_or]; exact Or.inl hi, fun i h1 h2 => by simp at h2; omega, fun hs i hi => by simp only [put_acc, put_wr, in_or] at hi ⊢; exact hi.imp (hs i) id,
    fun i hi hw => by rw [put_get, if_neg]; rintro rfl; exact hw (by rw [put_wr]; exact (in_or _ _ _).2 (.inr rfl)),
    fun h i hi => by rw [put_next] at hi; rw [put_get, if_neg]; · exact h i hi
                     · rintro rfl; exact hb (h _ hi)⟩
theorem Grows.mk_new (s : St) (o : AObj) : Grows s (s.new o) :=
  ⟨by simp, fun i hi => by simp only [new_acc, in_or]; exact Or.inl hi, fun i hi => by simp only [new_wr, in_or]; exact Or.inl hi, fun i h1 h2 => by simp only [new_next, new_wr, in_or] at h2 ⊢; exact Or.inr (by omega), fun hs i hi => by simp only [new_acc, new_wr, in_or] at hi ⊢; exact hi.imp (hs i) id,
    fun i hi hw => by rw [new_get, if_neg (by omega)],
    fun h i hi => by rw [new_next] at hi; rw [new_get, if_neg (by omega)]; exact h i (by omega)⟩

section
variable {P : Program} {X A : Nat → Prop} {ρ ρ1 ρ2 : Rho} {s s1 s2 : St} {w w1 w2 : World}
theorem StateR.mono {g : Nat → Option AObj} {B : Nat → Prop} (h : StateR P X A ρ g w) (hA : ∀ i, A i → B i) (hρ : ∀ i, A i → ρ2 i = ρ i) : StateR P X B ρ2 g w := by
  refine ⟨fun b o hx hg => ?_, fun b b' o o' hx hx' hg hg' e => ?_⟩
  · obtain ⟨h1, x, h2, h3⟩ := h.obj b o hx hg
    refine ⟨hA b h1, x, by rw [hρ b h1]; exact h2, ?_⟩
    rw [hρ b h1]; exact h3.mono hA hρ
  · rw [hρ b (h.obj b o hx hg).1, hρ b' (h.obj b' o' hx' hg').1] at e
    exact h.inj b b' o o' hx hx' hg hg' e
theorem StateR.sub {g : Nat → Option AObj} {Y : Nat → Prop} (h : StateR P X A ρ g w) (hY : ∀ i, Y i → X i) : StateR P Y A ρ g w :=
  ⟨fun b o hx hg => h.obj b o (hY b hx) hg, fun b b' o o' hx hx' hg hg' e => h.inj b b' o o' (hY b hx) (hY b' hx') hg hg' e⟩
theorem StateR.lt {g : Nat → Option AObj} (h : StateR P X A ρ g w) {b : Nat} {o : AObj} (hx : X b) (hg : g b = some o) : (ρ b).1 < w.heap.size := by
  obtain ⟨_, x, h2, _⟩ := h.obj b o hx hg
  exact (Array.getElem?_eq_some_iff.1 h2).1
/-- Nothing happened to the heap (but perhaps to the world's draws). -/
theorem Good.same' (hst : StateR P X A ρ s.heap.get w) (hfr : ∀ b, s.next ≤ b → s.heap.get b = none) (hn : s1.next = s.next) (hg : s1.heap = s.heap) (hw : w1.heap = w.heap) (ho : w1.os = w.os) (ht : w1.tape = w.tape) (hp : w1.output = w.output) : Good P X A ρ s s1 w w1 ρ := by
  refine ⟨by omega, fun _ _ => rfl, ?_, ⟨ho, ht, hp, by rw [hw]; exact Nat.le_refl _, fun r _ _ => by rw [hw]⟩, fun b _ h => by rw [hg] at h; exact h, fun b h1 h2 => by omega, fun b _ _ => by rw [hg], fun b hb => by rw [hg]; exact hfr b (by omega)⟩
  rw [hg]
  refine ⟨fun b o hx hb => ?_, hst.inj⟩
  obtain ⟨h1, x, h2, h3⟩ := hst.obj b o hx hb
  exact ⟨.inl h1, x, by rw [hw]; exact h2, h3.mono (fun i hi => .inl hi) (fun _ _ => rfl)⟩
theorem Good.refl (hst : StateR P X A ρ s.heap.get w) (hfr : ∀ b, s.next ≤ b → s.heap.get b = none) : Good P X A ρ s s w w ρ := Good.same' hst hfr rfl rfl rfl rfl rfl rfl

theorem Good.trans (hX : ∀ b, In s2.acc b → X b) (hg1 : Grows s s1) (hg2 : Grows s1 s2) (hA : ∀ i, A i → i < s.next) (h : Good P X A ρ s s1 w w1 ρ1) (k : Good P X (SetAdd A s.next s1.next) ρ1 s1 s2 w1 w2 ρ2) : Good P X A ρ s s2 w w2 ρ2 := by
  have hset : ∀ i, SetAdd (SetAdd A s.next s1.next) s1.next s2.next i → SetAdd A s.next s2.next i := by
    rintro i ((h1 | ⟨h1, h2⟩) | ⟨h1, h2⟩)
    · exact .inl h1
    · exact .inr ⟨h1, Nat.lt_of_lt_of_le h2 hg2.next⟩
    · exact .inr ⟨Nat.le_trans hg1.next h1, h2⟩
  refine ⟨Nat.le_trans hg1.next hg2.next, fun i hi => ?_, k.state.mono hset (fun _ _ => rfl), ?_, fun b hb h2 => ?_, fun b h1 h2 h3 => ?_, fun b hb hw => ?_, k.above⟩
  · rw [k.same i fun h' => hi ⟨Nat.le_trans hg1.next h'.1, h'.2⟩, h.same i fun h' => hi ⟨h'.1, Nat.lt_of_lt_of_le h'.2 hg2.next⟩]
  · refine ⟨k.frame.os.trans h.frame.os, k.frame.tape.trans h.frame.tape, k.frame.output.trans h.frame.output, Nat.le_trans h.frame.size k.frame.size, fun r hr ht => ?_⟩
    rw [k.frame.block r (Nat.lt_of_lt_of_le hr h.frame.size) ?_, h.frame.block r hr ?_]
    · rintro ⟨b, o, hb, hx, ho, e⟩
      exact ht ⟨b, o, hg2.wr b hb, hx, ho, e⟩
    · rintro ⟨b, o, hb, hx, ho, e⟩
      rcases Nat.lt_or_ge b s.next with hlt | hge
      · have h3 := h.old b hlt (by rw [ho]; simp)
        obtain ⟨o', ho'⟩ := Option.ne_none_iff_exists'.1 h3
        exact ht ⟨b, o', hb, hx, ho', by rw [← e, h.same b (by omega)]⟩
      · rcases Nat.lt_or_ge b s1.next with hlt2 | hge2
        · rcases h.fresh b hge hlt2 (by rw [ho]; simp) with h3 | ⟨c, o', hc, hxc, hoc, h3⟩
          · omega
          · exact ht ⟨c, o', hg2.wr c hc, hxc, hoc, by rw [← e, h3]⟩
        · rw [h.above b hge2] at ho; cases ho
  · rcases Option.ne_none_iff_exists'.1 (k.old b (Nat.lt_of_lt_of_le hb hg1.next) h2) with ⟨o, ho⟩
    exact h.old b hb (by rw [ho]; simp)
  · rcases Nat.lt_or_ge b s1.next with hlt | hge
    · have h4 := k.old b hlt h3
      rw [k.same b (by omega)]
      rcases h.fresh b h1 hlt h4 with h5 | ⟨c, o, hc, hxc, hoc, h5⟩
      · exact .inl h5
      · exact .inr ⟨c, o, hg2.wr c hc, hxc, hoc, h5⟩
    · rcases k.fresh b hge h2 h3 with h5 | ⟨c, o, hc, hxc, hoc, h5⟩
      · exact .inl (Nat.le_trans h.frame.size h5)
      · rcases Nat.lt_or_ge c s.next with hlt | hge'
        · obtain ⟨o', ho'⟩ := Option.ne_none_iff_exists'.1 (h.old c hlt (by rw [hoc]; simp))
          exact .inr ⟨c, o', hc, hxc, ho', by rw [h5, h.same c (by omega)]⟩
        · rcases Nat.lt_or_ge c s1.next with hlt2 | hge2
          · rcases h.fresh c hge' hlt2 (by rw [hoc]; simp) with h6 | ⟨c', o', hc', hxc', hoc', h6⟩
            · exact .inl (by rw [h5]; exact h6)
            · exact .inr ⟨c', o', hg2.wr c' hc', hxc', hoc', by rw [h5, h6]⟩
          · rw [h.above c hge2] at hoc; cases hoc
  · rw [k.kept b (Nat.lt_of_lt_of_le hb hg1.next) hw, h.kept b hb fun h' => hw (hg2.wr b h')]
end
end Go.Ev
