/- A lemma text of the proof that what the evaluator answers holds of every run of the model. No condition beyond those that each theorem states. -/
import Derived.Test.YtbefibijhfgkdaaGreatDoorE2
namespace Go.Ev
open Go
set_option linter.unusedSimpArgs false
set_option linter.unusedVariables false

section
variable {α β : Type}
@[simp] theorem bo_true (x y : α) : bo true x y = x := rfl
@[simp] theorem bo_false (x y : α) : bo false x y = y := rfl
theorem bo_eq (b : Bool) (x y : α) : bo b x y = if b then x else y := by cases b <;> rfl
@[simp] theorem ob_some (a : α) (k : α → Option β) : ob (some a) k = k a := rfl
@[simp] theorem ob_none (k : α → Option β) : ob (none : Option α) k = none := rfl
theorem ob_eq {o : Option α} {k : α → Option β} {r : β} (h : ob o k = some r) : ∃ a, o = some a ∧ k a = some r := by
  cases o with
  | none => cases h
  | some a => exact ⟨a, rfl, h⟩
theorem chk_eq {b : Bool} {k : Option β} {r : β} (h : chk b k = some r) : b = true ∧ k = some r := by
  cases b with
  | false => cases h
  | true => exact ⟨rfl, h⟩
theorem bo_none {b : Bool} {x : Option β} {r : β} (h : bo b x none = some r) : b = true ∧ x = some r := by
  cases b with
  | false => cases h
  | true => exact ⟨rfl, h⟩
@[simp] theorem T.now_eq (t : T α) (k : T α → β) : t.now k = k t := by cases t <;> rfl
@[simp] theorem nowN_eq (n : Nat) (k : Nat → β) : nowN n k = k n := by cases n <;> rfl
@[simp] theorem nowI_eq (n : Int) (k : Int → β) : nowI n k = k n := by cases n <;> simp [nowI]
@[simp] theorem nowB_eq (n : Bool) (k : Bool → β) : nowB n k = k n := by cases n <;> rfl
@[simp] theorem nowP_eq (a : Option Addr) (k : Option Addr → β) : nowP a k = k a := by
  unfold nowP; split <;> simp
@[simp] theorem nowS_eq (a : Option Addr) (l c : Nat) (k : Value → β) : nowS a l c k = k (.slice a l c) := by simp [nowS]
@[simp] theorem nowV_eq (v : Value) (k : Value → β) : nowV v k = k v := by unfold nowV; split <;> simp

theorem T.get_nil (n : Nat) : (T.nil : T α).get n = none := rfl
theorem T.get_node (v : Option α) (l r : T α) (n : Nat) : (T.node v l r).get n = if n = 0 then v else if n % 2 = 1 then l.get (n / 2) else r.get (n / 2 - 1) := by
  have h : (T.node v l r).get n = bo (Nat.beq n 0) v (bo (Nat.beq (n % 2) 1) (l.get (n / 2)) (r.get (Nat.pred (n / 2)))) := rfl
  rw [h, bo_eq, bo_eq]
  simp only [Nat.beq_eq, Nat.pred_eq_sub_one]
theorem T.set_succ (d : Nat) (t : T α) (n : Nat) (x : Option α) :
    T.set (d + 1) t n x = match t with
      | .nil => if n = 0 then .node x .nil .nil else if n % 2 = 1 then .node none (T.set d .nil (n / 2) x) .nil else .node none .nil (T.set d .nil (n / 2 - 1) x)
      | .node v l r => if n = 0 then .node x l r else if n % 2 = 1 then .node v (T.set d l (n / 2) x) r else .node v l (T.set d r (n / 2 - 1) x) := by
  cases t with
  | nil =>
    have h : T.set (d + 1) (T.nil : T α) n x = bo (Nat.beq n 0) (.node x .nil .nil) (bo (Nat.beq (n % 2) 1) ((T.set d .nil (n / 2) x).now fun l => .node none l .nil) ((T.set d .nil (Nat.pred (n / 2)) x).now fun r => .node none .nil r)) := rfl
    rw [h, bo_eq, bo_eq]
    simp only [Nat.beq_eq, Nat.pred_eq_sub_one, T.now_eq]
  | node v l r =>
    have h : T.set (d + 1) (T.node v l r) n x = bo (Nat.beq n 0) (.node x l r) (bo (Nat.beq (n % 2) 1) ((T.set d l (n / 2) x).now fun l => .node v l r) ((T.set d r (Nat.pred (n / 2)) x).now fun r => .node v l r)) := rfl
    rw [h, bo_eq, bo_eq]
    simp only [Nat.beq_eq, Nat.pred_eq_sub_one, T.now_eq]
theorem T.get_set (d : Nat) : ∀ (t : T α) (n m : Nat) (x : Option α), n + 1 < 2 ^ d → (T.set d t n x).get m = if m = n then x else t.get m := by
  induction d with
  | zero => intro t n m x h; simp at h
  | succ d ih =>
    intro t n m x h
    have hl : n % 2 = 1 → n / 2 + 1 < 2 ^ d := fun _ => by rw [Nat.pow_succ] at h; omega
    have hr : ¬ n = 0 → ¬ n % 2 = 1 → n / 2 - 1 + 1 < 2 ^ d := fun _ _ => by rw [Nat.pow_succ] at h; omega
    rw [T.set_succ]
    cases t with
    | nil =>
      simp only
      by_cases h0 : n = 0
      · simp only [h0, if_true, T.get_node, T.get_nil]; split <;> simp
      · simp only [h0, if_false]
        by_cases h1 : n % 2 = 1
        · simp only [h1, if_true, T.get_node, T.get_nil]
          rw [ih _ _ _ _ (hl h1)]
          simp only [T.get_nil]
          repeat' split
          all_goals first | rfl | omega
        · simp only [h1, if_false, T.get_node, T.get_nil]
          rw [ih _ _ _ _ (hr h0 h1)]
          simp only [T.get_nil]
          repeat' split
          all_goals first | rfl | omega
    | node v l r =>
      simp only
      by_cases h0 : n = 0
      · simp only [h0, if_true, T.get_node]
        repeat' split
        all_goals first | rfl | omega
      · simp only [h0, if_false]
        by_cases h1 : n % 2 = 1
        · simp only [h1, if_true, T.get_node]
          rw [ih _ _ _ _ (hl h1)]
          repeat' split
          all_goals first | rfl | omega
        · simp only [h1, if_false, T.get_node]
          rw [ih _ _ _ _ (hr h0 h1)]
          repeat' split
          all_goals first | rfl | omega

@[simp] theorem lenL_eq (l : List α) : lenL l = l.length := by
  induction l with
  | nil => rfl
  | cons x xs ih => exact congrArg Nat.succ ih
@[simp] theorem nthL_eq (l : List α) : ∀ n, nthL l n = l[n]? := by
  induction l with
  | nil => intro n; simp [nthL]
  | cons x xs ih =>
    intro n
    cases n with
    | zero => rfl
    | succ n => exact (ih n).trans (by simp)
@[simp] theorem takeL_eq (n : Nat) : ∀ l : List α, takeL n l = l.take n := by
  induction n with
  | zero => intro l; show ([] : List α) = l.take 0; simp
  | succ n ih => intro l; cases l with
    | nil => rfl
    | cons x xs => exact congrArg (x :: ·) (ih xs)
@[simp] theorem dropL_eq (n : Nat) : ∀ l : List α, dropL n l = l.drop n := by
  induction n with
  | zero => intro l; show l = l.drop 0; simp
  | succ n ih => intro l; cases l with
    | nil => rfl
    | cons x xs => exact ih xs
@[simp] theorem mapL_eq (f : α → β) (l : List α) : mapL f l = l.map f := by
  induction l with
  | nil => rfl
  | cons x xs ih => exact congrArg (f x :: ·) ih
end

@[simp] theorem dropN_eq (n : Nat) : ∀ l : List Value, dropN n l = l.drop n := by
  induction n with
  | zero => intro l; show l = l.drop 0; simp
  | succ n ih => intro l; cases l with
    | nil => rfl
    | cons x xs => exact ih xs
theorem takeN_eq (n : Nat) : ∀ l : List Value, takeN n l = if n ≤ l.length then some (l.take n) else none := by
  induction n with
  | zero => intro l; show some [] = _; simp
  | succ n ih => intro l; cases l with
    | nil => simp [takeN]
    | cons x xs =>
      have h : takeN (n + 1) (x :: xs) = ob (takeN n xs) fun r => some (x :: r) := rfl
      rw [h, ih xs]
      by_cases hn : n ≤ xs.length <;> simp [hn]
theorem takeN_some {n : Nat} {l r : List Value} (h : takeN n l = some r) : n ≤ l.length ∧ r = l.take n := by
  rw [takeN_eq] at h
  split at h
  · exact ⟨‹_›, by simpa using h.symm⟩
  · cases h
theorem putN_eq (vs : List Value) : ∀ l : List Value, putN vs l = if vs.length ≤ l.length then some (vs ++ l.drop vs.length) else none := by
  induction vs with
  | nil => intro l; show some l = _; simp
  | cons v vs ih => intro l; cases l with
    | nil => simp [putN]
    | cons x xs =>
      have h : putN (v :: vs) (x :: xs) = ob (putN vs xs) fun r => some (v :: r) := rfl
      rw [h, ih xs]
      by_cases hn : vs.length ≤ xs.length <;> simp [hn]
theorem putAt_some (n : Nat) (vs : List Value) : ∀ {l r : List Value}, putAt n vs l = some r → n + vs.length ≤ l.length ∧ r = l.take n ++ vs ++ l.drop (n + vs.length) := by
  induction n with
  | zero =>
    intro l r h
    have h' : putN vs l = some r := h
    rw [putN_eq] at h'
    split at h'
    · have h2 := Option.some.inj h'
      subst h2
      exact ⟨by omega, by simp⟩
    · cases h'
  | succ n ih =>
    intro l r h
    cases l with
    | nil => cases h
    | cons x xs =>
      have h' : ob (putAt n vs xs) (fun r => some (x :: r)) = some r := h
      obtain ⟨a, ha, hr⟩ := ob_eq h'
      obtain ⟨h1, h2⟩ := ih ha
      simp at hr
      refine ⟨by simp; omega, ?_⟩
      have e : n + 1 + vs.length = (n + vs.length) + 1 := by omega
      rw [← hr, h2, e, List.take_succ_cons, List.drop_succ_cons, List.cons_append, List.cons_append]
theorem cellsL_eq (v : Value) : cellsL v = v.cells.toList := by
  unfold cellsL Value.cells
  split <;> simp_all
theorem flats_iff (l : List Value) : flats l = true ↔ ∀ v ∈ l, flat v = true := by
  induction l with
  | nil => simp [flats]
  | cons x xs ih =>
    have h : flats (x :: xs) = bo (flat x) (flats xs) false := rfl
    rw [h, bo_eq]
    by_cases hx : flat x = true <;> simp [hx, ih]
end Go.Ev
