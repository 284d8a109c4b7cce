/- A lemma text of the proof that what the evaluator answers holds of every run of the model. No condition beyond those that each theorem states. -/
import Derived.Test.YtbefibijhfgkdaaGreatDoorS5
import Derived.Lib.SmallJoins
namespace Go.Ev
open Go
set_option linter.unusedSimpArgs false
set_option linter.unusedVariables false

theorem iLt_eq (a b : Int) : iLt a b = decide (a < b) := by
  unfold iLt
  split
  · rename_i x y; rw [Bool.eq_iff_iff]; simp [Nat.succ_le_iff]
  · rename_i x y; simp only [Bool.false_eq, decide_eq_false_iff_not, Int.ofNat_eq_natCast]; omega
  · rename_i x y; simp only [Bool.true_eq, decide_eq_true_eq, Int.ofNat_eq_natCast]; omega
  · rename_i x y; rw [Bool.eq_iff_iff]; simp only [Nat.ble_eq, decide_eq_true_eq]; omega
theorem iEq_eq (a b : Int) : iEq a b = (a == b) := by
  unfold iEq
  split
  · rename_i x y; rw [Bool.eq_iff_iff]; simp only [Nat.beq_eq, beq_iff_eq, Int.ofNat_eq_natCast]; omega
  · rename_i x y; rw [Bool.eq_iff_iff]; simp
  · rename_i h1 h2
    rw [Bool.eq_iff_iff]
    simp only [Bool.false_eq_true, beq_iff_eq, false_iff]
    rintro rfl
    cases a with
    | ofNat x => exact h1 x x rfl rfl
    | negSucc x => exact h2 x x rfl rfl
theorem wrapV_eq (k : IntKind) (n : Int) : wrapV k n = k.wrap n := by
  unfold wrapV
  split
  · rename_i m
    rw [bo_eq]
    split
    · rename_i h
      simp only [Nat.ble_eq] at h
      cases k <;> simp [half, IntKind.wrap, IntKind.bits, IntKind.signed] at h ⊢ <;> omega
    · rfl
  · rfl
theorem kindEq_eq {k j : IntKind} (h : kindEq k j = true) : k = j := by
  cases k <;> cases j <;> first | rfl | (exact absurd h (by decide))
theorem bytesEq_eq (x : List UInt8) : ∀ y, bytesEq x y = (x == y) := by
  induction x with
  | nil => intro y; cases y <;> rfl
  | cons a x ih => intro y; cases y with
    | nil => rfl
    | cons b y =>
      have h : bytesEq (a :: x) (b :: y) = bo (Nat.beq a.toNat b.toNat) (bytesEq x y) false := rfl
      rw [h, ih, bo_eq, Bool.eq_iff_iff]
      simp [UInt8.toNat_inj]
theorem bytesLt_eq (x : List UInt8) : ∀ y, bytesLt x y = Op.bytesLess x y := by
  induction x with
  | nil => intro y; cases y <;> simp [Op.bytesLess] <;> rfl
  | cons a x ih => intro y; cases y with
    | nil => simp [Op.bytesLess]; rfl
    | cons b y =>
      have h : bytesLt (a :: x) (b :: y) = bo (Nat.ble (Nat.succ a.toNat) b.toNat) true (bo (Nat.beq a.toNat b.toNat) (bytesLt x y) false) := rfl
      rw [h, ih, bo_eq, bo_eq]
      simp only [Op.bytesLess, Nat.ble_eq, Nat.beq_eq, Nat.succ_le_iff, ← UInt8.lt_iff_toNat_lt, UInt8.toNat_inj]
      rw [Bool.eq_iff_iff]
      by_cases h1 : a < b <;> by_cases h2 : a = b <;> simp [h1, h2]
theorem toList_data (s : ByteArray) : s.toList = s.data.toList := ByteArray.toList_eq s

section
variable {E : Env} {P : Program} {X A : Nat → Prop} {ρ : Rho} {s s' : St} {w : World} {v v' x y x' y' : Value}
theorem bo_not {β : Type} {b : Bool} {x : Option β} {r : β} (h : bo b none x = some r) : b = false ∧ x = some r := by
  cases b with
  | true => cases h
  | false => exact ⟨rfl, h⟩
theorem intOp_ok {op : BinOp} {k : IntKind} {a b : Int} (h : intOp op k a b = some v) (t : TypeId) (w : World) : (binOp op t (.int k a) (.int k b)).run P w = .ok v w ∧ ∀ ρ, vmap ρ v = v := by
  cases op <;> simp only [intOp, Option.some.injEq, reduceCtorEq] at h
  case quo =>
    obtain ⟨h0, h⟩ := bo_not h
    rw [iEq_eq] at h0
    simp only [Option.some.injEq] at h; subst h
    have h1 : b ≠ 0 := by simpa using h0
    exact ⟨by simp [binOp, Op.intDiv, wrapV_eq, h1], fun ρ => by simp⟩
  case rem =>
    obtain ⟨h0, h⟩ := bo_not h
    rw [iEq_eq] at h0
    simp only [Option.some.injEq] at h; subst h
    have h1 : b ≠ 0 := by simpa using h0
    exact ⟨by simp [binOp, Op.intDiv, wrapV_eq, h1], fun ρ => by simp⟩
  case xor =>
    unfold xorV at h
    split at h
    · rename_i m n
      obtain ⟨h0, h⟩ := chk_eq h
      simp only [Option.some.injEq] at h; subst h
      simp only [Bool.and_eq_true, Nat.ble_eq] at h0
      refine ⟨?_, fun ρ => by simp⟩
      have hm : m < 2 ^ 8 := by omega
      have hn : n < 2 ^ 8 := by omega
      have hx : (BitVec.ofInt 8 (Int.ofNat m) ^^^ BitVec.ofInt 8 (Int.ofNat n)).toNat = m ^^^ n := by
        rw [BitVec.toNat_xor]
        have e1 : (BitVec.ofInt 8 (Int.ofNat m)).toNat = m := by
          rw [show (Int.ofNat m) = ((m : Nat) : Int) from rfl, BitVec.ofInt_natCast, BitVec.toNat_ofNat, Nat.mod_eq_of_lt hm]
        have e2 : (BitVec.ofInt 8 (Int.ofNat n)).toNat = n := by
          rw [show (Int.ofNat n) = ((n : Nat) : Int) from rfl, BitVec.ofInt_natCast, BitVec.toNat_ofNat, Nat.mod_eq_of_lt hn]
        rw [e1, e2]
      have hlt : m ^^^ n < 2 ^ 8 := Nat.xor_lt_two_pow hm hn
      simp only [binOp, Op.intBits, IntKind.bits, Sem.run_pure, Result.ok.injEq, Value.int.injEq, true_and, and_true, ne_eq, not_true_eq_false, if_false, ite_false]
      show IntKind.u8.wrap ((((BitVec.ofInt 8 (Int.ofNat m)) ^^^ (BitVec.ofInt 8 (Int.ofNat n)) : BitVec 8).toNat : Nat) : Int) = ((m ^^^ n : Nat) : Int)
      rw [hx]
      generalize m ^^^ n = z at hlt ⊢
      simp [IntKind.wrap, IntKind.bits, IntKind.signed]
      omega
    · cases h
  all_goals
    subst h
    refine ⟨?_, fun ρ => by simp⟩
    first
      | (simp [binOp, Op.intArith, Op.intCmp, wrapV_eq]; done)
      | (simp [binOp, Op.intArith, Op.intCmp, iLt_eq, iEq_eq]; done)
      | (simp only [binOp, Op.intCmp, iLt_eq, iEq_eq, ne_eq, not_true, if_false, ite_false, Sem.run_pure, Result.ok.injEq, and_true, Value.bool.injEq]; rw [Bool.eq_iff_iff]; simp; done)
      | (simp [binOp, Op.intArith, Op.intCmp, wrapV_eq]; rfl)
theorem strOp_ok {op : BinOp} {a b : List UInt8} (h : strOp op a b = some v) (t : TypeId) (w : World) : (binOp op t (.string ⟨⟨a⟩⟩) (.string ⟨⟨b⟩⟩)).run P w = .ok v w ∧ ∀ ρ, vmap ρ v = v := by
  cases op <;> simp only [strOp, Option.some.injEq, reduceCtorEq] at h
  case add =>
    obtain ⟨h0, h⟩ := chk_eq h
    simp only [Option.some.injEq] at h
    subst h
    refine ⟨?_, fun ρ => by simp⟩
    have hsz : ¬ (IntKind.max .i64 < (((⟨⟨a⟩⟩ : ByteArray).size + (⟨⟨b⟩⟩ : ByteArray).size : Nat) : Int)) := by
      have h1 : a.length + b.length ≤ 1000000000 := by simpa using h0
      have h2 : (⟨⟨a⟩⟩ : ByteArray).size = a.length := rfl
      have h3 : (⟨⟨b⟩⟩ : ByteArray).size = b.length := rfl
      simp only [IntKind.max, IntKind.signed, IntKind.bits, h2, h3]
      simp; omega
    have happ : ((⟨⟨a⟩⟩ : ByteArray) ++ (⟨⟨b⟩⟩ : ByteArray)) = ⟨⟨a ++ b⟩⟩ := by
      rw [ByteArray.mk_append_mk]
      try rfl
    simp only [binOp, Op.stringOp, gt_iff_lt, if_neg hsz, happ, Sem.run_pure]
  all_goals
    subst h
    refine ⟨?_, fun ρ => by simp⟩
    simp [binOp, Op.stringOp, toList_data, bytesEq_eq, bytesLt_eq]
theorem eqOp_ok {op : BinOp} {r : Option Bool} (h : eqOp op r = some v) : ∃ b, r = some b ∧ ((op = .eql ∧ v = .bool b) ∨ (op = .neq ∧ v = .bool !b)) := by
  unfold eqOp at h
  split at h
  · obtain ⟨b, h1, h2⟩ := ob_eq h; exact ⟨b, h1, .inl ⟨rfl, by simpa using h2.symm⟩⟩
  · obtain ⟨b, h1, h2⟩ := ob_eq h; exact ⟨b, h1, .inr ⟨rfl, by simpa using h2.symm⟩⟩
  · cases h
theorem cellsEq_cons (x y : Value) (xs ys : List Value) : cellsEq (x :: xs) (y :: ys) = ob (cellEq x y) fun e => ob (cellsEq xs ys) fun r => some (bo e r false) := rfl
theorem cellsEq_nil : cellsEq [] [] = some true := rfl
theorem cellEq_ground {b : Bool} (h : cellEq x y = some b) : (∀ ρ, vmap ρ x = x) ∧ (∀ ρ, vmap ρ y = y) := by
  unfold cellEq at h
  split at h
  · exact ⟨fun ρ => by simp, fun ρ => by simp⟩
  · exact ⟨fun ρ => by simp, fun ρ => by simp⟩
  · exact ⟨fun ρ => by simp, fun ρ => by simp⟩
  · cases h
theorem cellsEq_ground (xs : List Value) : ∀ (ys : List Value) (r : Bool), cellsEq xs ys = some r → (∀ ρ, xs.map (vmap ρ) = xs) ∧ (∀ ρ, ys.map (vmap ρ) = ys) := by
  induction xs with
  | nil => intro ys r h; cases ys with
    | nil => simp
    | cons y ys => cases h
  | cons x xs ih =>
    intro ys r h
    cases ys with
    | nil => cases h
    | cons y ys =>
      rw [cellsEq_cons] at h
      obtain ⟨e, he, h1⟩ := ob_eq h
      obtain ⟨r', h2, h3⟩ := ob_eq h1
      obtain ⟨g1, g2⟩ := cellEq_ground he
      obtain ⟨g3, g4⟩ := ih _ _ h2
      exact ⟨fun ρ => by rw [List.map_cons, g1, g3], fun ρ => by rw [List.map_cons, g2, g4]⟩
theorem kindsOk_cons (v : Value) (xs : List Value) (k : Nat) (ks : List Nat) : kindsOk (v :: xs) (k :: ks) = bo (Nat.beq (kindC v) k) (bo (Nat.ble k 2) (kindsOk xs ks) false) false := rfl
theorem kindsOk_step {v : Value} {xs : List Value} {k : Nat} {ks : List Nat} (h : kindsOk (v :: xs) (k :: ks) = true) : kindC v = k ∧ k ≤ 2 ∧ kindsOk xs ks = true := by
  rw [kindsOk_cons, bo_eq, bo_eq] at h
  split at h
  · rename_i h1
    split at h
    · rename_i h2
      exact ⟨by simpa using h1, by simpa using h2, h⟩
    · cases h
  · cases h
theorem kindC_int {v : Value} (h : kindC v = 0) : ∃ n, v = .int .i64 n := by
  unfold kindC at h
  split at h
  · exact ⟨_, rfl⟩
  all_goals cases h
theorem kindC_str {v : Value} (h : kindC v = 1) : ∃ z, v = .string ⟨⟨z⟩⟩ := by
  unfold kindC at h
  split at h
  · cases h
  · rename_i s; obtain ⟨⟨z⟩⟩ := s; exact ⟨z, rfl⟩
  all_goals cases h
theorem kindC_bool {v : Value} (h : kindC v = 2) : ∃ b, v = .bool b := by
  unfold kindC at h
  split at h
  · cases h
  · cases h
  · exact ⟨_, rfl⟩
  · cases h
theorem kindsOk_ground : ∀ (xs : List Value) (ks : List Nat), kindsOk xs ks = true → ∀ ρ, xs.map (vmap ρ) = xs
  | [], _, _, ρ => rfl
  | v :: xs, [], h, ρ => by cases h
  | v :: xs, k :: ks, h, ρ => by
    obtain ⟨h1, h2, h3⟩ := kindsOk_step h
    rw [List.map_cons, kindsOk_ground xs ks h3 ρ]
    have : k = 0 ∨ k = 1 ∨ k = 2 := by omega
    rcases this with h | h | h
    · obtain ⟨n, rfl⟩ := kindC_int (h1.trans h); simp
    · obtain ⟨n, rfl⟩ := kindC_str (h1.trans h); simp
    · obtain ⟨n, rfl⟩ := kindC_bool (h1.trans h); simp
theorem eqOk_mem (t : Nat) (xs : List Value) : ∀ l : List (TypeId × List Nat), eqOk t xs l = true → ∃ ks, (t, ks) ∈ l ∧ kindsOk xs ks = true
  | [], h => by cases h
  | p :: r, h => by
    have h2 : bo (bo (Nat.beq t p.1) (kindsOk xs p.2) false) true (eqOk t xs r) = true := h
    rw [bo_eq] at h2
    split at h2
    · rename_i h3
      rw [bo_eq] at h3
      split at h3
      · rename_i h4
        have : t = p.1 := by simpa using h4
        exact ⟨p.2, by rw [this]; exact List.mem_cons_self .., h3⟩
      · cases h3
    · obtain ⟨ks, h5, h6⟩ := eqOk_mem t xs r h2
      exact ⟨ks, List.mem_cons_of_mem _ h5, h6⟩
theorem eqOk_ground {t : Nat} {xs : List Value} {l : List (TypeId × List Nat)} (h : eqOk t xs l = true) : ∀ ρ, xs.map (vmap ρ) = xs := by
  obtain ⟨ks, _, h2⟩ := eqOk_mem t xs l h
  exact kindsOk_ground xs ks h2
theorem binOp_eql {t : TypeId} {x y : Value} {b : Bool} (hx : ∀ k n, x ≠ .int k n) (hf : ∀ k n, x ≠ .float k n) (hc : ∀ k m n, x ≠ .complex k m n) (hs : ∀ s, x ≠ .string s) (h : (Op.equal t x y).run P w = .ok b w) :
    (binOp .eql t x y).run P w = .ok (.bool b) w ∧ (binOp .neq t x y).run P w = .ok (.bool !b) w := by
  unfold binOp
  constructor <;> split <;> simp_all
theorem eqGuard_none (op : BinOp) (t : TypeId) (ox oy : Operand) {x y : Value} (hn : ¬ (x = .nilIface ∧ y = .nilIface)) (ha : ∀ a b, ¬ (x = .agg a ∧ y = .agg b)) : (eqGuard op t ox oy x y).run P w = .ok () w := by
  unfold eqGuard
  cases op <;> simp only [Bool.not_true, Bool.not_false, Bool.false_eq_true, if_false, if_true, ite_false, ite_true] <;> first | rfl | skip
  all_goals
    split
    · exact absurd ⟨rfl, rfl⟩ hn
    · exact absurd ⟨rfl, rfl⟩ (ha _ _)
    · rfl
theorem equal_ok (hE : EnvOk E P) {t : TypeId} {d : TypeDesc} {b : Bool} (hd : und E t = some d) (h : eqV E d x y = some b) (hx : VR A ρ x x') (hy : VR A ρ y y') (w : World) : (Op.equal t x' y').run P w = .ok b w := by
  have hu := und_ok hE hd
  unfold Op.equal Op.maxDepth
  unfold Op.equalIn
  simp only [Sem.run_bind, run_underlying hu, Result.andThen_ok]
  unfold eqV at h
  split at h
  · rw [hx.unbool, hy.unbool]; simpa using h
  · have := hx.self; simp only [vmap_ptr0] at this; subst this
    rename_i a
    have hy' := hy.self
    rw [← hy']
    cases a with
    | none => simpa using h
    | some a => obtain ⟨b, o, s⟩ := a; simp only [vmap_ptr]; simpa using h
  · rename_i a
    obtain ⟨b, o, s⟩ := a
    rw [hx.unptr]
    have hy' := hy.self; simp only [vmap_ptr0] at hy'; subst hy'
    simpa using h
  · obtain ⟨n, hn, h⟩ := ob_eq h
    obtain ⟨h1, h3⟩ := chk_eq h
    clear h
    have hb := Option.some.inj h3
    clear h3
    rw [Bool.and_eq_true] at h1
    obtain ⟨h1, h2⟩ := h1
    have e1 := Nat.eq_of_beq_eq_true h1
    have e2 := Nat.eq_of_beq_eq_true h2
    subst e1 e2 hb
    rw [hx.unptr, hy.unptr]
    simp only [Sem.run_bind, run_sizeOf hE hn, Result.andThen_ok]
    split
    · simp [sameAddr]
    · simp
  · have := hx.unslice0; subst this
    rename_i a l2 c2
    cases a with
    | none => have := hy.unslice0; subst this; simpa using h
    | some a => obtain ⟨b, o, s⟩ := a; rw [hy.unslice]; simpa using h
  · rename_i a l1 c1 l2 c2
    obtain ⟨b, o, s⟩ := a
    rw [hx.unslice, hy.unslice0]
    simpa using h
  · have h1 := hx.self; have h2 := hy.self; simp only [vmap_nilFunc] at h1 h2; subst h1 h2; simpa using h
  · have h1 := hx.self; simp only [vmap_nilFunc] at h1; subst h1
    rename_i fn f c
    obtain ⟨f⟩ := f; obtain ⟨c⟩ := c
    obtain ⟨f', c', rfl, _, _⟩ := hy.unfunc
    simpa using h
  · have h1 := hy.self; simp only [vmap_nilFunc] at h1; subst h1
    rename_i fn f c
    obtain ⟨f⟩ := f; obtain ⟨c⟩ := c
    obtain ⟨f', c', rfl, _, _⟩ := hx.unfunc
    simpa using h
  · cases h
end
end Go.Ev
