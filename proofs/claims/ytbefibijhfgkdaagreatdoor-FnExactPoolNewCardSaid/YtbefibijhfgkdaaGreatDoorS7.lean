/- A lemma text of the proof that what the evaluator answers holds of every run of the model. No condition beyond those that each theorem states. -/
import Derived.Test.YtbefibijhfgkdaaGreatDoorS6
namespace Go.Ev
open Go
set_option linter.unusedSimpArgs false
set_option linter.unusedVariables false
section
variable {E : Env} {P : Program} {X A : Nat → Prop} {ρ : Rho} {s s' : St} {w : World} {v v' x y x' y' : Value}

theorem eqGuard_iface (op : BinOp) (t : TypeId) {ox oy : Operand} (hc : (isC ox || isC oy) = true) (w : World) : (eqGuard op t ox oy .nilIface .nilIface).run P w = .ok () w := by
  cases ox <;> cases oy <;> first
    | (cases op <;> (simp [eqGuard]; done))
    | (simp [isC] at hc; done)
def odd (x : Value) : Bool := match x with
  | .bool _ => true
  | .pointer _ => true
  | .slice .. => true
  | .func .. => true
  | .nilFunc => true
  | _ => false
theorem odd_vmap (ρ : Rho) (v : Value) : odd (vmap ρ v) = odd v := by
  cases v <;> try (simp [vmap, odd]; done)
  · rename_i a; cases a <;> simp [vmap, odd]
  · rename_i a l c; cases a <;> simp [vmap, odd]
  · rename_i a; cases a <;> simp [vmap, odd]
theorem eqV_odd {d : TypeDesc} {b : Bool} (h : eqV E d x y = some b) : odd x = true := by
  unfold eqV at h
  split at h <;> first | rfl | (cases h; done)
theorem binV_ok (hE : EnvOk E P) {op : BinOp} {t : TypeId} {ox oy : Operand} (h : binV E op t (isC ox || isC oy) x y = some v) (hx : VR A ρ x x') (hy : VR A ρ y y') (w : World) :
    ∃ v', (do eqGuard op t ox oy x' y'; binOp op t x' y').run P w = .ok v' w ∧ VR A ρ v v' := by
  simp only [Sem.run_bind]
  unfold binV at h
  split at h
  · rename_i k a k' b
    rw [bo_eq] at h
    split at h
    · rw [hx.unint, hy.unint, eqGuard_none op t ox oy (by simp) (by simp)]
      have hb : bitsN k = k.bits := by cases k <;> rfl
      have hmin : ∀ m : Nat, minN m (bitsN k) = min m k.bits := fun m => by
        unfold minN
        rw [bo_eq, hb]
        simp only [Nat.ble_eq]
        split <;> omega
      unfold shV at h
      split at h
      · rename_i m n _
        have := Option.some.inj h; subst this
        refine ⟨_, ?_, VR.int _ _⟩
        simp only [Result.andThen_ok, binOp, Op.shift]
        have h0 : ¬ (Int.ofNat n < 0) := by simp
        rw [if_neg h0, hmin]
        simp only [Sem.run_pure]
        congr 2
        show Int.fdiv (Int.ofNat m) (2 ^ (min (Int.toNat (Int.ofNat n)) k.bits)) = _
        have e1 : (2 : Int) ^ (min (Int.toNat (Int.ofNat n)) k.bits) = ((2 ^ (min n k.bits) : Nat) : Int) := by
          simp
        rw [e1]
        show Int.fdiv ((m : Nat) : Int) _ = ((Nat.shiftRight m (min n k.bits) : Nat) : Int)
        rw [Int.fdiv_eq_ediv_of_nonneg _ (Int.natCast_nonneg _), ← Int.natCast_ediv]
        congr 1
        exact (Nat.shiftRight_eq_div_pow m _).symm
      · rename_i m n _
        have := Option.some.inj h; subst this
        refine ⟨_, ?_, VR.int _ _⟩
        simp only [Result.andThen_ok, binOp, Op.shift]
        have h0 : ¬ (Int.ofNat n < 0) := by simp
        rw [if_neg h0, hmin, wrapV_eq]
        simp only [Sem.run_pure]
        congr 3
        have e1 : (2 : Int) ^ (min (Int.toNat (Int.ofNat n)) k.bits) = ((2 ^ (min n k.bits) : Nat) : Int) := by
          simp
        rw [e1]
        show ((m : Nat) : Int) * ((2 ^ (min n k.bits) : Nat) : Int) = ((Nat.shiftLeft m (min n k.bits) : Nat) : Int)
        rw [← Int.natCast_mul]
        congr 1
        exact (Nat.shiftLeft_eq m _).symm
      · cases h
    obtain ⟨h1, h0⟩ := bo_none h
    clear h
    have := kindEq_eq h1; subst this
    rw [hx.unint, hy.unint]
    obtain ⟨h2, h3⟩ := intOp_ok (P := P) h0 t w
    rw [eqGuard_none op t ox oy (by simp) (by simp)]
    exact ⟨v, h2, VR.ground h3⟩
  · rename_i a b
    rw [hx.unstr, hy.unstr]
    obtain ⟨h2, h3⟩ := strOp_ok (P := P) h t w
    rw [eqGuard_none op t ox oy (by simp) (by simp)]
    exact ⟨v, h2, VR.ground h3⟩
  · obtain ⟨hc, h⟩ := chk_eq h
    obtain ⟨d, hd, h⟩ := ob_eq h
    obtain ⟨hi, h⟩ := chk_eq h
    have hx' := hx.self; have hy' := hy.self
    simp only [vmap_nilIface] at hx' hy'
    subst hx' hy'
    have hu := und_ok hE hd
    have hg := eqGuard_iface (P := P) op t hc w
    have he : (Op.equal t .nilIface .nilIface).run P w = .ok true w := by
      unfold Op.equal Op.maxDepth Op.equalIn
      simp only [Sem.run_bind, run_underlying hu, Result.andThen_ok]
      cases d <;> simp_all [isIface]
    rw [hg]
    obtain ⟨b, hb, h⟩ := eqOp_ok h
    simp only [Option.some.injEq] at hb
    subst hb
    obtain ⟨h1, h2⟩ := binOp_eql (P := P) (w := w) (t := t) (x := .nilIface) (y := .nilIface) (by simp) (by simp) (by simp) (by simp) he
    rcases h with ⟨rfl, rfl⟩ | ⟨rfl, rfl⟩
    · exact ⟨_, h1, VR.bool _⟩
    · exact ⟨_, h2, VR.bool _⟩
  · rename_i xs ys
    obtain ⟨hq, h⟩ := chk_eq h
    obtain ⟨b, hb, h⟩ := eqOp_ok h
    obtain ⟨h1, h2⟩ := cellsEq_ground _ _ _ hb
    obtain ⟨xs', rfl, hxs⟩ := hx.unagg
    obtain ⟨ys', rfl, hys⟩ := hy.unagg
    have e1 := hxs.self; rw [h1] at e1; subst e1
    have e2 := hys.self; rw [h2] at e2; subst e2
    obtain ⟨h4, h5⟩ := hE.eqs _ _ hq ys b hb w
    rw [h5 op ox oy]
    obtain ⟨h6, h7⟩ := binOp_eql (P := P) (w := w) (t := t) (by simp) (by simp) (by simp) (by simp) h4
    rcases h with ⟨rfl, rfl⟩ | ⟨rfl, rfl⟩
    · exact ⟨_, h6, VR.bool _⟩
    · exact ⟨_, h7, VR.bool _⟩
  · obtain ⟨d, hd, h⟩ := ob_eq h
    obtain ⟨b, hb, h⟩ := eqOp_ok h
    have he := equal_ok hE hd hb hx hy w
    have hodd : odd x' = true := by rw [← hx.self, odd_vmap]; exact eqV_odd hb
    have hsh : (∀ k n, x' ≠ .int k n) ∧ (∀ k n, x' ≠ .float k n) ∧ (∀ k m n, x' ≠ .complex k m n) ∧ (∀ s, x' ≠ .string s) ∧ x' ≠ .nilIface ∧ (∀ a, x' ≠ .agg a) := by
      refine ⟨?_, ?_, ?_, ?_, ?_, ?_⟩ <;> intros <;> rintro rfl <;> cases hodd
    obtain ⟨s1, s2, s3, s4, s5, s6⟩ := hsh
    rw [eqGuard_none op t ox oy (fun hh => s5 hh.1) (fun a b hh => s6 a hh.1)]
    obtain ⟨h6, h7⟩ := binOp_eql (P := P) (w := w) (t := t) s1 s2 s3 s4 he
    rcases h with ⟨rfl, rfl⟩ | ⟨rfl, rfl⟩
    · exact ⟨_, h6, VR.bool _⟩
    · exact ⟨_, h7, VR.bool _⟩
end
end Go.Ev
