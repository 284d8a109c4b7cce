/- A lemma text of the proof that what the evaluator answers holds of every run of the model. No condition beyond those that each theorem states. -/
import Derived.Test.YtbefibijhfgkdaaGreatDoorSE
namespace Go.Ev
open Go
set_option linter.unusedSimpArgs false
set_option linter.unusedVariables false
section
variable {E : Env} {P : Program} {X A : Nat → Prop} {ρ : Rho} {s s' : St} {w w' : World} {v v' x y x' y' : Value}

theorem appendV_ok (hE : EnvOk E P) {ts : List TypeId} (h : appendV E s ts x y = some (v, s')) : Grows s s' ∧ ∀ X A ρ w x' y' ty, Pre P X A ρ s s' w → VR A ρ x x' → VR A ρ y y' → SemOk P X A ρ s s' w v (Builtin.append_ ⟨ts⟩ ty #[x', y']) := by
  obtain ⟨t, elem, ht, hd, h1⟩ := elemOf_eq h
  obtain ⟨xt, hxt, h2⟩ := ob_eq h1
  obtain ⟨xd, hxd, h3⟩ := ob_eq h2
  obtain ⟨hni, h4⟩ := chk_eq h3
  obtain ⟨i, hi, h5⟩ := ob_eq h4
  obtain ⟨z, hz, h6⟩ := ob_eq h5
  obtain ⟨hc, h7⟩ := chk_eq h6
  obtain ⟨n, new, s1, h8, e1, e2, e3, hg1, hnl0, hsrc⟩ := srcV_ok (P := P) h7
  obtain ⟨hnl, h9⟩ := chk_eq h8
  obtain ⟨hnf, h10⟩ := chk_eq h9
  clear h h1 h2 h3 h4 h5 h6 h7 h8 h9
  rw [nthL_eq] at ht hxt
  simp only [Bool.and_eq_true, Nat.ble_eq, Nat.beq_eq, lenL_eq, cellsL_eq] at hc
  obtain ⟨⟨hc1, hc2⟩, hc3⟩ := hc
  have hnl : new.length = n * i.size := by simpa using hnl
  have hnf := (flats_iff new).1 hnf
  split at h10
  · rename_i base len cap
    obtain ⟨hlen, h11⟩ := chk_eq h10
    have hlen : len + n ≤ 1000000 := Nat.le_of_ble_eq_true hlen
    have hI := hE.ty _ _ hi
    obtain ⟨hg2, hk⟩ := appendTo_ok hE h11 hI hz (by simpa using hc3) hc1 hc2 hnl hnf hlen (und_ok hE hd) (und_ok hE hxd) (by simpa using hni)
    refine ⟨hg1.trans hg2, fun X A ρ w x' y' ty hp hx hy => ?_⟩
    obtain ⟨new', h12, h13, h14⟩ := hsrc X A ρ w y' (fun b hb => hp.acc b (hg2.acc b hb)) hp.st hy
    refine (hk X A ρ w x' y' new' ⟨ts⟩ ty (hp.cong e1 e2 fun _ h => h) hx h12 (by simpa using ht) (by simpa using hxt) fun w2 hw2 => ?_).cong e1 e2
    obtain ⟨h15, h16⟩ := h14 w2 hw2
    refine ⟨h15, ?_⟩
    rw [h16 n (Nat.le_refl _), List.take_of_length_le (by rw [h12.length, hnl]; exact Nat.le_refl _)]
  · cases h10

theorem copyV_ok (hE : EnvOk E P) {ts : List TypeId} (h : copyV E s ts x y = some (v, s')) : Grows s s' ∧ ∀ X A ρ w x' y' ty, Pre P X A ρ s s' w → VR A ρ x x' → VR A ρ y y' → SemOk P X A ρ s s' w v (Builtin.copy_ ⟨ts⟩ ty #[x', y']) := by
  unfold copyV at h
  split at h
  · rename_i b o n cap
    obtain ⟨t, e, ht, hd, h1⟩ := elemOf_eq h
    obtain ⟨sz, hsz, h2⟩ := ob_eq h1
    obtain ⟨k, new, s1, h3, e1, e2, e3, hg1, hnl, hsrc⟩ := srcV_ok (P := P) h2
    unfold copyTo at h3
    obtain ⟨hnf, h4⟩ := chk_eq h3
    obtain ⟨new2, hn2, h5⟩ := ob_eq h4
    obtain ⟨c, ee, wd, hg, h6⟩ := row_eq h5
    obtain ⟨cs, hcs, h7⟩ := ob_eq h6
    have := some2_eq h7
    simp only [Prod.mk.injEq] at this
    obtain ⟨rfl, rfl⟩ := this
    clear h h1 h2 h3 h4 h5 h6 h7
    rw [nthL_eq] at ht
    have hnf := (flats_iff new).1 hnf
    obtain ⟨h8, h9⟩ := takeN_some hn2
    have hmin : minN k n = Nat.min k n := by
      unfold minN; rw [bo_eq]; simp only [Nat.ble_eq]
      show _ = min k n
      rw [Nat.min_def]
    rw [hmin] at h8 h9 ⊢
    have hmk : Nat.min k n ≤ k := Nat.min_le_left k n
    have hmul : Nat.mul (Nat.min k n) sz = Nat.min k n * sz := rfl
    rw [hmul] at h8 h9
    obtain ⟨h10, h11⟩ := putAt_some _ _ hcs
    have hgr : Grows s1 ((s1.read b).put b (some (.cells cs ee wd))) := (Grows.read s1 b).trans (Grows.put _ b _ (by rw [read_heap, hg]; simp))
    refine ⟨hg1.trans hgr, fun X A ρ w x' y' ty hp hx hy => ?_⟩
    have hX : X b := hp.acc b (put_in_acc _ b _)
    have hp1 : Pre P X A ρ s1 ((s1.read b).put b (some (.cells cs ee wd))) w := hp.cong e1 e2 fun _ h => h
    obtain ⟨hA, c', rest, fr, r1, r2, r3, r4, r5, r6⟩ := hp1.st.row hX hg
    obtain ⟨new', h12, h13, h14⟩ := hsrc X A ρ w y' (fun j hj => hp.acc j (hgr.acc j hj)) hp.st hy
    obtain ⟨h15, h16⟩ := h14 w rfl
    rw [hx.unslice]
    have hn2' : LR A ρ new2 (new'.take (Nat.min k n * sz)) := by rw [h9]; exact h12.take _
    have hl2 := hn2'.length
    have hst := setRow_wr (P := P) r1 r4 o (new'.take (Nat.min k n * sz)) (by rw [hl2, List.length_append]; omega) (hn2'.flats fun u hu => by rw [h9] at hu; exact hnf u (List.mem_of_mem_take hu))
    have hf := h16 _ hmk
    have hu := und_ok hE hd
    have hrun : (Builtin.copy_ ⟨ts⟩ ty #[.slice (some ⟨(ρ b).1, o, none⟩) n (capMap (ρ b) cap), y']).run P w = .ok (.int .i64 (.ofNat (Nat.min k n))) (w.setRow (ρ b).1 ⟨(c' ++ rest).take o ++ new'.take (Nat.min k n * sz) ++ (c' ++ rest).drop (o + (new'.take (Nat.min k n * sz)).length)⟩) := by
      unfold Builtin.copy_
      have ht' : (⟨ts⟩ : Array TypeId)[0]? = some t := by simpa using ht
      simp only [ht', List.getElem?_toArray, List.getElem?_cons_zero, List.getElem?_cons_succ, Sem.run_bind, run_underlying hu, Result.andThen_ok, h15, run_sizeOf hE hsz, hf, hst]
      rfl
    refine SemOk.cong e1 e2 ⟨_, _, ρ, hrun, VR.int _ _, ?_⟩
    refine Good.write (o := .cells c ee wd) (o' := .cells cs ee wd) hp1.st hp1.above hX hg (fun c => by simp) (by simp) (put_in_wr _ b _) (setRow_heap w _ _ _ _ _ r1) ?_ (Fr.setRow w _ _)
    have hcl : cs.length = c.length := by rw [h11]; simp; omega
    refine ⟨c'.take o ++ new'.take (Nat.min k n * sz) ++ c'.drop (o + (new'.take (Nat.min k n * sz)).length), rest, fr, ?_, ?_, ?_, ?_⟩
    · rw [put_mid c' rest _ _ (by omega)]
    · rw [h11, hl2]
      exact ((r2.take _).append hn2').append (r2.drop _)
    · rw [hcl]; exact r5
    · rw [hcl]; exact r6
  · cases h
end
end Go.Ev
