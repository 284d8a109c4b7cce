/- A lemma text of the proof that what the evaluator answers holds of every run of the model. No condition beyond those that each theorem states. -/
import Derived.Test.YtbefibijhfgkdaaGreatDoorSF
namespace Go.Ev
open Go
set_option linter.unusedSimpArgs false
set_option linter.unusedVariables false
section
variable {E : Env} {P : Program} {X A : Nat → Prop} {ρ : Rho} {s s' : St} {w w' : World} {v v' x y x' y' : Value}

theorem sliceDataV_ok (h : sliceDataV x s = some (v, s')) : Grows s s' ∧ ∀ X A ρ w x' ts ty, Pre P X A ρ s s' w → VR A ρ x x' → SemOk P X A ρ s s' w v (Builtin.unsafeSliceData_ ts ty #[x']) := by
  unfold sliceDataV at h
  split at h
  · rename_i b n cap
    obtain ⟨hc, h1⟩ := chk_eq h
    obtain ⟨c, e, wd, hg, h2⟩ := row_eq h1
    obtain ⟨hw, h3⟩ := chk_eq h2
    have := some2_eq h3
    simp only [Prod.mk.injEq] at this
    obtain ⟨rfl, rfl⟩ := this
    have hc : cap = unk := by simpa using hc
    subst hc
    simp only [Bool.and_eq_true, Nat.ble_eq, lenL_eq] at hw
    obtain ⟨rfl, hl⟩ := hw
    refine ⟨Grows.read s b, fun X A ρ w x' ts ty hp hx => ?_⟩
    obtain ⟨hA, c', rest, fr, r1, r2, r3, r4, r5, r6⟩ := hp.st.row (hp.acc b (read_in s b)) hg
    obtain ⟨r7, r8, r9, r10⟩ := r5 rfl
    rw [hx.unslice]
    refine SemOk.same hp (by simp) (by simp) (Lib.run_unsafeSliceData_row w ts ty _ n _ ?_) (VR.ptr hA)
    simp only [capMap, Nat.le_refl, if_true, Nat.sub_self, Nat.sub_zero]
    rintro h0
    rw [h0] at r8
    omega
  · cases h

theorem byteL_cons (v : Value) (l : List Value) : byteL (v :: l) = match v with
    | .int .u8 (.ofNat k) => chk (Nat.ble (Nat.succ k) 256) <| ob (byteL l) fun r => some (UInt8.ofNat k :: r)
    | _ => none := rfl
theorem byteL_ok : ∀ (l : List Value) {bs : List UInt8}, byteL l = some bs → l = strCells bs
  | [], bs, h => by have := Option.some.inj h; subst this; rfl
  | v :: l, bs, h => by
    rw [byteL_cons] at h
    split at h
    · rename_i k
      obtain ⟨h1, h2⟩ := chk_eq h
      obtain ⟨r, h3, h4⟩ := ob_eq h2
      have := Option.some.inj h4
      subst this
      have hk : k < 256 := by simpa [Nat.succ_le_iff] using h1
      have ih := byteL_ok l h3
      rw [strCells_eq, List.map_cons, ih, strCells_eq]
      congr 2
      have : (UInt8.ofNat k).toNat = k := by simp [UInt8.toNat_ofNat, Nat.mod_eq_of_lt hk]
      rw [this]; rfl
    · cases h
theorem Fr.freeze (w : World) (g n : Nat) : Fr w (w.freeze ⟨g, 0, none⟩ n) fun r => r = g := by
  unfold World.freeze
  split
  · exact Fr.refl w _
  · refine ⟨rfl, rfl, rfl, by simp, fun r hr hne => ?_⟩
    simp only [Array.getElem?_modify]
    rw [if_neg (fun e => hne e.symm)]
theorem unsafeStringV_ok (hE : EnvOk E P) {ts : List TypeId} (h : unsafeStringV E ts x y s = some (v, s')) : Grows s s' ∧ ∀ X A ρ w x' y' ty, Pre P X A ρ s s' w → VR A ρ x x' → VR A ρ y y' → SemOk P X A ρ s s' w v (Builtin.unsafeString_ ⟨ts⟩ ty #[x', y']) := by
  unfold unsafeStringV at h
  split at h
  · rename_i pt it b n
    obtain ⟨c, e, wd, hg, h1⟩ := row_eq h
    obtain ⟨d, hd, h2⟩ := ob_eq h1
    split at h2
    · rename_i e'
      obtain ⟨sz, hsz, h3⟩ := ob_eq h2
      obtain ⟨hc, h4⟩ := chk_eq h3
      obtain ⟨l, hl, h5⟩ := ob_eq h4
      obtain ⟨bs, hbs, h6⟩ := ob_eq h5
      have := some2_eq h6
      simp only [Prod.mk.injEq] at this
      obtain ⟨rfl, rfl⟩ := this
      simp only [Bool.and_eq_true, Nat.ble_eq, Nat.beq_eq] at hc
      obtain ⟨⟨⟨he, hs1⟩, hn1⟩, hn2⟩ := hc
      subst he hs1
      have hu := und_ok hE hd
      refine ⟨(Grows.read s b).trans (Grows.put _ b _ (by rw [read_heap, hg]; simp)), fun X A ρ w x' y' ty hp hx hy => ?_⟩
      have hX : X b := hp.acc b (put_in_acc _ b _)
      obtain ⟨hA, c', rest, fr, r1, r2, r3, r4, r5, r6⟩ := hp.st.row hX hg
      rw [hx.unptr, hy.unint]
      obtain ⟨h7, h8⟩ := takeN_some hl
      have h9 := byteL_ok _ hbs
      have hlen : bs.length = n := by
        have := congrArg List.length h9
        rw [h8, strCells_eq, List.length_map, List.length_take] at this
        omega
      have hlr : LR A ρ (strCells bs) (c'.take n) := by rw [← h9, h8]; exact r2.take n
      have hc' : c'.take n = strCells bs := by rw [← hlr.self, strCells_ground]
      have hrun := Lib.run_unsafeString_row (P := P) w pt it ty e hu (by rw [cellsOf_ok hE hsz]) (ρ b).1 (c' ++ rest).length (by simp [World.shape?, r1]) bs (by rintro rfl; simp at hlen; omega) (by rw [List.length_append]; omega) (by omega) (fun j u hu => by
        rw [add_lit, Nat.zero_add, cell_at r1]
        have hj : j < n := by rw [← hlen]; exact (List.getElem?_eq_some_iff.1 hu).1
        rw [List.getElem?_append_left (by omega)]
        have : (c'.take n)[j]? = some (.int .u8 (u.toNat : Int)) := by rw [hc', strCells_eq]; simp [hu]
        rw [List.getElem?_take, if_pos hj] at this
        exact this)
      rw [hlen] at hrun
      refine ⟨_, _, ρ, hrun, VR.str _, ?_⟩
      exact Good.drop (o := .cells c e wd) hp.st hp.above (fun c => by simp) (by simp) (put_in_wr _ b _) hX hg (Fr.freeze w _ n)
    · cases h2
  · cases h
end
end Go.Ev
