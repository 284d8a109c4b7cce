/- A lemma text of the proof that what the evaluator answers holds of every run of the model. No condition beyond those that each theorem states. -/
import Derived.Test.YtbefibijhfgkdaaGreatDoorSG
namespace Go.Ev
open Go
set_option linter.unusedSimpArgs false
set_option linter.unusedVariables false
section
variable {E : Env} {P : Program} {X A : Nat → Prop} {ρ : Rho} {s s' : St} {w w' : World} {v v' x y x' y' : Value}

theorem foldl_bytes (bs : List UInt8) : ∀ (acc : List UInt8), (bs.map fun b => (b.toNat : Int)).foldl (fun (r : ByteArray) n => r.push (UInt8.ofNat n.toNat)) ⟨⟨acc⟩⟩ = ⟨⟨acc ++ bs⟩⟩ := by
  induction bs with
  | nil => intro acc; simp
  | cons b bs ih =>
    intro acc
    rw [List.map_cons, List.foldl_cons]
    have : (⟨⟨acc⟩⟩ : ByteArray).push (UInt8.ofNat ((b.toNat : Int)).toNat) = ⟨⟨acc ++ [b]⟩⟩ := by
      apply ByteArray.ext
      simp [ByteArray.push]
    rw [this, ih]
    simp

theorem convV_ok (hE : EnvOk E P) {src dst : TypeId} (h : convV E s src dst x = some (v, s')) : Grows s s' ∧ ∀ X A ρ w x', Pre P X A ρ s s' w → VR A ρ x x' → SemOk P X A ρ s s' w v (convert src dst x') := by
  obtain ⟨ds, hs, h1⟩ := ob_eq h
  obtain ⟨dd, hd, h2⟩ := ob_eq h1
  clear h h1
  have hus := und_ok hE hs
  have hud := und_ok hE hd
  split at h2
  · rename_i k0 k k1 n
    have := some2_eq h2
    simp only [Prod.mk.injEq] at this
    obtain ⟨rfl, rfl⟩ := this
    refine ⟨Grows.refl _, fun X A ρ w x' hp hx => SemOk.pure hp (v' := .int k (wrapV k n)) ?_ (VR.int _ _)⟩
    rw [hx.unint, wrapV_eq]
    unfold convert
    simp only [Sem.run_bind, run_underlying hus, run_underlying hud, Result.andThen_ok]
    rfl
  · rename_i e a n c
    obtain ⟨d, hde, h3⟩ := ob_eq h2
    obtain ⟨hb, h4⟩ := chk_eq h3
    have hue := und_ok hE hde
    have hd8 : d = .int .u8 := by
      unfold isByte at hb; split at hb
      · rfl
      · cases hb
    subst hd8
    have hconv : ∀ w x', (∀ s, x' ≠ .string s) → (∀ k n, x' ≠ .int k n) → (convert src dst x').run P w = (Conv.bytesToString x').run P w := by
      intro w x' q1 q2
      unfold convert
      simp only [Sem.run_bind, run_underlying hus, run_underlying hud, Result.andThen_ok]
      rw [run_underlying hue]
      rfl
    unfold bytesV at h4
    split at h4
    · have := some2_eq h4
      simp only [Prod.mk.injEq] at this
      obtain ⟨rfl, rfl⟩ := this
      refine ⟨Grows.refl _, fun X A ρ w x' hp hx => SemOk.pure hp (v' := .string ⟨⟨[]⟩⟩) ?_ (VR.str _)⟩
      rw [hx.unslice0, hconv w _ (by simp) (by simp)]
      rfl
    · rename_i b o
      obtain ⟨cs, e2, wd, hg, h5⟩ := row_eq h4
      obtain ⟨l, hl, h6⟩ := ob_eq h5
      obtain ⟨bs, hbs, h7⟩ := ob_eq h6
      have := some2_eq h7
      simp only [Prod.mk.injEq] at this
      obtain ⟨rfl, rfl⟩ := this
      refine ⟨Grows.read s b, fun X A ρ w x' hp hx => ?_⟩
      obtain ⟨hA, c', rest, fr, r1, r2, r3, r4, r5, r6⟩ := hp.st.row (hp.acc b (read_in s b)) hg
      rw [hx.unslice]
      rw [dropN_eq] at hl
      obtain ⟨h8, h9⟩ := takeN_some hl
      rw [List.length_drop] at h8
      have h10 := byteL_ok _ hbs
      have hlr : LR A ρ (strCells bs) ((c'.drop o).take n) := by rw [← h10, h9]; exact (r2.drop o).take n
      have hc' : (c'.drop o).take n = strCells bs := by rw [← hlr.self, strCells_ground]
      refine SemOk.same hp (by simp) (by simp) (v' := .string ⟨⟨bs⟩⟩) ?_ (VR.str _)
      rw [hconv w _ (by simp) (by simp)]
      have hload : (loadCells ⟨(ρ b).1, o, none⟩ n).run P w = .ok ((bs.map fun b => (b.toNat : Int)).map (Value.int .u8)).toArray w := by
        rcases Nat.eq_zero_or_pos n with h0 | h0
        · subst h0
          have : bs = [] := by
            have := congrArg List.length hc'
            simp [strCells_eq] at this
            exact List.eq_nil_of_length_eq_zero this.symm
          subst this
          rfl
        · rw [run_loadCells_at P r1 o n (by simp; omega)]
          rw [List.drop_append_of_le_length (by omega), List.take_append_of_le_length (by simp; omega), hc', strCells_eq, List.map_map]
          rfl
      rw [run_bytesToString w _ n _ _ hload]
      have := foldl_bytes bs []
      rw [List.nil_append] at this
      rw [← this]; rfl
    · cases h4
  · rename_i t b
    obtain ⟨c, e, wd, hg, h3⟩ := row_eq h2
    obtain ⟨sz, hsz, h4⟩ := ob_eq h3
    obtain ⟨hc, h5⟩ := chk_eq h4
    have := some2_eq h5
    simp only [Prod.mk.injEq] at this
    obtain ⟨rfl, rfl⟩ := this
    simp only [Bool.and_eq_true, Nat.ble_eq, lenL_eq, Bool.not_eq_true'] at hc
    obtain ⟨⟨rfl, hl⟩, hs1⟩ := hc
    refine ⟨Grows.read s b, fun X A ρ w x' hp hx => ?_⟩
    obtain ⟨hA, c', rest, fr, r1, r2, r3, r4, r5, r6⟩ := hp.st.row (hp.acc b (read_in s b)) hg
    obtain ⟨i, hi1, hi2⟩ := size_ok hE hsz
    rw [hx.unptr]
    refine SemOk.same hp (by simp) (by simp) (Lib.run_to_unsafe w ⟨(ρ b).1, 0, none⟩ hus hud hi1 (by omega) (e := e) (cells := (c' ++ rest).length) (by simp [World.shape?, r1]) (by simp; omega)) (VR.ptr hA)
  · rename_i u b
    obtain ⟨c, e, wd, hg, h3⟩ := row_eq h2
    obtain ⟨sz, hsz, h4⟩ := ob_eq h3
    obtain ⟨hc, h5⟩ := chk_eq h4
    have := some2_eq h5
    simp only [Prod.mk.injEq] at this
    obtain ⟨rfl, rfl⟩ := this
    simp only [Bool.and_eq_true, Nat.beq_eq, lenL_eq, Bool.not_eq_true'] at hc
    obtain ⟨⟨⟨rfl, hl⟩, he⟩, hu⟩ := hc
    subst he hu
    refine ⟨Grows.read s b, fun X A ρ w x' hp hx => ?_⟩
    obtain ⟨hA, c', rest, fr, r1, r2, r3, r4, r5, r6⟩ := hp.st.row (hp.acc b (read_in s b)) hg
    obtain ⟨i, hi1, hi2⟩ := size_ok hE hsz
    rcases r6 rfl with ⟨h7, _⟩ | ⟨h7, _⟩
    · subst h7
      rw [hx.unptr]
      refine SemOk.same hp (by simp) (by simp) (Lib.run_from_unsafe w ⟨(ρ b).1, 0, none⟩ hus hud hi1 (e := E.bld) (cells := 2) (by simp [World.shape?, r1, r3, hl]) hE.bld) (VR.ptr hA)
    · exact absurd h7 hE.bld8
  · rename_i e z
    obtain ⟨d, hde, h3⟩ := ob_eq h2
    obtain ⟨hb, h4⟩ := chk_eq h3
    obtain ⟨sz, hsz, h5⟩ := ob_eq h4
    obtain ⟨hc, h6⟩ := chk_eq h5
    have := some2_eq h6
    simp only [Prod.mk.injEq] at this
    obtain ⟨rfl, rfl⟩ := this
    simp only [Bool.and_eq_true, Nat.beq_eq, Nat.ble_eq, lenL_eq] at hc
    obtain ⟨rfl, hlz⟩ := hc
    have hue := und_ok hE hde
    have hd8 : d = .int .u8 := by
      unfold isByte at hb; split at hb
      · rfl
      · cases hb
    subst hd8
    refine ⟨Grows.mk_new s _, fun X A ρ w x' hp hx => ?_⟩
    rw [hx.unstr]
    have hsize : (⟨⟨z⟩⟩ : ByteArray).size = z.length := rfl
    have hge := grownCap_ge w z.length 0 e
    have hrun : (convert src dst (.string ⟨⟨z⟩⟩)).run P w = .ok (.slice (some ⟨w.heap.size, 0, none⟩) z.length (grownCap w z.length 0 e)) ((w.drew.alloc (.cells ⟨strCells z ++ List.replicate (grownCap w z.length 0 e - z.length) (.int .u8 0)⟩ e)).freeze ⟨w.heap.size, grownCap w z.length 0 e, none⟩ 1) := by
      unfold convert
      simp only [Sem.run_bind, run_underlying hus, run_underlying hud, Result.andThen_ok, run_underlying hue]
      have hch : (choose (.appendCap z.length 0 e)).run P w = .ok (grownCap w z.length 0 e) w.drew := rfl
      unfold Conv.stringToBytes
      rw [hsize]
      simp only [Sem.run_bind, hch, Result.andThen_ok, run_newRow]
      have harr : ((⟨⟨z⟩⟩ : ByteArray).data.map fun b => Value.int .u8 (b.toNat : Int)) ++ Array.replicate (grownCap w z.length 0 e - z.length) (Value.int .u8 0) = ⟨strCells z ++ List.replicate (grownCap w z.length 0 e - z.length) (.int .u8 0)⟩ := by
        apply Array.ext'
        simp [strCells_eq]
      rw [harr]
      have hsh : ((w.drew.alloc (.cells ⟨strCells z ++ List.replicate (grownCap w z.length 0 e - z.length) (.int .u8 0)⟩ e)).shape? w.heap.size) = some (e, grownCap w z.length 0 e) := by
        unfold World.shape?
        rw [show w.heap.size = w.drew.heap.size from rfl, heap_alloc_new]
        simp only [Option.some.injEq, Prod.mk.injEq, true_and]
        show (strCells z ++ List.replicate (grownCap w z.length 0 e - z.length) (Value.int .u8 0)).length = _
        rw [List.length_append, List.length_replicate, strCells_eq, List.length_map]
        omega
      unfold markStringish
      have e1 : w.drew.heap.size = w.heap.size := rfl
      simp only [Sem.run_bind, shape, freeze, Sem.run, e1, hsh, Result.andThen_ok, Sem.run_pure]
    refine ⟨_, _, ρ.at s.next (w.heap.size, grownCap w z.length 0 e), hrun, ?_, ?_⟩
    · have := VR.slice (A := SetAdd A s.next (s.new (.cells (strCells z) e false)).next) (ρ := ρ.at s.next (w.heap.size, grownCap w z.length 0 e)) (b := s.next) (o := 0) (l := z.length) (c := unk) (s := none) (.inr ⟨Nat.le_refl _, by simp⟩)
      simpa [capMap, freshSlice] using this
    · refine Good.alloc (o := .cells (strCells z) e false) (x := .cells ⟨strCells z ++ List.replicate (grownCap w z.length 0 e - z.length) (.int .u8 0)⟩ e (grownCap w z.length 0 e, grownCap w z.length 0 e + 1)) hp.st hp.above hp.lt (fun c => by simp) (by simp) (new_in_wr s _) (Nat.le_refl _) ?_ ?_ ?_
      · unfold World.freeze
        rw [if_neg (by decide)]
        simp only [Array.getElem?_modify]
        rw [if_pos trivial, show w.heap.size = w.drew.heap.size from rfl, heap_alloc_new]
        rfl
      · refine ⟨strCells z, _, _, rfl, fun ρ' _ => strCells_ground z ρ', (fun h => by cases h), fun _ => .inr ⟨hue, cellsOf_ok hE hsz, ?_, ?_⟩⟩
        · rw [strCells_eq, List.length_map, List.length_replicate]; simp; omega
        · rw [strCells_eq, List.length_map, List.length_replicate]; simp; omega
      · refine ⟨rfl, rfl, rfl, ?_, fun r hr _ => ?_⟩
        · unfold World.freeze
          rw [if_neg (by decide)]
          simp
        · unfold World.freeze
          rw [if_neg (by decide)]
          simp only [Array.getElem?_modify]
          rw [if_neg (by omega)]
          exact (Fr.drewAlloc w _).block r hr (fun h => h)
  · cases h2
end
end Go.Ev
