/- A lemma text of the proof that what the evaluator answers holds of every run of the model. No condition beyond those that each theorem states. -/
import Derived.Test.YtbefibijhfgkdaaGreatDoorS8
namespace Go.Ev
open Go
set_option linter.unusedSimpArgs false
set_option linter.unusedVariables false
section
variable {E : Env} {P : Program} {X A : Nat → Prop} {ρ : Rho} {s s' : St} {w : World} {v v' x y x' y' : Value}

def OVR (A : Nat → Prop) (ρ : Rho) : Option Value → Option Value → Prop
  | none, none => True
  | some v, some v' => VR A ρ v v'
  | _, _ => False
theorem OVR.none {o : Option Value} (h : OVR A ρ none o) : o = none := by cases o <;> simp_all [OVR]
theorem OVR.some {v : Value} {o : Option Value} (h : OVR A ρ (some v) o) : ∃ v', o = some v' ∧ VR A ρ v v' := by
  cases o with
  | none => simp [OVR] at h
  | some v' => exact ⟨v', rfl, h⟩
theorem natUpTo_ok {y i : Nat} (h : natUpTo v y = some i) : i ≤ y ∧ ∃ k, v = .int k (.ofNat i) := by
  unfold natUpTo at h
  split at h
  · rename_i k j
    obtain ⟨h1, h2⟩ := bo_none h
    have := Option.some.inj h2
    subst this
    exact ⟨by simpa using h1, k, rfl⟩
  · cases h
theorem run_sliceBound {y i : Nat} (h : natUpTo v y = some i) (hv : VR A ρ v v') (z : Nat) (hz : y ≤ z) (code : BoundsCode) (w : World) : (Instr.sliceBound v' z code).run P w = .ok i w := by
  obtain ⟨h1, k, rfl⟩ := natUpTo_ok h
  rw [hv.unint]
  unfold Instr.sliceBound
  simp only [Sem.run_bind, asIntOf, Sem.run_pure, Result.andThen_ok]
  have : (0 : Int) ≤ Int.ofNat i ∧ Int.ofNat i ≤ (z : Int) := by constructor <;> simp <;> omega
  simp [this]
  omega
theorem bounds_ok {β : Type} {len cap : Nat} {lo hi mx : Option Value} {k : Nat → Nat → Nat → Option β} {r : β} (h : bounds len cap lo hi mx k = some r) :
    ∃ l h m, k l h m = some r ∧ (m ≤ cap ∧ (mx = none → m = cap)) ∧ l ≤ h ∧ (len ≤ cap → mx = none → h ≤ cap) ∧
      ∀ A ρ lo' hi' mx', OVR A ρ lo lo' → OVR A ρ hi hi' → OVR A ρ mx mx' → ∀ (P : Program) (sl : Bool) w cap', cap ≤ cap' → (Instr.sliceBounds sl len cap' lo' hi' mx').run P w = .ok (l, h, if mx = none then cap' else m) w := by
  obtain ⟨m, hm, h1⟩ := ob_eq h
  obtain ⟨hh, hhi, h2⟩ := ob_eq h1
  obtain ⟨l, hl, h3⟩ := ob_eq h2
  clear h h1 h2
  have hm' : m ≤ cap ∧ (mx = none → m = cap) := by
    cases mx with
    | none => have := Option.some.inj hm; exact ⟨by omega, fun _ => this.symm⟩
    | some v => exact ⟨(natUpTo_ok hm).1, fun h => by cases h⟩
  have hl' : l ≤ hh := by
    cases lo with
    | none => have := Option.some.inj hl; subst this; exact Nat.zero_le _
    | some v => exact (natUpTo_ok hl).1
  refine ⟨l, hh, m, h3, hm', hl', fun hc hmx => ?_, fun A ρ lo' hi' mx' o1 o2 o3 P sl w cap' hcc => ?_⟩
  · subst hmx
    cases hi with
    | none => have := Option.some.inj hhi; omega
    | some v => have := (natUpTo_ok hhi).1; have := hm'.1; omega
  · unfold Instr.sliceBounds
    cases mx with
    | none =>
      have := Option.some.inj hm; subst this
      rw [o3.none]
      cases hi with
      | none =>
        have := Option.some.inj hhi; subst this
        rw [o2.none]
        cases lo with
        | none => have := Option.some.inj hl; subst this; rw [o1.none]; simp
        | some v => obtain ⟨v', rfl, hv⟩ := o1.some; simp [run_sliceBound (P := P) hl hv _ (Nat.le_refl _)]
      | some u =>
        obtain ⟨u', rfl, hu⟩ := o2.some
        cases lo with
        | none => have := Option.some.inj hl; subst this; rw [o1.none]; simp [run_sliceBound (P := P) hhi hu cap' hcc]
        | some v => obtain ⟨v', rfl, hv⟩ := o1.some; simp [run_sliceBound (P := P) hhi hu cap' hcc, run_sliceBound (P := P) hl hv _ (Nat.le_refl _)]
    | some q =>
      obtain ⟨q', rfl, hq⟩ := o3.some
      cases hi with
      | none => cases hhi
      | some u =>
        obtain ⟨u', rfl, hu⟩ := o2.some
        cases lo with
        | none => have := Option.some.inj hl; subst this; rw [o1.none]; simp [run_sliceBound (P := P) hm hq cap' hcc, run_sliceBound (P := P) hhi hu _ (Nat.le_refl _)]
        | some v => obtain ⟨v', rfl, hv⟩ := o1.some; simp [run_sliceBound (P := P) hm hq cap' hcc, run_sliceBound (P := P) hhi hu _ (Nat.le_refl _), run_sliceBound (P := P) hl hv _ (Nat.le_refl _)]

theorem extract_mk (z : List UInt8) (l h : Nat) : (⟨⟨z⟩⟩ : ByteArray).extract l h = ⟨⟨(z.drop l).take (h - l)⟩⟩ := by
  apply ByteArray.ext
  rw [ByteArray.data_extract]
  apply Array.ext'
  simp [List.take_drop]

theorem capMap_lt {q : Nat × Nat} {c : Nat} (h : c < unk) : capMap q c = c := by
  unfold capMap; rw [if_neg (by omega)]
theorem moveP_eq (a : Addr) (n : Nat) : moveP (some a) n = some (a.add n) := by
  obtain ⟨b, o, s⟩ := a
  simp only [moveP, bo_eq, Nat.beq_eq, Addr.add]
  split <;> rfl
theorem isNo_eq {α : Type} {o : Option α} (h : isNo o = true) : o = none := by cases o <;> simp_all [isNo]

theorem sliceV_ok (hE : EnvOk E P) {t : TypeId} {lo hi mx : Option Value} (h : sliceV E s t x lo hi mx = some (v, s')) : Grows s s' ∧ ∀ X A ρ w x' lo' hi' mx', Pre P X A ρ s s' w → VR A ρ x x' → OVR A ρ lo lo' → OVR A ρ hi hi' → OVR A ρ mx mx' →
    SemOk P X A ρ s s' w v (Instr.sliceAt t x' lo' hi' mx') := by
  obtain ⟨d, hd, h1⟩ := ob_eq h
  clear h
  have hu := und_ok hE hd
  split at h1
  · rename_i z
    obtain ⟨u, hu', h2⟩ := ob_eq h1
    have := some2_eq h2
    simp only [Prod.mk.injEq] at this
    obtain ⟨rfl, rfl⟩ := this
    refine ⟨Grows.refl _, fun X A ρ w x' lo' hi' mx' hp hx o1 o2 o3 => ?_⟩
    obtain ⟨hno, h3⟩ := chk_eq hu'
    have := isNo_eq hno; subst this
    rw [o3.none]
    obtain ⟨l, hh, m, h4, h5, h6, h7, h8⟩ := bounds_ok h3
    have := Option.some.inj h4
    subst this
    refine SemOk.pure hp ?_ (VR.str _)
    rw [hx.unstr]
    have hb := h8 A ρ lo' hi' none o1 o2 (by simp [OVR]) P false w (lenL z) (Nat.le_refl _)
    unfold Instr.sliceAt
    simp only [Sem.run_bind, run_underlying hu, Result.andThen_ok]
    unfold Instr.slice
    simp only [Sem.run_bind, run_underlying hu, Result.andThen_ok, Option.isSome_none, Bool.false_eq_true, if_false]
    have hsz : (⟨⟨z⟩⟩ : ByteArray).size = z.length := rfl
    rw [lenL_eq] at hb
    simp [hsz, hb, extract_mk]
  · rename_i elem a len cap
    obtain ⟨sz, hsz, h2⟩ := ob_eq h1
    cases hk : Nat.ble unk cap with
    | false =>
      rw [hk, bo_false] at h2
      obtain ⟨u, hu', h3⟩ := ob_eq h2
      have := some2_eq h3
      simp only [Prod.mk.injEq] at this
      obtain ⟨rfl, rfl⟩ := this
      refine ⟨Grows.refl _, fun X A ρ w x' lo' hi' mx' hp hx o1 o2 o3 => ?_⟩
      obtain ⟨l, hh, m, h4, h5, h6, h7, h8⟩ := bounds_ok hu'
      have := Option.some.inj h4
      subst this
      have hcap : cap < unk := by
        rcases Nat.lt_or_ge cap unk with h | h
        · exact h
        · rw [Nat.ble_eq_true_of_le h] at hk; cases hk
      have hb := h8 A ρ lo' hi' mx' o1 o2 o3 P true w cap (Nat.le_refl _)
      have hm : (if mx = none then cap else m) = m := by
        split
        · rename_i hmx
          exact (h5.2 hmx).symm
        · rfl
      rw [hm] at hb
      have hrun : ∀ a', (Instr.sliceAt t (.slice a' len cap) lo' hi' mx').run P w = .ok (.slice (if m = l then a' else a'.map (·.add (l * sz))) (hh - l) (m - l)) w := by
        intro a'
        unfold Instr.sliceAt
        simp only [Sem.run_bind, run_underlying hu, Result.andThen_ok]
        unfold Instr.slice
        simp only [Sem.run_bind, run_underlying hu, Result.andThen_ok, hb, run_sizeOf hE hsz]
        rfl
      have hml : m - l < unk := by have := h5.1; omega
      cases a with
      | none =>
        rw [hx.unslice0]
        refine SemOk.pure hp (hrun none) ?_
        simp only [moveP, bo_eq, Option.map_none, ite_self]
        exact VR.ground (by simp)
      | some a =>
        obtain ⟨b, o, q⟩ := a
        rw [hx.unslice, capMap_lt hcap]
        refine SemOk.pure hp (hrun _) fun ρ' e => ?_
        have h1 := (hx ρ' e).trans hx.self.symm
        simp only [vmap_slice, Value.slice.injEq, Option.some.injEq, Addr.mk.injEq, and_true] at h1
        rw [bo_eq, moveP_eq]
        simp only [Nat.beq_eq]
        by_cases hml2 : m = l
        · simp only [hml2, if_true, Nat.sub_self]
          rw [vmap_slice, h1.1, show l.sub l = 0 from Nat.sub_self l, capMap_lt (show 0 < unk by decide)]
          rfl
        · simp only [hml2, if_false, Option.map_some, Addr.add]
          by_cases hz : l * sz = 0
          · simp only [show Nat.mul l sz = 0 from hz, hz, if_true]
            rw [vmap_slice, h1.1, capMap_lt (c := m.sub l) hml]
            rfl
          · simp only [show ¬ Nat.mul l sz = 0 from hz, hz, if_false]
            rw [vmap_slice, h1.1, capMap_lt (c := m.sub l) hml]
            rfl
    | true =>
      rw [hk, bo_true] at h2
      have hcap : unk ≤ cap := Nat.le_of_ble_eq_true hk
      cases hz : zeroHi lo hi mx with
      | true =>
        rw [hz, bo_true] at h2
        unfold sliceZero at h2
        split at h2
        rotate_left
        · cases h2
        rename_i b o
        have := some2_eq h2
        simp only [Prod.mk.injEq] at this
        obtain ⟨rfl, rfl⟩ := this
        unfold zeroHi at hz
        split at hz
        rotate_left
        · cases hz
        rename_i k
        refine ⟨Grows.refl _, fun X A ρ w x' lo' hi' mx' hp hx o1 o2 o3 => ?_⟩
        rw [hx.unslice, o1.none, o3.none]
        obtain ⟨u', rfl, hu'⟩ := o2.some
        rw [hu'.unint]
        refine SemOk.pure hp (v' := .slice (some ⟨(ρ b).1, o, none⟩) 0 (capMap (ρ b) cap)) ?_ fun ρ' e => ?_
        · unfold Instr.sliceAt
          simp only [Sem.run_bind, run_underlying hu, Result.andThen_ok]
          unfold Instr.slice
          simp only [Sem.run_bind, run_underlying hu, Result.andThen_ok]
          have hb : (Instr.sliceBounds true len (capMap (ρ b) cap) none (some (.int k (.ofNat 0))) none).run P w = .ok (0, 0, capMap (ρ b) cap) w := by
            unfold Instr.sliceBounds
            have h0 : (Instr.sliceBound (.int k (.ofNat 0)) (capMap (ρ b) cap) .sliceAcap).run P w = .ok 0 w := by
              unfold Instr.sliceBound
              simp [asIntOf]
            simp [Instr.sliceBound, asIntOf]
          simp only [hb, Result.andThen_ok, run_sizeOf hE hsz, Option.map_some, add_lit, Nat.zero_mul, Nat.add_zero, Nat.sub_zero, ite_self]
          try rfl
        · have h1 := (hx ρ' e).trans hx.self.symm
          simp only [vmap_slice, Value.slice.injEq, Option.some.injEq, Addr.mk.injEq, and_true, true_and] at h1
          rw [vmap_slice, h1.1, h1.2]
      | false =>
      rw [hz, bo_false] at h2
      unfold sliceUnk at h2
      split at h2
      · rename_i b o
        obtain ⟨c, e, wd, hg, h3⟩ := row_eq h2
        obtain ⟨hc, h4⟩ := chk_eq h3
        simp only [Bool.and_eq_true, Nat.beq_eq, Nat.ble_eq, lenL_eq] at hc
        obtain ⟨⟨⟨hw, he⟩, ho⟩, hlen⟩ := hc
        subst hw he
        split at h4
        rotate_left
        · rename_i mx0
          obtain ⟨hlu0, h4⟩ := chk_eq h4
          obtain ⟨u, hu', h3⟩ := ob_eq h4
          have := some2_eq h3
          simp only [Prod.mk.injEq] at this
          obtain ⟨rfl, rfl⟩ := this
          refine ⟨Grows.read s b, fun X A ρ w x' lo' hi' mx' hp hx o1 o2 o3 => ?_⟩
          obtain ⟨hA, c', rest, fr, r1, r2, r3, r4, r5, r6⟩ := hp.st.row (hp.acc b (read_in s b)) hg
          obtain ⟨r7, r8, r9, r10⟩ := r5 rfl
          rw [cellsOf_ok hE hsz] at r8 r9
          have hin : (cap - unk) + len ≤ (ρ b).2 := by
            refine Nat.le_of_mul_le_mul_right (c := sz) ?_ r9
            rw [Nat.add_mul, ← r8]
            have : Nat.mul (Nat.sub cap unk) sz = (cap - unk) * sz := rfl
            have h2 : Nat.add o (Nat.mul len sz) = o + len * sz := rfl
            omega
          have hcm : capMap (ρ b) cap = (ρ b).2 - (cap - unk) := by unfold capMap; rw [if_pos hcap]
          have hlu : len < unk := Nat.le_of_ble_eq_true hlu0
          obtain ⟨l, hh, m, h4, h5, h6, h7, h8⟩ := bounds_ok hu'
          have := Option.some.inj h4
          subst this
          have hb := h8 A ρ lo' hi' mx' o1 o2 o3 P true w (capMap (ρ b) cap) (by rw [hcm]; omega)
          simp only [reduceCtorEq, if_false] at hb
          have hml : m - l < unk := by have := h5.1; omega
          refine SemOk.same hp (by simp) (by simp) (v' := .slice (if m = l then some ⟨(ρ b).1, o, none⟩ else some ((⟨(ρ b).1, o, none⟩ : Addr).add (l * sz))) (hh - l) (m - l)) ?_ fun ρ' ee => ?_
          · rw [hx.unslice]
            unfold Instr.sliceAt
            simp only [Sem.run_bind, run_underlying hu, Result.andThen_ok]
            unfold Instr.slice
            simp only [Sem.run_bind, run_underlying hu, Result.andThen_ok, hb, run_sizeOf hE hsz, Option.map_some]
            rfl
          · rw [bo_eq, moveP_eq]
            simp only [Nat.beq_eq]
            by_cases hml2 : m = l
            · simp only [hml2, if_true, Nat.sub_self]
              rw [vmap_slice, ee b hA, show l.sub l = 0 from Nat.sub_self l, capMap_lt (show 0 < unk by decide)]
              rfl
            · simp only [hml2, if_false, add_lit]
              rw [vmap_slice, ee b hA, capMap_lt (c := m.sub l) hml]
              rfl
        obtain ⟨l, hh, m, h5, h6, h7, h7', h8⟩ := bounds_ok h4
        obtain ⟨hlh, h9⟩ := chk_eq h5
        have := some2_eq h9
        simp only [Prod.mk.injEq] at this
        obtain ⟨rfl, rfl⟩ := this
        refine ⟨Grows.read s b, fun X A ρ w x' lo' hi' mx' hp hx o1 o2 o3 => ?_⟩
        obtain ⟨hA, c', rest, fr, r1, r2, r3, r4, r5, r6⟩ := hp.st.row (hp.acc b (read_in s b)) hg
        obtain ⟨r7, r8, r9, r10⟩ := r5 rfl
        rw [cellsOf_ok hE hsz] at r8 r9
        have hin : (cap - unk) + len ≤ (ρ b).2 := by
          refine Nat.le_of_mul_le_mul_right (c := sz) ?_ r9
          rw [Nat.add_mul, ← r8]
          have : Nat.mul (Nat.sub cap unk) sz = (cap - unk) * sz := rfl
          have h2 : Nat.add o (Nat.mul len sz) = o + len * sz := rfl
          omega
        have hcm : capMap (ρ b) cap = (ρ b).2 - (cap - unk) := by unfold capMap; rw [if_pos hcap]
        have hb := h8 A ρ lo' hi' mx' o1 o2 o3 P true w (capMap (ρ b) cap) (by rw [hcm]; omega)
        rw [o3.none] at hb ⊢
        simp only [if_true] at hb
        refine SemOk.same hp (by simp) (by simp) ?_ (v' := .slice (some ⟨(ρ b).1, o + l * sz, none⟩) (hh - l) ((ρ b).2 - (cap - unk) - l)) fun ρ' ee => ?_
        · rw [hx.unslice]
          unfold Instr.sliceAt
          simp only [Sem.run_bind, run_underlying hu, Result.andThen_ok]
          unfold Instr.slice
          simp only [Sem.run_bind, run_underlying hu, Result.andThen_ok, hb, run_sizeOf hE hsz, Option.map_some, add_lit]
          have hll : l = 0 ∨ l < hh := by simpa [Nat.succ_le_iff] using hlh
          have h77 := h7' (Nat.le_refl _) rfl
          rw [hcm]
          by_cases hq : (ρ b).2 - (cap - unk) = l
          · have : l = 0 := by omega
            subst this
            simp [hq]
          · simp [hq]
        · rw [vmap_slice, ee b hA]
          have : capMap (ρ b) (Nat.add cap l) = (ρ b).2 - (cap - unk) - l := by
            have h3 : Nat.add cap l = cap + l := rfl
            unfold capMap
            rw [h3, if_pos (by omega)]
            omega
          rw [this]; rfl
      · cases h2
  · rename_i n elem b o
    obtain ⟨sz, hsz, h3⟩ := ob_eq h1
    obtain ⟨hn, h4⟩ := chk_eq h3
    have hn : n < unk := Nat.le_of_ble_eq_true hn
    obtain ⟨u, hu', h5⟩ := ob_eq h4
    have := some2_eq h5
    simp only [Prod.mk.injEq] at this
    obtain ⟨rfl, rfl⟩ := this
    refine ⟨Grows.refl _, fun X A ρ w x' lo' hi' mx' hp hx o1 o2 o3 => ?_⟩
    obtain ⟨l, hh, m, h6, h7, h8, h9, h10⟩ := bounds_ok hu'
    have := Option.some.inj h6
    subst this
    have hb := h10 A ρ lo' hi' mx' o1 o2 o3 P false w n (Nat.le_refl _)
    have hm : (if mx = none then n else m) = m := by
      split
      · rename_i hmx
        exact (h7.2 hmx).symm
      · rfl
    rw [hm] at hb
    have hml : m - l < unk := by have := h7.1; omega
    rw [hx.unptr]
    refine SemOk.pure hp (v' := .slice (some (if m = l then ⟨(ρ b).1, o, none⟩ else (⟨(ρ b).1, o, none⟩ : Addr).add (l * sz))) (hh - l) (m - l)) ?_ fun ρ' e => ?_
    · unfold Instr.sliceAt
      simp only [Sem.run_bind, run_underlying hu, Result.andThen_ok, Instr.sureAddr, Sem.run_pure, hb, run_sizeOf hE hsz]
    · have h1 := (hx ρ' e).trans hx.self.symm
      simp only [vmap_ptr, Value.pointer.injEq, Option.some.injEq, Addr.mk.injEq, and_true] at h1
      rw [bo_eq, moveP_eq]
      simp only [Nat.beq_eq]
      by_cases hml2 : m = l
      · simp only [hml2, if_true, Nat.sub_self]
        rw [vmap_slice, h1, show l.sub l = 0 from Nat.sub_self l, capMap_lt (show 0 < unk by decide)]
        rfl
      · simp only [hml2, if_false, add_lit]
        rw [vmap_slice, h1, capMap_lt (c := m.sub l) hml]
        rfl
  · cases h1
end
end Go.Ev
