/- A lemma text of the proof that what the evaluator answers holds of every run of the model. No condition beyond those that each theorem states. -/
import Derived.Test.YtbefibijhfgkdaaGreatDoorS7
namespace Go.Ev
open Go
set_option linter.unusedSimpArgs false
set_option linter.unusedVariables false
section
variable {E : Env} {P : Program} {X A : Nat → Prop} {ρ : Rho} {s s' : St} {w : World} {v v' x y x' y' : Value}

theorem some2_eq {v : Value} {s : St} {r : Value × St} (h : some2 v s = some r) : r = (v, s) := by
  simpa [some2] using h.symm
theorem unV_ok {op : UnOp} (h : unV op x s = some (v, s')) : s' = s ∧ ∀ A ρ x', VR A ρ x x' → ∃ v', (∀ w, (Op.unary op x').run P w = .ok v' w) ∧ VR A ρ v v' := by
  unfold unV at h
  split at h
  · rename_i b
    have := some2_eq h
    simp only [Prod.mk.injEq] at this
    obtain ⟨rfl, rfl⟩ := this
    refine ⟨rfl, fun A ρ x' hx => ⟨.bool !b, fun w => ?_, VR.bool _⟩⟩
    rw [hx.unbool]; rfl
  · cases h
theorem extractV_ok {i : Nat} (h : extractV s x i = some (v, s')) : s' = s ∧ ∀ A ρ x', VR A ρ x x' → ∃ v', (∀ w, (Instr.extract x' i).run P w = .ok v' w) ∧ VR A ρ v v' := by
  unfold extractV at h
  split at h
  · rename_i vs
    obtain ⟨u, hu, h2⟩ := ob_eq h
    have := some2_eq h2
    simp only [Prod.mk.injEq] at this
    obtain ⟨rfl, rfl⟩ := this
    refine ⟨rfl, fun A ρ x' hx => ?_⟩
    obtain ⟨vs', rfl, hl⟩ := hx.untuple
    rw [nthL_eq] at hu
    obtain ⟨u', hu', hr⟩ := hl.get hu
    refine ⟨u', fun w => ?_, hr⟩
    simp [Instr.extract, hu']
  · cases h
theorem indexV_ok (hE : EnvOk E P) {t : TypeId} (h : indexV E s t x y = some (v, s')) : s' = s ∧ ∀ A ρ x' y', VR A ρ x x' → VR A ρ y y' → ∃ v', (∀ w, (Instr.index t x' y').run P w = .ok v' w) ∧ VR A ρ v v' := by
  obtain ⟨d, hd, h1⟩ := ob_eq h
  clear h
  split at h1
  · rename_i z k i
    obtain ⟨c, hc, h2⟩ := ob_eq h1
    have := some2_eq h2
    simp only [Prod.mk.injEq] at this
    obtain ⟨rfl, rfl⟩ := this
    refine ⟨rfl, fun A ρ x' y' hx hy => ⟨.int .u8 c.toNat, fun w => ?_, VR.int _ _⟩⟩
    rw [hx.unstr, hy.unint]
    rw [nthL_eq] at hc
    have hb : (⟨⟨z⟩⟩ : ByteArray)[i]? = some c := by
      have hlt := (List.getElem?_eq_some_iff.1 hc).1
      have hsz : (⟨⟨z⟩⟩ : ByteArray).size = z.length := rfl
      rw [getElem?_pos _ _ (by rw [hsz]; exact hlt)]
      have := (List.getElem?_eq_some_iff.1 hc).2
      rw [← this]; rfl
    unfold Instr.index
    simp only [Sem.run_bind, asIntOf, Sem.run_pure, Result.andThen_ok, run_underlying (und_ok hE hd)]
    simp [hb]
  · cases h1
theorem fieldAddrV_ok (hE : EnvOk E P) {t : TypeId} {i : Nat} (h : fieldAddrV E s t x i = some (v, s')) : s' = s ∧ ∀ A ρ x', (∀ v v', VR A ρ v v' → True) → VR A ρ x x' → ∃ v', (∀ w, (Instr.fieldAt t x' i).run P w = .ok v' w) ∧ VR A ρ v v' := by
  obtain ⟨d, hd, h1⟩ := ob_eq h
  clear h
  split at h1
  · rename_i fs
    obtain ⟨f, hf, h2⟩ := ob_eq h1
    obtain ⟨n, hn, h3⟩ := ob_eq h2
    obtain ⟨hb, h4⟩ := chk_eq h3
    obtain ⟨b, o, rfl, h5⟩ := atP_eq h4
    have := some2_eq h5
    simp only [Prod.mk.injEq] at this
    obtain ⟨rfl, rfl⟩ := this
    refine ⟨rfl, fun A ρ x' _ hx => ⟨.pointer (some ⟨(ρ b).1, o + f.offset, none⟩), fun w => ?_, fun ρ' e => ?_⟩⟩
    · rw [hx.unptr]
      rw [nthL_eq] at hf
      have hn0 : n ≠ 0 := by simp at hb; omega
      unfold Instr.fieldAt
      simp only [Sem.run_bind, run_underlying (und_ok hE hd), Result.andThen_ok]
      have hf' : (⟨fs⟩ : Array Field)[i]? = some f := by simpa using hf
      simp only [hf', Instr.sureAddr, Sem.run_bind, Sem.run_pure, Result.andThen_ok, fieldPlace, run_sizeOf hE hn, hn0, if_false, ite_false, add_lit]
    · have h1 := (hx ρ' e).trans hx.self.symm
      simp only [vmap_ptr, Value.pointer.injEq, Option.some.injEq, Addr.mk.injEq, and_true] at h1
      rw [vmap_ptr, h1]; rfl
  · cases h1
theorem indexAddrV_ok (hE : EnvOk E P) {t : TypeId} (h : indexAddrV E s t x y = some (v, s')) : s' = s ∧ ∀ A ρ x' y', VR A ρ x x' → VR A ρ y y' → ∃ v', (∀ w, (Instr.indexAt t x' y').run P w = .ok v' w) ∧ VR A ρ v v' := by
  obtain ⟨d, hd, h1⟩ := ob_eq h
  clear h
  split at h1
  · rename_i n e b o k i
    obtain ⟨hb, h2⟩ := chk_eq h1
    obtain ⟨sz, hsz, h3⟩ := ob_eq h2
    have := some2_eq h3
    simp only [Prod.mk.injEq] at this
    obtain ⟨rfl, rfl⟩ := this
    refine ⟨rfl, fun A ρ x' y' hx hy => ⟨.pointer (some ⟨(ρ b).1, o + i * sz, none⟩), fun w => ?_, fun ρ' e => ?_⟩⟩
    · rw [hx.unptr, hy.unint]
      have hi : i < n := by simpa [Nat.succ_le_iff] using hb
      unfold Instr.indexAt
      simp only [Sem.run_bind, asIntOf, Sem.run_pure, Result.andThen_ok, run_underlying (und_ok hE hd), Instr.sureAddr]
      have hc : (0 : Int) ≤ Int.ofNat i ∧ Int.ofNat i < (n : Int) := by constructor <;> simp <;> omega
      simp [hc, hi, run_sizeOf hE hsz, add_lit]
    · have h1 := (hx ρ' e).trans hx.self.symm
      simp only [vmap_ptr, Value.pointer.injEq, Option.some.injEq, Addr.mk.injEq, and_true] at h1
      rw [vmap_ptr, h1]; rfl
  · rename_i e b o n cap k i
    obtain ⟨hb, h2⟩ := chk_eq h1
    obtain ⟨sz, hsz, h3⟩ := ob_eq h2
    have := some2_eq h3
    simp only [Prod.mk.injEq] at this
    obtain ⟨rfl, rfl⟩ := this
    refine ⟨rfl, fun A ρ x' y' hx hy => ⟨.pointer (some ⟨(ρ b).1, o + i * sz, none⟩), fun w => ?_, fun ρ' e => ?_⟩⟩
    · rw [hx.unslice, hy.unint]
      have hi : i < n := by simpa [Nat.succ_le_iff] using hb
      unfold Instr.indexAt
      simp only [Sem.run_bind, asIntOf, Sem.run_pure, Result.andThen_ok, run_underlying (und_ok hE hd)]
      simp [hi, run_sizeOf hE hsz, add_lit]
    · have h1 := (hx ρ' e).trans hx.self.symm
      simp only [vmap_slice, Value.slice.injEq, Option.some.injEq, Addr.mk.injEq, and_true] at h1
      rw [vmap_ptr, h1.1]; rfl
  · cases h1
theorem lenV_ok (hE : EnvOk E P) {t ty : TypeId} (h : lenV E t x = some v) : ∀ A ρ x' ts, VR A ρ x x' → ts[0]? = some t → ∃ v', (∀ w, (Builtin.len_ ts ty #[x']).run P w = .ok v' w) ∧ VR A ρ v v' := by
  obtain ⟨d, hd, h1⟩ := ob_eq h
  clear h
  split at h1
  · rename_i z
    have := Option.some.inj h1
    subst this
    refine fun A ρ x' ts hx hts => ⟨.int .i64 (.ofNat z.length), fun w => ?_, by simpa using VR.int _ _⟩
    rw [hx.unstr]
    simp [Builtin.len_, hts, run_underlying (und_ok hE hd), goInt]
    rfl
  · rename_i e a n c
    have := Option.some.inj h1
    subst this
    refine fun A ρ x' ts hx hts => ⟨.int .i64 (.ofNat n), fun w => ?_, VR.int _ _⟩
    cases a with
    | none => rw [hx.unslice0]; simp [Builtin.len_, hts, run_underlying (und_ok hE hd), goInt]
    | some a => obtain ⟨b, o, q⟩ := a; rw [hx.unslice]; simp [Builtin.len_, hts, run_underlying (und_ok hE hd), goInt]
  · cases h1
theorem maxV_ok (h : maxV x y s = some (v, s')) : s' = s ∧ ∀ A ρ x' y' ts ty, VR A ρ x x' → VR A ρ y y' → ∃ v', (∀ w, (Builtin.max_ ts ty #[x', y']).run P w = .ok v' w) ∧ VR A ρ v v' := by
  unfold maxV at h
  split at h
  · rename_i k a k' b
    obtain ⟨hk, h2⟩ := chk_eq h
    have := some2_eq h2
    simp only [Prod.mk.injEq] at this
    obtain ⟨rfl, rfl⟩ := this
    refine ⟨rfl, fun A ρ x' y' ts ty hx hy => ⟨_, fun w => ?_, VR.int _ _⟩⟩
    rw [hx.unint, hy.unint]
    simp only [Builtin.max_, List.foldlM, Builtin.max2]
    simp [bo_eq, iLt_eq]
  · cases h
end
end Go.Ev
