/- A lemma text of the proof that what the evaluator answers holds of every run of the model. No condition beyond those that each theorem states. -/
import Derived.Test.YtbefibijhfgkdaaGreatDoorS3
namespace Go.Ev
open Go
set_option linter.unusedSimpArgs false
set_option linter.unusedVariables false

def Rho.at (ρ : Rho) (n : Nat) (q : Nat × Nat) : Rho := fun i => if i = n then q else ρ i
@[simp] theorem Rho.at_same (ρ : Rho) (n : Nat) (q : Nat × Nat) : ρ.at n q n = q := by simp [Rho.at]
theorem Rho.at_ne (ρ : Rho) {n i : Nat} (q : Nat × Nat) (h : i ≠ n) : ρ.at n q i = ρ i := by simp [Rho.at, h]

section
variable {P : Program} {X A : Nat → Prop} {ρ : Rho} {s s' : St} {w w' : World}
/-- A block, written. -/
theorem Good.write {b : Nat} {o o' : AObj} {x' : Obj} (hst : StateR P X A ρ s.heap.get w) (hab : ∀ b, s.next ≤ b → s.heap.get b = none) (hx : X b) (hg : s.heap.get b = some o)
    (hget : ∀ c, s'.heap.get c = if c = b then some o' else s.heap.get c) (hnext : s'.next = s.next) (hwr : In s'.wr b)
    (hx' : w'.heap[(ρ b).1]? = some x') (ho : ObjR P A ρ (ρ b) o' x') (hf : Fr w w' fun r => r = (ρ b).1) : Good P X A ρ s s' w w' ρ := by
  have hbn : b < s.next := by
    rcases Nat.lt_or_ge b s.next with h | h
    · exact h
    · rw [hab b h] at hg; cases hg
  have key : ∀ c o2, X c → s'.heap.get c = some o2 → ∃ o3, s.heap.get c = some o3 := by
    intro c o2 _ h
    rw [hget] at h
    split at h
    · subst c; exact ⟨o, hg⟩
    · exact ⟨o2, h⟩
  refine ⟨by omega, fun _ _ => rfl, ⟨fun c o2 hc h => ?_, fun c c' o2 o3 hc hc' h h' e => ?_⟩, ⟨hf.os, hf.tape, hf.output, hf.size, fun r hr ht => hf.block r hr fun e => ht ⟨b, o, hwr, hx, hg, e.symm⟩⟩, fun c hc h => ?_, fun c h1 h2 => by omega, fun c hc hw => ?_, fun c hc => ?_⟩
  · rw [hget] at h
    split at h
    · subst c
      cases h
      exact ⟨.inl (hst.obj b o hx hg).1, x', hx', ho.mono (fun i hi => .inl hi) (fun _ _ => rfl)⟩
    · rename_i hne
      obtain ⟨h1, x, h2, h3⟩ := hst.obj c o2 hc h
      refine ⟨.inl h1, x, ?_, h3.mono (fun i hi => .inl hi) (fun _ _ => rfl)⟩
      rw [hf.block _ (Array.getElem?_eq_some_iff.1 h2).1 (fun e => hne (hst.inj c b o2 o hc hx h hg e))]
      exact h2
  · obtain ⟨o4, h4⟩ := key c o2 hc h
    obtain ⟨o5, h5⟩ := key c' o3 hc' h'
    exact hst.inj c c' o4 o5 hc hc' h4 h5 e
  · rw [hget] at h
    split at h
    · subst c; rw [hg]; simp
    · exact h
  · rw [hget, if_neg]
    rintro rfl
    exact hw hwr
  · rw [hget, if_neg (by omega)]
    exact hab c (by omega)

/-- A new block. -/
theorem Good.alloc {o : AObj} {x : Obj} {q : Nat × Nat} (hst : StateR P X A ρ s.heap.get w) (hab : ∀ b, s.next ≤ b → s.heap.get b = none) (hA : ∀ i, A i → i < s.next)
    (hget : ∀ c, s'.heap.get c = if c = s.next then some o else s.heap.get c) (hnext : s'.next = s.next + 1) (hwr : In s'.wr s.next)
    (hq : w.heap.size ≤ q.1) (hx : w'.heap[q.1]? = some x) (ho : ObjR P A ρ q o x) (hf : Fr w w' fun _ => False) : Good P X A ρ s s' w w' (ρ.at s.next q) := by
  have hρ : ∀ i, A i → ρ.at s.next q i = ρ i := fun i hi => Rho.at_ne ρ q (by have := hA i hi; omega)
  have hlt : ∀ c o2, X c → s.heap.get c = some o2 → (ρ c).1 < w.heap.size := fun c o2 hc h => hst.lt hc h
  have hne : ∀ c o2, s.heap.get c = some o2 → c ≠ s.next := by
    rintro c o2 h rfl
    rw [hab _ (Nat.le_refl _)] at h; cases h
  refine ⟨by omega, fun i hi => Rho.at_ne ρ q (by omega), ⟨fun c o2 hc h => ?_, fun c c' o2 o3 hc hc' h h' e => ?_⟩, ⟨hf.os, hf.tape, hf.output, hf.size, fun r hr ht => hf.block r hr fun e => e⟩, fun c hc h => ?_, fun c h1 h2 h3 => ?_, fun c hc hw => ?_, fun c hc => ?_⟩
  · rw [hget] at h
    split at h
    · subst c
      cases h
      rw [Rho.at_same]
      exact ⟨.inr ⟨Nat.le_refl _, by omega⟩, x, hx, ho.mono (fun i hi => .inl hi) hρ⟩
    · obtain ⟨h1, y, h2, h3⟩ := hst.obj c o2 hc h
      rw [hρ c h1]
      refine ⟨.inl h1, y, ?_, h3.mono (fun i hi => .inl hi) hρ⟩
      rw [hf.block _ (Array.getElem?_eq_some_iff.1 h2).1 (fun e => e)]
      exact h2
  · rw [hget] at h h'
    split at h <;> split at h'
    · omega
    · subst c
      rw [Rho.at_same, Rho.at_ne ρ q (hne c' o3 h')] at e
      have := hlt c' o3 hc' h'
      omega
    · subst c'
      rw [Rho.at_same, Rho.at_ne ρ q (hne c o2 h)] at e
      have := hlt c o2 hc h
      omega
    · rw [Rho.at_ne ρ q (hne c o2 h), Rho.at_ne ρ q (hne c' o3 h')] at e
      exact hst.inj c c' o2 o3 hc hc' h h' e
  · rw [hget, if_neg (by omega)] at h
    exact h
  · have : c = s.next := by omega
    subst c
    rw [Rho.at_same]
    exact .inl hq
  · rw [hget, if_neg (by omega)]
  · rw [hget, if_neg (by omega)]
    exact hab c (by omega)

/-- A row that was appended to where it lay: the old id is dead, a new one tells of the block. -/
theorem Good.renew {b : Nat} {o o' : AObj} {x' : Obj} (hst : StateR P X A ρ s.heap.get w) (hab : ∀ b, s.next ≤ b → s.heap.get b = none) (hA : ∀ i, A i → i < s.next) (hx : X b) (hg : s.heap.get b = some o)
    (hget : ∀ c, s'.heap.get c = if c = s.next then some o' else if c = b then none else s.heap.get c) (hnext : s'.next = s.next + 1) (hwr : In s'.wr b) (hwn : In s'.wr s.next)
    (hx' : w'.heap[(ρ b).1]? = some x') (ho : ObjR P A ρ (ρ b) o' x') (hf : Fr w w' fun r => r = (ρ b).1) : Good P X A ρ s s' w w' (ρ.at s.next (ρ b)) := by
  have hρ : ∀ i, A i → ρ.at s.next (ρ b) i = ρ i := fun i hi => Rho.at_ne ρ (ρ b) (by have := hA i hi; omega)
  have hne : ∀ c o2, s.heap.get c = some o2 → c ≠ s.next := by
    rintro c o2 h rfl
    rw [hab _ (Nat.le_refl _)] at h; cases h
  refine ⟨by omega, fun i hi => Rho.at_ne ρ _ (by omega), ⟨fun c o2 hc h => ?_, fun c c' o2 o3 hc hc' h h' e => ?_⟩, ⟨hf.os, hf.tape, hf.output, hf.size, fun r hr ht => hf.block r hr fun e => ht ⟨b, o, hwr, hx, hg, e.symm⟩⟩, fun c hc h => ?_, fun c h1 h2 h3 => ?_, fun c hc hw => ?_, fun c hc => ?_⟩
  · rw [hget] at h
    split at h
    · subst c
      cases h
      rw [Rho.at_same]
      exact ⟨.inr ⟨Nat.le_refl _, by omega⟩, x', hx', ho.mono (fun i hi => .inl hi) hρ⟩
    · split at h
      · cases h
      · rename_i hcb
        obtain ⟨h1, y, h2, h3⟩ := hst.obj c o2 hc h
        rw [hρ c h1]
        refine ⟨.inl h1, y, ?_, h3.mono (fun i hi => .inl hi) hρ⟩
        rw [hf.block _ (Array.getElem?_eq_some_iff.1 h2).1 (fun e => hcb (hst.inj c b o2 o hc hx h hg e))]
        exact h2
  · rw [hget] at h h'
    split at h <;> split at h'
    · omega
    · subst c
      split at h'
      · cases h'
      · rename_i hcb
        rw [Rho.at_same, Rho.at_ne ρ _ (hne c' o3 h')] at e
        exact absurd (hst.inj c' b o3 o hc' hx h' hg e.symm) hcb
    · subst c'
      split at h
      · cases h
      · rename_i hcb
        rw [Rho.at_same, Rho.at_ne ρ _ (hne c o2 h)] at e
        exact absurd (hst.inj c b o2 o hc hx h hg e) hcb
    · split at h
      · cases h
      · split at h'
        · cases h'
        · rw [Rho.at_ne ρ _ (hne c o2 h), Rho.at_ne ρ _ (hne c' o3 h')] at e
          exact hst.inj c c' o2 o3 hc hc' h h' e
  · rw [hget, if_neg (by omega)] at h
    split at h
    · exact absurd rfl h
    · exact h
  · have : c = s.next := by omega
    subst c
    rw [Rho.at_same]
    exact .inr ⟨b, o, hwr, hx, hg, rfl⟩
  · rw [hget, if_neg (by omega), if_neg]
    rintro rfl
    exact hw hwr
  · rw [hget, if_neg (by omega)]
    split
    · rfl
    · exact hab c (by omega)
/-- A row that is given up. -/
theorem Good.drop {b : Nat} (hst : StateR P X A ρ s.heap.get w) (hab : ∀ b, s.next ≤ b → s.heap.get b = none)
    (hget : ∀ c, s'.heap.get c = if c = b then none else s.heap.get c) (hnext : s'.next = s.next) (hwr : In s'.wr b) {o : AObj} (hx : X b) (hg : s.heap.get b = some o)
    (hf : Fr w w' fun r => r = (ρ b).1) : Good P X A ρ s s' w w' ρ := by
  refine ⟨by omega, fun i hi => rfl, ⟨fun c o2 hc h => ?_, fun c c' o2 o3 hc hc' h h' e => ?_⟩, ⟨hf.os, hf.tape, hf.output, hf.size, fun r hr ht => hf.block r hr fun e => ht ⟨b, o, hwr, hx, hg, e.symm⟩⟩, fun c hc h => ?_, fun c h1 h2 h3 => by omega, fun c hc hw => ?_, fun c hc => ?_⟩
  · rw [hget] at h
    split at h
    · cases h
    · rename_i hcb
      obtain ⟨h1, y, h2, h3⟩ := hst.obj c o2 hc h
      refine ⟨.inl h1, y, ?_, h3.mono (fun i hi => .inl hi) (fun _ _ => rfl)⟩
      rw [hf.block _ (Array.getElem?_eq_some_iff.1 h2).1 (fun e => hcb (hst.inj c b o2 o hc hx h hg e))]
      exact h2
  · rw [hget] at h h'
    split at h
    · cases h
    · split at h'
      · cases h'
      · exact hst.inj c c' o2 o3 hc hc' h h' e
  · rw [hget] at h
    split at h
    · exact absurd rfl h
    · exact h
  · rw [hget, if_neg]
    rintro rfl
    exact hw hwr
  · rw [hget]
    split
    · rfl
    · exact hab c (by omega)

theorem Fr.alloc (w : World) (o : Obj) : Fr w (w.alloc o) fun _ => False := ⟨rfl, rfl, rfl, by simp, fun r hr _ => heap_alloc_old w o r hr⟩
theorem Fr.drewAlloc (w : World) (o : Obj) : Fr w (w.drew.alloc o) fun _ => False := ⟨rfl, rfl, rfl, by simp, fun r hr _ => heap_alloc_old w.drew o r hr⟩
theorem Fr.setRow (w : World) (g : Nat) (cs : Array Value) : Fr w (w.setRow g cs) fun r => r = g := ⟨rfl, rfl, rfl, by simp, fun r _ h => setRow_other w g r cs h⟩
end
end Go.Ev
