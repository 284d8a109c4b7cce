/- A lemma text of the proof that what the evaluator answers holds of every run of the model. No condition beyond those that each theorem states. -/
import Derived.Test.YtbefibijhfgkdaaGreatDoorS0
import Derived.Lib.Builder
namespace Go.Ev
open Go
set_option linter.unusedSimpArgs false
set_option linter.unusedVariables false

/-- Where a block lies, and the capacity that it has. -/
abbrev Rho := Nat → Nat × Nat
def capMap (q : Nat × Nat) (c : Nat) : Nat := if unk ≤ c then q.2 - (c - unk) else c
mutual
def vmap (ρ : Rho) : Value → Value
  | .agg ⟨cs⟩ => .agg ⟨vmapL ρ cs⟩
  | .tuple ⟨cs⟩ => .tuple ⟨vmapL ρ cs⟩
  | .func fn ⟨f⟩ ⟨c⟩ => .func fn ⟨vmapL ρ f⟩ ⟨vmapL ρ c⟩
  | .iface t v => .iface t (vmap ρ v)
  | .pointer (some ⟨b, o, s⟩) => .pointer (some ⟨(ρ b).1, o, s⟩)
  | .slice (some ⟨b, o, s⟩) l c => .slice (some ⟨(ρ b).1, o, s⟩) l (capMap (ρ b) c)
  | .map (some r) => .map (some (ρ r).1)
  | .bool b => .bool b
  | .int k n => .int k n
  | .float k n => .float k n
  | .complex k a b => .complex k a b
  | .string s => .string s
  | .pointer none => .pointer none
  | .slice none l c => .slice none l c
  | .map none => .map none
  | .chan r => .chan r
  | .nilFunc => .nilFunc
  | .nilIface => .nilIface
def vmapL (ρ : Rho) : List Value → List Value
  | [] => []
  | v :: vs => vmap ρ v :: vmapL ρ vs
end
theorem vmapL_eq (ρ : Rho) (l : List Value) : vmapL ρ l = l.map (vmap ρ) := by
  induction l with
  | nil => simp [vmapL]
  | cons v vs ih => simp [vmapL, ih]
@[simp] theorem vmap_agg (ρ : Rho) (cs : List Value) : vmap ρ (.agg ⟨cs⟩) = .agg ⟨cs.map (vmap ρ)⟩ := by simp [vmap, vmapL_eq]
@[simp] theorem vmap_tuple (ρ : Rho) (cs : List Value) : vmap ρ (.tuple ⟨cs⟩) = .tuple ⟨cs.map (vmap ρ)⟩ := by simp [vmap, vmapL_eq]
@[simp] theorem vmap_func (ρ : Rho) (fn : Fn) (f c : List Value) : vmap ρ (.func fn ⟨f⟩ ⟨c⟩) = .func fn ⟨f.map (vmap ρ)⟩ ⟨c.map (vmap ρ)⟩ := by simp [vmap, vmapL_eq]
theorem vmap_ptr (ρ : Rho) (b o : Nat) (s : Option Nat) : vmap ρ (.pointer (some ⟨b, o, s⟩)) = .pointer (some ⟨(ρ b).1, o, s⟩) := by simp [vmap]
theorem vmap_slice (ρ : Rho) (b o l c : Nat) (s : Option Nat) : vmap ρ (.slice (some ⟨b, o, s⟩) l c) = .slice (some ⟨(ρ b).1, o, s⟩) l (capMap (ρ b) c) := by simp [vmap]
theorem vmap_mapv (ρ : Rho) (b : Nat) : vmap ρ (.map (some b)) = .map (some (ρ b).1) := by simp [vmap]
@[simp] theorem vmap_bool (ρ : Rho) (b : Bool) : vmap ρ (.bool b) = .bool b := by simp [vmap]
@[simp] theorem vmap_int (ρ : Rho) (k : IntKind) (n : Int) : vmap ρ (.int k n) = .int k n := by simp [vmap]
@[simp] theorem vmap_string (ρ : Rho) (s : ByteArray) : vmap ρ (.string s) = .string s := by simp [vmap]
@[simp] theorem vmap_ptr0 (ρ : Rho) : vmap ρ (.pointer none) = .pointer none := by simp [vmap]
@[simp] theorem vmap_slice0 (ρ : Rho) (l c : Nat) : vmap ρ (.slice none l c) = .slice none l c := by simp [vmap]
@[simp] theorem vmap_nilFunc (ρ : Rho) : vmap ρ .nilFunc = .nilFunc := by simp [vmap]
@[simp] theorem vmap_nilIface (ρ : Rho) : vmap ρ .nilIface = .nilIface := by simp [vmap]
theorem vmap_cells (ρ : Rho) (v : Value) : (vmap ρ v).cells.toList = v.cells.toList.map (vmap ρ) := by
  cases v <;> try (simp [vmap, Value.cells]; done)
  · rename_i a; cases a <;> simp [vmap, Value.cells]
  · rename_i a l c; cases a <;> simp [vmap, Value.cells]
  · rename_i a; cases a <;> simp [vmap, Value.cells]
  · rename_i cs; obtain ⟨cs⟩ := cs; simp [vmap, vmapL_eq, Value.cells]
theorem vmap_flat (ρ : Rho) (v : Value) : flat (vmap ρ v) = flat v := by
  cases v <;> try (simp [vmap, flat]; done)
  · rename_i a; cases a <;> simp [vmap, flat]
  · rename_i a l c; cases a <;> simp [vmap, flat]
  · rename_i a; cases a <;> simp [vmap, flat]

/- WHICH IDS A READING MAY NAME: a set A. Two placements that agree on it read it alike. -/
def Agree (A : Nat → Prop) (ρ ρ' : Rho) : Prop := ∀ i, A i → ρ' i = ρ i
def VR (A : Nat → Prop) (ρ : Rho) (v v' : Value) : Prop := ∀ ρ', Agree A ρ ρ' → vmap ρ' v = v'
def LR (A : Nat → Prop) (ρ : Rho) (l l' : List Value) : Prop := ∀ ρ', Agree A ρ ρ' → l.map (vmap ρ') = l'
section
variable {A B : Nat → Prop} {ρ ρ2 : Rho} {v v' : Value} {l l' : List Value}
theorem Agree.refl (A : Nat → Prop) (ρ : Rho) : Agree A ρ ρ := fun _ _ => rfl
theorem VR.self (h : VR A ρ v v') : vmap ρ v = v' := h ρ (Agree.refl A ρ)
theorem LR.self (h : LR A ρ l l') : l.map (vmap ρ) = l' := h ρ (Agree.refl A ρ)
theorem VR.mono (h : VR A ρ v v') (hA : ∀ i, A i → B i) (hρ : ∀ i, A i → ρ2 i = ρ i) : VR B ρ2 v v' := fun ρ' h' => h ρ' fun i hi => (h' i (hA i hi)).trans (hρ i hi)
theorem LR.mono (h : LR A ρ l l') (hA : ∀ i, A i → B i) (hρ : ∀ i, A i → ρ2 i = ρ i) : LR B ρ2 l l' := fun ρ' h' => h ρ' fun i hi => (h' i (hA i hi)).trans (hρ i hi)
theorem LR.length (h : LR A ρ l l') : l'.length = l.length := by rw [← h.self, List.length_map]
theorem LR.nil : LR A ρ [] [] := fun _ _ => rfl
theorem LR.cons (h : VR A ρ v v') (k : LR A ρ l l') : LR A ρ (v :: l) (v' :: l') := fun ρ' e => by simp [h ρ' e, k ρ' e]
theorem LR.uncons (h : LR A ρ (v :: l) l') : ∃ u us, l' = u :: us ∧ VR A ρ v u ∧ LR A ρ l us := by
  refine ⟨vmap ρ v, l.map (vmap ρ), by rw [← h.self]; rfl, fun ρ' e => ?_, fun ρ' e => ?_⟩
  · have := (h ρ' e).trans h.self.symm; simp at this; exact this.1
  · have := (h ρ' e).trans h.self.symm; simp only [List.map_cons, List.cons.injEq] at this; exact this.2
theorem LR.get {i : Nat} {u : Value} (h : LR A ρ l l') (hu : l[i]? = some u) : ∃ u', l'[i]? = some u' ∧ VR A ρ u u' := by
  refine ⟨vmap ρ u, by rw [← h.self]; simp [hu], fun ρ' e => ?_⟩
  have := congrArg (·[i]?) ((h ρ' e).trans h.self.symm)
  simpa [hu] using this
theorem LR.take (n : Nat) (h : LR A ρ l l') : LR A ρ (l.take n) (l'.take n) := fun ρ' e => by rw [← h ρ' e, List.map_take]
theorem LR.drop (n : Nat) (h : LR A ρ l l') : LR A ρ (l.drop n) (l'.drop n) := fun ρ' e => by rw [← h ρ' e, List.map_drop]
theorem LR.append {m m' : List Value} (h : LR A ρ l l') (k : LR A ρ m m') : LR A ρ (l ++ m) (l' ++ m') := fun ρ' e => by rw [← h ρ' e, ← k ρ' e, List.map_append]
theorem VR.agg (h : LR A ρ l l') : VR A ρ (.agg ⟨l⟩) (.agg ⟨l'⟩) := fun ρ' e => by simp [h ρ' e]
theorem VR.tuple (h : LR A ρ l l') : VR A ρ (.tuple ⟨l⟩) (.tuple ⟨l'⟩) := fun ρ' e => by simp [h ρ' e]
theorem VR.unagg (h : VR A ρ (.agg ⟨l⟩) v') : ∃ l', v' = .agg ⟨l'⟩ ∧ LR A ρ l l' := by
  refine ⟨l.map (vmap ρ), by rw [← h.self]; simp, fun ρ' e => ?_⟩
  have := (h ρ' e).trans h.self.symm
  simpa using this
theorem VR.untuple (h : VR A ρ (.tuple ⟨l⟩) v') : ∃ l', v' = .tuple ⟨l'⟩ ∧ LR A ρ l l' := by
  refine ⟨l.map (vmap ρ), by rw [← h.self]; simp, fun ρ' e => ?_⟩
  have := (h ρ' e).trans h.self.symm
  simpa using this
theorem VR.unfunc {fn : Fn} {f c : List Value} (h : VR A ρ (.func fn ⟨f⟩ ⟨c⟩) v') : ∃ f' c', v' = .func fn ⟨f'⟩ ⟨c'⟩ ∧ LR A ρ f f' ∧ LR A ρ c c' := by
  refine ⟨f.map (vmap ρ), c.map (vmap ρ), by rw [← h.self]; simp, fun ρ' e => ?_, fun ρ' e => ?_⟩ <;>
  · have := (h ρ' e).trans h.self.symm
    simp at this
    first | exact List.map_congr_left (fun x hx => this.1 x hx) | exact List.map_congr_left (fun x hx => this.2 x hx)
theorem VR.func {fn : Fn} {f c f' c' : List Value} (h : LR A ρ f f') (k : LR A ρ c c') : VR A ρ (.func fn ⟨f⟩ ⟨c⟩) (.func fn ⟨f'⟩ ⟨c'⟩) := fun ρ' e => by simp [h ρ' e, k ρ' e]
theorem VR.cells (h : VR A ρ v v') : LR A ρ v.cells.toList v'.cells.toList := fun ρ' e => by rw [← vmap_cells, h ρ' e]
theorem LR.flats (h : LR A ρ l l') (hf : ∀ v ∈ l, flat v = true) : ∀ v ∈ l', flat v = true := by
  rw [← h.self]
  intro v hv
  obtain ⟨u, hu, rfl⟩ := List.mem_map.1 hv
  rw [vmap_flat]; exact hf u hu
theorem VR.ground (h : ∀ ρ, vmap ρ v = v) : VR A ρ v v := fun ρ' _ => h ρ'
theorem VR.bool (b : Bool) : VR A ρ (.bool b) (.bool b) := VR.ground (by simp)
theorem VR.int (k : IntKind) (n : Int) : VR A ρ (.int k n) (.int k n) := VR.ground (by simp)
theorem VR.str (s : ByteArray) : VR A ρ (.string s) (.string s) := VR.ground (by simp)
theorem VR.undef : VR A ρ (.tuple ⟨[]⟩) (.tuple ⟨[]⟩) := VR.ground (by simp)
theorem VR.ptr {b o : Nat} {s : Option Nat} (h : A b) : VR A ρ (.pointer (some ⟨b, o, s⟩)) (.pointer (some ⟨(ρ b).1, o, s⟩)) := fun ρ' e => by rw [vmap_ptr, e b h]
theorem VR.slice {b o l c : Nat} {s : Option Nat} (h : A b) : VR A ρ (.slice (some ⟨b, o, s⟩) l c) (.slice (some ⟨(ρ b).1, o, s⟩) l (capMap (ρ b) c)) := fun ρ' e => by rw [vmap_slice, e b h]
theorem VR.mapv {b : Nat} (h : A b) : VR A ρ (.map (some b)) (.map (some (ρ b).1)) := fun ρ' e => by rw [vmap_mapv, e b h]
theorem VR.unint {k : IntKind} {n : Int} (h : VR A ρ (.int k n) v') : v' = .int k n := by rw [← h.self]; simp
theorem VR.unbool {b : Bool} (h : VR A ρ (.bool b) v') : v' = .bool b := by rw [← h.self]; simp
theorem VR.unstr {s : ByteArray} (h : VR A ρ (.string s) v') : v' = .string s := by rw [← h.self]; simp
end

def SetAdd (A : Nat → Prop) (n m : Nat) : Nat → Prop := fun i => A i ∨ (n ≤ i ∧ i < m)
def ObjR (P : Program) (A : Nat → Prop) (ρ : Rho) (q : Nat × Nat) : AObj → Obj → Prop
  | .cells c e w, x => ∃ (c' rest : List Value) (fr : Nat × Nat), x = .cells ⟨c' ++ rest⟩ e fr ∧ LR A ρ c c' ∧
      (w = true → fr = (0, 0) ∧ c.length + rest.length = q.2 * P.cellsOf e ∧ 0 < P.cellsOf e ∧ q.2 ≤ maxLen) ∧
      (w = false → (rest = [] ∧ fr = (0, 0)) ∨ (P.underlying e = some (.int .u8) ∧ P.cellsOf e = 1 ∧ c.length + rest.length ≤ fr.1 ∧ q.2 = c.length + rest.length))
  | .map es, x => ∃ (xs : List MapEntry) (k : Nat), x = .map ⟨xs⟩ k ∧ LR A ρ (es.map (·.1)) (xs.map (·.key)) ∧ LR A ρ (es.map (·.2)) (xs.map (·.val))
  | .siter z p, x => x = .stringIter ⟨⟨z⟩⟩ p
  | .glob c, x => ∃ (c' rest : List Value) (t : TypeId) (fr : Nat × Nat), x = .cells ⟨c' ++ rest⟩ t fr ∧ LR A ρ c c'
  | .miter m, x => A m ∧ ∃ since last, x = .mapIter (some (ρ m).1) since #[] last
theorem ObjR.mono {P : Program} {A B : Nat → Prop} {ρ ρ2 : Rho} {q : Nat × Nat} {o : AObj} {x : Obj} (h : ObjR P A ρ q o x) (hA : ∀ i, A i → B i) (hρ : ∀ i, A i → ρ2 i = ρ i) : ObjR P B ρ2 q o x := by
  cases o with
  | cells c e w => obtain ⟨c', rest, fr, h1, h2, h3, h4⟩ := h; exact ⟨c', rest, fr, h1, h2.mono hA hρ, h3, h4⟩
  | map es => obtain ⟨xs, k, h1, h2, h3⟩ := h; exact ⟨xs, k, h1, h2.mono hA hρ, h3.mono hA hρ⟩
  | siter z p => exact h
  | glob c => obtain ⟨c', rest, t, fr, h1, h2⟩ := h; exact ⟨c', rest, t, fr, h1, h2.mono hA hρ⟩
  | miter m => obtain ⟨h1, since, last, h2⟩ := h; exact ⟨hA m h1, since, last, by rw [hρ m h1]; exact h2⟩

structure StateR (P : Program) (X A : Nat → Prop) (ρ : Rho) (g : Nat → Option AObj) (w : World) : Prop where
  obj : ∀ b o, X b → g b = some o → A b ∧ ∃ x, w.heap[(ρ b).1]? = some x ∧ ObjR P A ρ (ρ b) o x
  inj : ∀ b b' o o', X b → X b' → g b = some o → g b' = some o' → (ρ b).1 = (ρ b').1 → b = b'

/-- What a step leaves of the world: all blocks but those that it touches. -/
structure Fr (w w' : World) (touch : Nat → Prop) : Prop where
  os : w'.os = w.os
  tape : w'.tape = w.tape
  output : w'.output = w.output
  size : w.heap.size ≤ w'.heap.size
  block : ∀ r, r < w.heap.size → ¬ touch r → w'.heap[r]? = w.heap[r]?
theorem Fr.refl (w : World) (t : Nat → Prop) : Fr w w t := ⟨rfl, rfl, rfl, Nat.le_refl _, fun _ _ _ => rfl⟩

abbrev In (m b : Nat) : Prop := m.testBit b = true
structure Good (P : Program) (X A : Nat → Prop) (ρ : Rho) (s s' : St) (w w' : World) (ρ' : Rho) : Prop where
  next : s.next ≤ s'.next
  same : ∀ i, ¬ (s.next ≤ i ∧ i < s'.next) → ρ' i = ρ i
  state : StateR P X (SetAdd A s.next s'.next) ρ' s'.heap.get w'
  frame : Fr w w' fun r => ∃ b o, In s'.wr b ∧ X b ∧ s.heap.get b = some o ∧ (ρ b).1 = r
  old : ∀ b, b < s.next → s'.heap.get b ≠ none → s.heap.get b ≠ none
  fresh : ∀ b, s.next ≤ b → b < s'.next → s'.heap.get b ≠ none → w.heap.size ≤ (ρ' b).1 ∨ ∃ c o, In s'.wr c ∧ X c ∧ s.heap.get c = some o ∧ (ρ' b).1 = (ρ c).1
  kept : ∀ b, b < s.next → ¬ In s'.wr b → s'.heap.get b = s.heap.get b
  above : ∀ b, s'.next ≤ b → s'.heap.get b = none

/-- What the two states alone tell, whatever the world. -/
structure Grows (s s' : St) : Prop where
  next : s.next ≤ s'.next
  acc : ∀ b, In s.acc b → In s'.acc b
  wr : ∀ b, In s.wr b → In s'.wr b
  made : ∀ b, s.next ≤ b → b < s'.next → In s'.wr b
  sub : (∀ b, In s.wr b → In s.acc b) → ∀ b, In s'.wr b → In s'.acc b
  kept : ∀ b, b < s.next → ¬ In s'.wr b → s'.heap.get b = s.heap.get b
  above : (∀ b, s.next ≤ b → s.heap.get b = none) → ∀ b, s'.next ≤ b → s'.heap.get b = none
end Go.Ev
