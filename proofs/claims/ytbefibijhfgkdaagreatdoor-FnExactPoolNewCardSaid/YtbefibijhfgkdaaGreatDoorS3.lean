/- A lemma text of the proof that what the evaluator answers holds of every run of the model. No condition beyond those that each theorem states. -/
import Derived.Test.YtbefibijhfgkdaaGreatDoorS2
import Derived.Laws.CopyRow
import Derived.Laws.Rows
import Derived.Laws.Tables
namespace Go.Ev
open Go
set_option linter.unusedSimpArgs false
set_option linter.unusedVariables false

structure EnvOk (E : Env) (P : Program) : Prop where
  ty : ∀ t i, E.ty.get t = some i → P.info? t = some i
  fn : ∀ f x, E.fn.get f = some x → P.funcs[f]? = some x
  bld : liesAt P P.depth E.bld (2 / P.cellsOf E.bld) 0 E.bld 1 = true
  bld8 : P.underlying E.bld ≠ some (.int .u8)
  eqs : ∀ t xs, eqOk t xs E.eqs = true → ∀ (ys : List Value) (r : Bool), cellsEq xs ys = some r → ∀ w, (Op.equal t (.agg ⟨xs⟩) (.agg ⟨ys⟩)).run P w = .ok r w ∧ ∀ op ox oy, (eqGuard op t ox oy (.agg ⟨xs⟩) (.agg ⟨ys⟩)).run P w = .ok () w
  keys : ∀ t xs, eqOk t xs E.eqs = true → ∀ b w, (Instr.checkKey b 10000 t (.agg ⟨xs⟩)).run P w = .ok () w
  zs : ∀ t i z, E.ty.get t = some i → i.zero = some z → ∀ ρ, vmap ρ z = z
section
variable {E : Env} {P : Program}
theorem und_ok (hE : EnvOk E P) {t : TypeId} {d : TypeDesc} (h : und E t = some d) : P.underlying t = some d := by
  obtain ⟨i, hi, h⟩ := ob_eq h
  have h1 := hE.ty t i hi
  unfold Program.underlying
  rw [h1]
  unfold und1 at h
  split at h
  · rename_i n u hd
    obtain ⟨j, hj, h⟩ := ob_eq h
    have h2 := hE.ty u j hj
    obtain ⟨desc, _, _, _, _, _, _, _, _, _⟩ := i
    simp only at hd
    subst hd
    simpa [h2] using h
  · rename_i hd
    obtain ⟨desc, _, _, _, _, _, _, _, _, _⟩ := i
    simp only at hd h ⊢
    cases desc <;> simp_all
theorem size_ok (hE : EnvOk E P) {t : TypeId} {n : Nat} (h : size E t = some n) : ∃ i, P.info? t = some i ∧ i.size = n := by
  obtain ⟨i, hi, h⟩ := ob_eq h
  exact ⟨i, hE.ty t i hi, by simpa using h⟩
theorem zero_ok (hE : EnvOk E P) {t : TypeId} {z : Value} (h : zero E t = some z) : ∃ i, P.info? t = some i ∧ i.zero = some z := by
  obtain ⟨i, hi, h⟩ := ob_eq h
  exact ⟨i, hE.ty t i hi, h⟩
theorem zero_ground (hE : EnvOk E P) {t : TypeId} {z : Value} (h : zero E t = some z) (ρ : Rho) : vmap ρ z = z := by
  obtain ⟨i, hi, h⟩ := ob_eq h
  exact hE.zs t i z hi h ρ
theorem run_isAgg (hE : EnvOk E P) {t : TypeId} {d : TypeDesc} (h : und E t = some d) (w : World) : (isAgg t).run P w = .ok (aggD d) w := by
  unfold isAgg
  simp only [Sem.run_bind, run_underlying (und_ok hE h) w, Result.andThen_ok]
  cases d <;> rfl
theorem run_sizeOf (hE : EnvOk E P) {t : TypeId} {n : Nat} (h : size E t = some n) (w : World) : (sizeOf t).run P w = .ok n w := by
  obtain ⟨i, h1, h2⟩ := size_ok hE h
  simp [sizeOf, typeInfo, h1, h2]
theorem run_zeroValue (hE : EnvOk E P) {t : TypeId} {z : Value} (h : zero E t = some z) (w : World) : (zeroValue t).run P w = .ok z w := by
  obtain ⟨i, h1, h2⟩ := zero_ok hE h
  simp [zeroValue, typeInfo, h1, h2]
theorem cellsOf_ok (hE : EnvOk E P) {t : TypeId} {n : Nat} (h : size E t = some n) : P.cellsOf t = n := by
  obtain ⟨i, h1, h2⟩ := size_ok hE h
  simp [Program.cellsOf, h1, h2]
end

theorem flat_one (v : Value) : flat v = v.oneCell' := by cases v <;> rfl
theorem add_lit (b o i : Nat) : (⟨b, o, none⟩ : Addr).add i = ⟨b, o + i, none⟩ := by unfold Addr.add; split <;> simp_all
theorem cell_at {w : World} {g : Nat} {cs : List Value} {e : TypeId} {fr : Nat × Nat} (hg : w.heap[g]? = some (.cells ⟨cs⟩ e fr)) (j : Nat) : w.cell? ⟨g, j, none⟩ = cs[j]? := by
  simp [World.cell?, hg]
theorem run_loadCells_at (P : Program) {w : World} {g : Nat} {cs : List Value} {e : TypeId} {fr : Nat × Nat} (hg : w.heap[g]? = some (.cells ⟨cs⟩ e fr)) (o n : Nat) (h : o + n ≤ cs.length) :
    (loadCells ⟨g, o, none⟩ n).run P w = .ok ((cs.drop o).take n).toArray w := by
  have hl : ((cs.drop o).take n).length = n := by simp; omega
  have := run_loadCells_list (P := P) w ⟨g, o, none⟩ ((cs.drop o).take n) (fun j v hv => by
    rw [add_lit, cell_at hg]
    rw [List.getElem?_take] at hv
    split at hv
    · simpa using hv
    · cases hv)
  rwa [hl] at this
theorem take_set_succ (v : Value) : ∀ (l : List Value) (k : Nat), k < l.length → (l.set k v).take (k + 1) = l.take k ++ [v]
  | [], k, h => by simp at h
  | x :: xs, 0, _ => by simp
  | x :: xs, k + 1, h => by simpa using take_set_succ v xs k (by simpa using h)
theorem drop_set_succ (v : Value) (l : List Value) (k m : Nat) : (l.set k v).drop (k + 1 + m) = l.drop (k + 1 + m) := by
  rw [List.drop_set_of_lt (by omega)]
/-- 'run_storeCells_at', the row's frozen range being none of its cells. -/
theorem run_storeCells_any (P : Program) (g o : Nat) (t : TypeId) (fz : Nat × Nat) : ∀ (vs : List Value) (i : Nat) (cur : Array Value) (w : World), w.heap[g]? = some (.cells cur t fz) → (fz = (0, 0) ∨ cur.size ≤ fz.1) → o + i + vs.length ≤ cur.size → (∀ v ∈ vs, v.oneCell' = true) →
    (storeCells ⟨g, o, none⟩ vs i).run P w = .ok () (w.setRow g (cur.toList.take (o + i) ++ vs ++ cur.toList.drop (o + i + vs.length)).toArray)
  | [], i, cur, w, hg, _, _, _ => by
    simp only [storeCells, List.append_nil, List.length_nil, Nat.add_zero, List.take_append_drop, Array.toArray_toList]
    rw [setRow_self w g cur t fz hg]
    rfl
  | v :: rest, i, cur, w, hg, hfz, hl, h1 => by
    have hi : o + i < cur.size := by simp at hl; omega
    have hadd : (⟨g, o, none⟩ : Addr).add i = ⟨g, o + i, none⟩ := add_lit g o i
    have hcell : w.cell? ⟨g, o + i, none⟩ = some cur[o + i] := by simp [World.cell?, hg, hi]
    have hfro : w.frozen? ⟨g, o + i, none⟩ = false := by
      obtain ⟨lo, hi'⟩ := fz
      simp only [World.frozen?, hg, Bool.and_eq_false_iff, decide_eq_false_iff_not]
      rcases hfz with h | h
      · simp at h; omega
      · simp only at h; omega
    have hst : (store ((⟨g, o, none⟩ : Addr).add i) v).run P w = .ok () (w.setRow g (cur.setIfInBounds (o + i) v)) := by
      rw [hadd, run_store P w _ v _ (h1 v (by simp)), hcell]
      simp [hfro, setCell_eq_setRow w g (o + i) cur t fz v hg]
    have ih := run_storeCells_any P g o t fz rest (i + 1) (cur.setIfInBounds (o + i) v) (w.setRow g (cur.setIfInBounds (o + i) v)) (setRow_heap w g cur _ t _ hg) (by simpa using hfz) (by simp at hl ⊢; omega) (fun x hx => h1 x (by simp [hx]))
    simp only [storeCells, Sem.run_bind, hst, Result.andThen_ok, ih, setRow_setRow]
    congr 3
    rw [Array.toList_setIfInBounds, show o + (i + 1) = o + i + 1 by omega, take_set_succ _ _ _ (by simpa using hi), drop_set_succ, List.length_cons, show o + i + 1 + rest.length = o + i + (rest.length + 1) by omega]
    simp

section
variable {E : Env} {P : Program} {X A : Nat → Prop} {ρ : Rho} {s s' : St} {w : World}
theorem row_eq {β : Type} {k : List Value → TypeId → Bool → St → Option β} {b : Nat} {r : β} (h : s.row b k = some r) : ∃ c e u, s.heap.get b = some (.cells c e u) ∧ k c e u (s.read b) = some r := by
  obtain ⟨o, h1, h2⟩ := ob_eq h
  cases o with
  | cells c e u => exact ⟨c, e, u, h1, h2⟩
  | map es => cases h2
  | siter z p => cases h2
  | miter m => cases h2
  | glob c => cases h2
/-- What a row's entry says of the world. -/
theorem StateR.row (h : StateR P X A ρ s.heap.get w) {b : Nat} {c : List Value} {e : TypeId} {u : Bool} (hx : X b) (hg : s.heap.get b = some (.cells c e u)) :
    A b ∧ ∃ (c' rest : List Value) (fr : Nat × Nat), w.heap[(ρ b).1]? = some (.cells ⟨c' ++ rest⟩ e fr) ∧ LR A ρ c c' ∧ c'.length = c.length ∧ (fr = (0, 0) ∨ (c' ++ rest).length ≤ fr.1) ∧
      (u = true → fr = (0, 0) ∧ c.length + rest.length = (ρ b).2 * P.cellsOf e ∧ 0 < P.cellsOf e ∧ (ρ b).2 ≤ maxLen) ∧
      (u = false → (rest = [] ∧ fr = (0, 0)) ∨ (P.underlying e = some (.int .u8) ∧ P.cellsOf e = 1 ∧ c.length + rest.length ≤ fr.1 ∧ (ρ b).2 = c.length + rest.length)) := by
  obtain ⟨h1, x, h2, c', rest, fr, rfl, h3, h4, h5⟩ := h.obj b _ hx hg
  refine ⟨h1, c', rest, fr, h2, h3, h3.length, ?_, h4, h5⟩
  cases u with
  | true => exact .inl (h4 rfl).1
  | false => rcases h5 rfl with h6 | h6
             · exact .inl h6.2
             · exact .inr (by rw [List.length_append, h3.length]; exact h6.2.2.1)

theorem rowG_eq {β : Type} {k : List Value → St → Option β} {b : Nat} {r : β} (h : s.rowG b k = some r) : ∃ c, ((∃ e u, s.heap.get b = some (.cells c e u)) ∨ s.heap.get b = some (.glob c)) ∧ k c (s.read b) = some r := by
  obtain ⟨o, h1, h2⟩ := ob_eq h
  cases o with
  | cells c e u => exact ⟨c, .inl ⟨e, u, h1⟩, h2⟩
  | map es => cases h2
  | siter z p => cases h2
  | miter m => cases h2
  | glob c => exact ⟨c, .inr h1, h2⟩
theorem StateR.rowG (h : StateR P X A ρ s.heap.get w) {b : Nat} {c : List Value} (hx : X b) (hg : (∃ e u, s.heap.get b = some (.cells c e u)) ∨ s.heap.get b = some (.glob c)) :
    A b ∧ ∃ (c' rest : List Value) (e : TypeId) (fr : Nat × Nat), w.heap[(ρ b).1]? = some (.cells ⟨c' ++ rest⟩ e fr) ∧ LR A ρ c c' ∧ c'.length = c.length := by
  rcases hg with ⟨e, u, hg⟩ | hg
  · obtain ⟨h1, c', rest, fr, h2, h3, h4, _⟩ := h.row hx hg
    exact ⟨h1, c', rest, e, fr, h2, h3, h4⟩
  · obtain ⟨h1, x, h2, c', rest, t, fr, rfl, h3⟩ := h.obj b _ hx hg
    exact ⟨h1, c', rest, t, fr, h2, h3, h3.length⟩
theorem loadV_ok (hE : EnvOk E P) {t : TypeId} {b off : Nat} {v : Value} (h : loadV E s t b off = some (v, s')) :
    s' = s.read b ∧ ∀ X A ρ w, X b → StateR P X A ρ s.heap.get w → ∃ v', (loadVar t ⟨(ρ b).1, off, none⟩).run P w = .ok v' w ∧ VR A ρ v v' := by
  obtain ⟨c, hg, h⟩ := rowG_eq h
  obtain ⟨d, hd, h⟩ := ob_eq h
  cases ha : aggD d with
  | true =>
    rw [ha] at h
    obtain ⟨n, hn, h⟩ := ob_eq h
    obtain ⟨cs, hcs, h⟩ := ob_eq h
    simp only [Option.some.injEq, Prod.mk.injEq] at h
    obtain ⟨rfl, rfl⟩ := h
    refine ⟨rfl, fun X A ρ w hx hst => ?_⟩
    obtain ⟨h1, c', rest, e, fr, h2, h3, h4⟩ := hst.rowG hx hg
    rw [dropN_eq] at hcs
    obtain ⟨h5, rfl⟩ := takeN_some hcs
    rw [List.length_drop] at h5
    rcases Nat.eq_zero_or_pos n with rfl | hn0
    · refine ⟨.agg #[], ?_, ?_⟩
      · unfold loadVar
        simp only [Sem.run_bind, run_isAgg hE hd, ha, Result.andThen_ok, if_true, run_sizeOf hE hn]
        rfl
      · simpa using VR.agg (LR.nil (A := A) (ρ := ρ))
    · refine ⟨.agg ⟨(c'.drop off).take n⟩, ?_, ?_⟩
      · unfold loadVar
        simp only [Sem.run_bind, run_isAgg hE hd, ha, Result.andThen_ok, if_true, run_sizeOf hE hn]
        rw [run_loadCells_at P h2 off n (by simp; omega)]
        have : ((c' ++ rest).drop off).take n = (c'.drop off).take n := by
          rw [List.drop_append_of_le_length (by omega), List.take_append_of_le_length (by simp; omega)]
        simp [this]
      · exact VR.agg ((h3.drop off).take n)
  | false =>
    rw [ha] at h
    obtain ⟨v0, hv, h⟩ := ob_eq h
    simp only [Option.some.injEq, Prod.mk.injEq] at h
    obtain ⟨rfl, rfl⟩ := h
    refine ⟨rfl, fun X A ρ w hx hst => ?_⟩
    obtain ⟨h1, c', rest, e, fr, h2, h3, h4⟩ := hst.rowG hx hg
    rw [nthL_eq] at hv
    obtain ⟨v', hv', hr⟩ := h3.get hv
    refine ⟨v', ?_, hr⟩
    have hc : w.cell? ⟨(ρ b).1, off, none⟩ = some v' := by
      rw [cell_at h2, List.getElem?_append_left (by
        have := (List.getElem?_eq_some_iff.1 hv').1; omega)]
      exact hv'
    unfold loadVar
    simp only [Sem.run_bind, run_isAgg hE hd, ha, Result.andThen_ok, if_false, Bool.false_eq_true]
    simp [load, Sem.run, hc]
end
end Go.Ev
