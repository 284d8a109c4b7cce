/- A lemma text of the proof that what the evaluator answers holds of every run of the model. No condition beyond those that each theorem states. -/
import Derived.Test.YtbefibijhfgkdaaGreatDoorSA
import Derived.Lib.Builder
import Derived.Laws.BytesString
namespace Go.Ev
open Go
set_option linter.unusedSimpArgs false
set_option linter.unusedVariables false
section
variable {E : Env} {P : Program} {X A : Nat → Prop} {ρ : Rho} {s s' : St} {w : World} {v v' x y x' y' : Value}

theorem repV_succ (zs : List Value) (n : Nat) : repV zs (n + 1) = zs ++ repV zs n := rfl
theorem repV_length (zs : List Value) (n : Nat) : (repV zs n).length = n * zs.length := by
  induction n with
  | zero => show ([] : List Value).length = _; simp
  | succ n ih => rw [repV_succ, List.length_append, ih, Nat.succ_mul]; omega
theorem repV_get (zs : List Value) (n : Nat) : ∀ k, k < n * zs.length → (repV zs n)[k]? = zs[k % zs.length]? := by
  induction n with
  | zero => intro k h; simp at h
  | succ n ih =>
    intro k h
    rw [Nat.succ_mul] at h
    rw [repV_succ]
    rcases Nat.lt_or_ge k zs.length with h1 | h1
    · rw [List.getElem?_append_left h1, Nat.mod_eq_of_lt h1]
    · rw [List.getElem?_append_right h1, ih _ (by omega), Nat.mod_eq_sub_mod h1]
theorem made_eq (z : Value) (n sz : Nat) (hz : z.cells.size = sz) (h0 : 0 < sz) : (Array.range (n * sz)).map (z.cells[· % z.cells.size]!) = ⟨repV z.cells.toList n⟩ := by
  apply Array.ext'
  apply List.ext_getElem?
  intro k
  simp only [Array.toList_map, Array.toList_range, List.getElem?_map]
  rcases Nat.lt_or_ge k (n * sz) with h | h
  · rw [List.getElem?_range h]
    simp only [Option.map_some]
    rw [repV_get _ _ k (by simpa [hz] using h)]
    have hm : k % z.cells.size < z.cells.size := Nat.mod_lt _ (by omega)
    simp [hm]
  · rw [List.getElem?_eq_none (by simpa using h), List.getElem?_eq_none (by rw [repV_length]; simpa [hz] using h)]
    rfl
theorem repV_ground {zs : List Value} (h : ∀ ρ, zs.map (vmap ρ) = zs) (n : Nat) : LR A ρ (repV zs n) (repV zs n) := by
  intro ρ' _
  induction n with
  | zero => show ([] : List Value).map _ = []; rfl
  | succ n ih => rw [repV_succ, List.map_append, h, ih]
theorem cells_ground {z : Value} (h : ∀ ρ, vmap ρ z = z) (ρ : Rho) : z.cells.toList.map (vmap ρ) = z.cells.toList := by
  rw [← vmap_cells, h]

theorem elemOf_eq {β : Type} {t : Option TypeId} {k : TypeId → Option β} {r : β} (h : elemOf E t k = some r) : ∃ t' e, t = some t' ∧ und E t' = some (.slice e) ∧ k e = some r := by
  obtain ⟨t', h1, h2⟩ := ob_eq h
  obtain ⟨d, h3, h4⟩ := ob_eq h2
  split at h4
  · exact ⟨t', _, h1, h3, h4⟩
  · cases h4

/-- A new row of cells, an own one of a known length. -/
theorem newRow_ok {c : List Value} {e : TypeId} {c' : List Value} (l k : Nat) (hk : k < unk) (hp : Pre P X A ρ s (s.new (.cells c e false)) w) (hc : LR A ρ c c') {m : Sem Value}
    (hm : m.run P w = .ok (.slice (some ⟨w.heap.size, 0, none⟩) l k) (w.alloc (.cells ⟨c'⟩ e))) : SemOk P X A ρ s (s.new (.cells c e false)) w (.slice (some ⟨s.next, 0, none⟩) l k) m := by
  refine ⟨_, _, ρ.at s.next (w.heap.size, 0), hm, ?_, ?_⟩
  · have := VR.slice (A := SetAdd A s.next (s.new (.cells c e false)).next) (ρ := ρ.at s.next (w.heap.size, 0)) (b := s.next) (o := 0) (l := l) (c := k) (s := none) (.inr ⟨Nat.le_refl _, by simp⟩)
    rw [capMap_lt hk] at this
    simpa using this
  · refine Good.alloc (o := .cells c e false) (x := .cells ⟨c'⟩ e) hp.st hp.above hp.lt (fun c => by simp) (by simp) (new_in_wr s _) (Nat.le_refl _) (heap_alloc_new w _) ?_ (Fr.alloc w _)
    exact ⟨c', [], (0, 0), by simp, hc, (fun h => by cases h), fun _ => .inl ⟨rfl, rfl⟩⟩

theorem places_ok (hE : EnvOk E P) (w : World) : ∀ (fs : List Field) {pl : List (Nat × Nat)}, places E fs = some pl → (fs.mapM fun f => do pure (f.offset, ← sizeOf f.type) : Sem (List (Nat × Nat))).run P w = .ok pl w
  | [], pl, h => by have := Option.some.inj h; subst this; simp
  | f :: fs, pl, h => by
    have h' : ob (size E f.type) (fun sz => ob (places E fs) fun r => some ((f.offset, sz) :: r)) = some pl := h
    obtain ⟨sz, h1, h2⟩ := ob_eq h'
    obtain ⟨r, h3, h4⟩ := ob_eq h2
    have := Option.some.inj h4
    subst this
    have ih := places_ok hE w fs h3
    simp only [List.mapM_cons, Sem.run_bind, run_sizeOf hE h1, Sem.run_pure, Result.andThen_ok, ih]

theorem buildV_ok (hE : EnvOk E P) {t : TypeId} {ev : Operand → Value} {ps : List (Nat × Operand)} (h : buildV E ev s t ps = some (v, s')) : s' = s ∧ ∀ A ρ (ev' : Operand → Value), (∀ p ∈ ps, VR A ρ (ev p.2) (ev' p.2)) →
    ∃ v', (∀ w, (Instr.build t (ps.map fun x => (x.1, ev' x.2)).toArray).run P w = .ok v' w) ∧ VR A ρ v v' := by
  obtain ⟨z, hz, h1⟩ := ob_eq h
  obtain ⟨d, hd, h2⟩ := ob_eq h1
  clear h h1
  have hu := und_ok hE hd
  split at h2
  · rename_i fs
    obtain ⟨pl, hpl, h3⟩ := ob_eq h2
    obtain ⟨cs, hcs, h4⟩ := ob_eq h3
    have := some2_eq h4
    simp only [Prod.mk.injEq] at this
    obtain ⟨rfl, rfl⟩ := this
    refine ⟨rfl, fun A ρ ev' hev => ?_⟩
    obtain ⟨r', h5, h6⟩ := fillV_ok (nthL pl) (pl.toArray[·]?) _ _ hcs (fun i q hq => by simpa using hq) A ρ _ z.cells.toList (evParts_ok ev ev' ps hev) (by rw [cellsL_eq]; exact fun ρ' _ => cells_ground (zero_ground hE hz) ρ')
    refine ⟨.agg ⟨r'⟩, fun w => ?_, VR.agg h6⟩
    unfold Instr.build
    simp only [Sem.run_bind, run_zeroValue hE hz, Result.andThen_ok, run_underlying hu]
    have hmm : ((⟨fs⟩ : Array Field).mapM fun f => do pure (f.offset, ← sizeOf f.type) : Sem (Array (Nat × Nat))).run P w = .ok pl.toArray w := by
      have := places_ok hE w fs hpl
      rw [Array.mapM_eq_mapM_toList]
      simp only [map_eq_pure_bind, Sem.run_bind, this, Result.andThen_ok, Sem.run_pure]
    simp only [hmm, Result.andThen_ok]
    simp only [h5]
    rfl
  · rename_i n e
    obtain ⟨sz, hsz, h3⟩ := ob_eq h2
    obtain ⟨cs, hcs, h4⟩ := ob_eq h3
    have := some2_eq h4
    simp only [Prod.mk.injEq] at this
    obtain ⟨rfl, rfl⟩ := this
    refine ⟨rfl, fun A ρ ev' hev => ?_⟩
    obtain ⟨r', h5, h6⟩ := fillV_ok (rowPlace sz) (fun i => some (i * sz, sz)) _ _ hcs (fun i q hq => hq) A ρ _ z.cells.toList (evParts_ok ev ev' ps hev) (by rw [cellsL_eq]; exact fun ρ' _ => cells_ground (zero_ground hE hz) ρ')
    refine ⟨.agg ⟨r'⟩, fun w => ?_, VR.agg h6⟩
    unfold Instr.build
    simp only [Sem.run_bind, run_zeroValue hE hz, Result.andThen_ok, run_underlying hu, run_sizeOf hE hsz]
    simp only [h5]
    rfl
  · cases h2
end
end Go.Ev
