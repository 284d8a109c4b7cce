/- The law FnExactPoolNew returns true: the row and its card. No condition beyond the card's own. -/
import Derived.Test.YtbefibijhfgkdaaGreatDoorCards
import Derived.Test.YtbefibijhfgkdaaGreatDoorTie
import Derived.Test.YtbefibijhfgkdaaGreatDoorK6
import Derived.Test.YtbefibijhfgkdaaGreatDoorJ1
import Derived.WalkKit
import Derived.ProofKit
import Derived.OpenShut
import Derived.LaidMore
import Derived.LaidSub
import Derived.Lay
import Derived.SevenTiedAt
import Derived.Stop.Joined
namespace Go.Proofs.YtbefibijhfgkdaaGreatDoor
open Go.ChangeShapes Go.WideShapes Go.ChangeAt Go.RowKit Go.Ev
set_option linter.unusedVariables false
set_option maxRecDepth 100000

theorem own : ownKnob Tryz.prog.godebug = none := by kernel_rfl
theorem kept_of {w w' : World} (h : Fr w w' fun _ => False) (may : MemPlace → Prop) : w.keptBut w' may := by
  refine ⟨h.os, h.output, fun i hi => ?_⟩
  rw [h.block i hi fun x => x]
  exact (World.keptBut_refl w may).2.2 i hi
/-- What the listed table's block holds. -/
theorem pow_lies {W : World} (h : laidMetH Tryz.prog Rows.fnExactPoolNewRow.laid W) : ∃ rest t fr, W.heap[0]? = some (.cells ⟨powC ++ rest⟩ t fr) := by
  have h := laidMetH.filter (fun x => x.1 == "internal/strconv.uint64pow10") h
  have e : Rows.fnExactPoolNewRow.laid.filter (fun x => x.1 == "internal/strconv.uint64pow10") = [("internal/strconv.uint64pow10", Rows.laid_internal_strconv_uint64pow10)] := by kernel_rfl
  rw [e, MakeChecks.laidMetH_plain _ _ _ (by kernel_rfl)] at h
  obtain ⟨ps, ⟨g, t, cs, fuel, p, q, hg, ht, hv, hd, _, hps⟩, _, hcl⟩ := h
  obtain rfl := Option.some.inj ((show Tryz.prog.globalNamed "internal/strconv.uint64pow10" = some 0 by kernel_rfl).symm.trans hg)
  obtain rfl := Option.some.inj ((show (Tryz.prog.globals[0]?).map (·.type) = some 275 by kernel_rfl).symm.trans ht)
  obtain ⟨xs, m, _, ex, hlen, hl, hel⟩ := DataW.trod_array Tryz.underlying275 hd
  have c1 : Tryz.prog.cellsOf 260 = 1 := by kernel_rfl
  have c20 : Tryz.prog.cellsOf 275 = 20 := by kernel_rfl
  rw [c20] at hlen
  have hcs : cs.toList = powC := by
    apply List.ext_getElem?
    intro r
    by_cases hr : r < 20
    · have hE := hel r hr
      rw [c1, Nat.mul_one, List.getElem?_eq_getElem (by omega)] at hE
      obtain ⟨z, e1, e2, _⟩ := DataW.trod_int Tryz.underlying260 hE
      have h0 : ((cs.toList.drop r).take 1)[0]? = some (.int .u64 z) := by rw [e1]; rfl
      have h1 : cs.toList[r]? = some (.int .u64 z) := by simpa using h0
      have e3 : (xs.map (·.1)) = powL.map fun n => (.lit (.int .u64 (.ofNat n)) : DataW Unit) := (DataW.agg.inj (Prod.mk.inj ex).1).symm
      have e4 : (xs.map (·.1))[r]? = (powL.map fun n => (.lit (.int .u64 (.ofNat n)) : DataW Unit))[r]? := by rw [e3]
      rw [List.getElem?_map, List.getElem?_map, List.getElem?_eq_getElem (by omega : r < xs.length), e2] at e4
      rw [h1, show powC[r]? = (powL[r]?).map fun n => Value.int .u64 (.ofNat n) from List.getElem?_map ..]
      cases hp : powL[r]? with
      | none => rw [hp] at e4; cases e4
      | some n =>
        rw [hp] at e4
        simp only [Option.map_some, Option.some.injEq, DataW.lit.injEq, Lit.int.injEq, true_and] at e4
        rw [e4]; rfl
    · rw [List.getElem?_eq_none (by simpa using (by omega : cs.toList.length ≤ r)), List.getElem?_eq_none (by have : powC.length = 20 := rfl; omega)]
  have hsz : cs.size = 20 := by rw [← Array.length_toList, hcs]; rfl
  obtain ⟨⟨c, ty, hc⟩, _⟩ := hcl 0 0 (by
    rw [hps]
    simp only [List.mem_append]
    exact .inl (.inl (MemPlace.mem_row.2 ⟨0, by omega, by simp⟩)))
  obtain ⟨c⟩ := c
  refine ⟨c.drop 20, ty, (0, 0), ?_⟩
  rw [hc]
  congr 2
  have hp : powC = c.take 20 := by
    apply List.ext_getElem?
    intro r
    by_cases hr : r < 20
    · have h1 := World.var?_cell hg hv r
      have h2 : cs[r]? = powC[r]? := by rw [← hcs]; simp
      rw [h2] at h1
      rw [cell_at hc] at h1
      rw [List.getElem?_take_of_lt hr]
      exact h1.symm
    · rw [List.getElem?_eq_none (by have : powC.length = 20 := rfl; omega), List.getElem?_eq_none (by simp; omega)]
  rw [hp, List.take_append_drop]
theorem law_calls (a : Bool) (w : World) (hw : ∃ rest t fr, w.heap[0]? = some (.cells ⟨powC ++ rest⟩ t fr)) : Calls Tryz.prog 3 #[.bool a] w fun e w' => e = .returned (.bool true) ∧ Fr w w' fun _ => False := by
  rcases law w a hw with ⟨v, w', h, _⟩ | ⟨g, xs, w', h, hc⟩
  · have h2 := (Tryz.call3 #[.bool a] w).symm.trans h
    cases h2
  · have h2 := (Tryz.call3 #[.bool a] w).symm.trans h
    cases h2
    refine hc.mono fun e w'' hh => ?_
    obtain ⟨v, rfl, rfl, hf⟩ := hh
    exact ⟨rfl, hf⟩
theorem lifted (os : Os) (started : os.Started) (H : Type) (enc : TypeId × Value → H) :
    ReturnsInHanded {} Tryz.checked os 3 .any (fun w args => (Rows.fnExactPoolNewSpec.pre enc Tryz.prog Tryz.f3 Rows.fnExactPoolNewRow.domain false w args ∧ laidMetH Tryz.prog Rows.fnExactPoolNewRow.laid w) ∧ sizedMet enc Tryz.prog Tryz.f3 (OpenSpec.ofChange Rows.fnExactPoolNewSpec) false w args)
      (Rows.fnExactPoolNewSpec.post enc Tryz.prog Tryz.f3 false true false false) := by
  refine returnsInHanded_of_change_and (C := Tryz.checked) (X := fun w _ => laidMetH Tryz.prog Rows.fnExactPoolNewRow.laid w) (fun _ _ _ hh h => h.of_heap hh) own started (by kernel_rfl) Tryz.func3
    (ChangeSpec.witness_shaped (enc := enc) (C := Tryz.checked) (os := os) (X := fun w _ => laidMetH Tryz.prog Rows.fnExactPoolNewRow.laid w) false (World.laidAll Tryz.prog os Rows.fnExactPoolNewRow.laid) #[.bool true] 8 (World.laidAll_os _ _ _)
      (World.shaped_of_ZipB (by kernel_rfl) (by kernel_rfl)) (by kernel_rfl) (by kernel_rfl) (by kernel_rfl)
      (by rw [MakeChecks.laidMetH_plain _ _ _ (by kernel_rfl)]; exact laidMet_laidAll _ (by kernel_rfl) (by kernel_rfl))) ?_
  intro W base args ds gs before hval0 hW hc _ hL _
  have hval : ∀ (j : Nat) t v, Tryz.f3.params[j]? = some t → args[j]? = some v → Value.okWide Tryz.prog W .any base t v := hval0
  have hW' := hW
  obtain ⟨p, q, hA0, hV, rfl, _, _⟩ := hW
  have hA : DataW.TrodAll enc Tryz.prog W 0 (fun _ => true) true Tryz.f3.params.toList args.toList ds p := hA0
  rw [Tryz.params3] at hA hval
  obtain ⟨v0, d0, rfl, rfl, h0⟩ := trodAll_one hA
  obtain ⟨rfl, rfl⟩ := trodVars_none hV
  obtain ⟨a, rfl, rfl, rfl⟩ := open_bool Tryz.underlying4 (hval 0 4 v0 rfl rfl) h0
  clear hA0 hval0
  simp only [List.append_nil] at hW'
  refine (law_calls a W (pow_lies hL)).mono fun e W' ⟨he, hg⟩ => ?_
  subst he
  exact ⟨_, rfl, _, _, _, [], [], [], hW', trodAll_cons_mk (shut_bool Tryz.underlying4 _) trodAll_mk0, trodAll_mk1 (shut_bool Tryz.underlying4 _), rfl, kept_of hg _, fun h => by cases h⟩
theorem over : Rows.fnExactPoolNewRow.holds Tryz.pinned (OpenSpec.ofChange Rows.fnExactPoolNewSpec) :=
  OpenClaim.holds_of_wide 3 Tryz.f3 rfl rfl rfl rfl rfl rfl rfl ⟨rfl, rfl, rfl, rfl, rfl⟩ rfl rfl rfl rfl rfl (by kernel_rfl) Tryz.func3 joined
    (of_decide_eq_true (by kernel_rfl)) (by unfold Func.isWrapper; first | (rw [if_pos (by decide +kernel)]; kernel_rfl) | (rw [if_neg (by decide +kernel)]; exact ⟨rfl, rfl⟩))
    (fun os started H enc _ => lifted os started H enc)
theorem proved : Rows.FnExactPoolNewSaid := over
theorem card_proved : Rows.FnExactPoolNewCardSaid :=
  Claim7.holds_tied_plain_at .later [] [.data, .data, .data, .data, .sentinel, .sentinel, .pinned] true (true, "96e8c3a66fd125822296a762a7ef2c9d4f3fe63a986beb89e2ec284bd27f87cb") true
    proved (fun _ h => by cases h) (by kernel_rfl) (fun _ h => by cases h) fnExactPoolNew_row_tie rfl ⟨rfl, rfl⟩ (by kernel_rfl) rfl
    (fun f fn hf hfn => by
      obtain rfl : f = 3 := Option.some.inj ((show Tryz.prog.funcNamed "loop.example/poolfiles/laws.FnExactPoolNew" = some 3 by kernel_rfl).symm.trans hf) |>.symm
      obtain rfl : fn = Tryz.f3 := (Option.some.inj (Tryz.func3.symm.trans hfn)).symm
      exact ⟨by kernel_rfl, fun j t ht => by
        rw [Tryz.params3] at ht
        cases j with
        | zero =>
          simp at ht
          subst ht
          kernel_rfl
        | succ j => simp at ht⟩)
    (by kernel_rfl)
#print axioms card_proved
end Go.Proofs.YtbefibijhfgkdaaGreatDoor
