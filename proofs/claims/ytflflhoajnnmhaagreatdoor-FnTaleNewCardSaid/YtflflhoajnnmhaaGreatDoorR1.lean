/- The law FnTaleNew returns true: the row and its card. No condition beyond the card's own. -/
import Derived.Test.YtflflhoajnnmhaaGreatDoorCards
import Derived.Test.YtflflhoajnnmhaaGreatDoorTie
import Derived.Test.YtflflhoajnnmhaaGreatDoorK6
import Derived.Test.YtflflhoajnnmhaaGreatDoorJ1
import Derived.WalkKit
import Derived.ProofKit
import Derived.OpenShut
import Derived.LaidMore
import Derived.Lay
import Derived.SevenTiedAt
import Derived.Stop.Joined
namespace Go.Proofs.YtflflhoajnnmhaaGreatDoor
open Go.ChangeShapes Go.WideShapes Go.ChangeAt Go.RowKit Go.Ev
set_option linter.unusedVariables false
set_option maxRecDepth 100000

theorem own : ownKnob Tryz.prog.godebug = none := by kernel_rfl
theorem cells5 : Tryz.prog.cellsOf 5 = 1 := by kernel_rfl
theorem kept_of {w w' : World} (h : Fr w w' fun _ => False) (may : MemPlace → Prop) : w.keptBut w' may := by
  refine ⟨h.os, h.output, fun i hi => ?_⟩
  rw [h.block i hi fun x => x]
  exact (World.keptBut_refl w may).2.2 i hi
theorem cell_of {w w' : World} (h : Fr w w' fun _ => False) {a : Addr} {v : Value} (ha : w.cell? a = some v) : w'.cell? a = some v := by
  have hlt : a.block < w.heap.size := by
    rcases Nat.lt_or_ge a.block w.heap.size with h1 | h1
    · exact h1
    · unfold World.cell? at ha
      rw [Array.getElem?_eq_none h1] at ha
      simp at ha
  unfold World.cell? at ha ⊢
  rw [h.block a.block hlt fun x => x]
  exact ha
theorem law_calls (v' : Value) (w : World) (hv : v' = .slice none 0 0 ∨ ∃ b o sp n c, v' = .slice (some ⟨b, o, sp⟩) n c) : Calls Tryz.prog 3 #[v'] w fun e w' => e = .returned (.bool true) ∧ Fr w w' fun _ => False := by
  rcases law w v' hv with ⟨v, w', h, _⟩ | ⟨g, xs, w', h, hc⟩
  · have h2 := (Tryz.call3 #[v'] w).symm.trans h
    cases h2
  · have h2 := (Tryz.call3 #[v'] w).symm.trans h
    cases h2
    refine hc.mono fun e w'' hh => ?_
    obtain ⟨v, rfl, rfl, hf⟩ := hh
    exact ⟨rfl, hf⟩
theorem lifted (os : Os) (started : os.Started) (H : Type) (enc : TypeId × Value → H) :
    ReturnsInHanded {} Tryz.checked os 3 .any (fun w args => (Rows.fnTaleNewSpec.pre enc Tryz.prog Tryz.f3 Rows.fnTaleNewRow.domain false w args ∧ laidMetH Tryz.prog Rows.fnTaleNewRow.laid w) ∧ sizedMet enc Tryz.prog Tryz.f3 (OpenSpec.ofChange Rows.fnTaleNewSpec) false w args)
      (Rows.fnTaleNewSpec.post enc Tryz.prog Tryz.f3 false true false false) := by
  refine returnsInHanded_of_change_and (C := Tryz.checked) (X := fun w _ => laidMetH Tryz.prog Rows.fnTaleNewRow.laid w) (fun _ _ _ hh h => h.of_heap hh) own started (by kernel_rfl) Tryz.func3
    (ChangeSpec.witness_shaped (enc := enc) (C := Tryz.checked) (os := os) (X := fun w _ => laidMetH Tryz.prog Rows.fnTaleNewRow.laid w) false (World.laidAll Tryz.prog os Rows.fnTaleNewRow.laid) #[.slice none 0 0] 8 (World.laidAll_os _ _ _)
      (World.shaped_of_ZipB (by kernel_rfl) (by kernel_rfl)) (by kernel_rfl) (by kernel_rfl) (by kernel_rfl)
      (by rw [MakeChecks.laidMetH_plain _ _ _ (by kernel_rfl)]; exact laidMet_laidAll _ (by kernel_rfl) (by kernel_rfl))) ?_
  intro W base args ds gs before hval0 hW hc _ hL _
  have hval : ∀ (j : Nat) t v, Tryz.f3.params[j]? = some t → args[j]? = some v → Value.okWide Tryz.prog W .any base t v := hval0
  have hW' := hW
  obtain ⟨p, q, hA0, hV, rfl, _, _⟩ := hW
  have hA : DataW.TrodAll enc Tryz.prog W 0 (fun _ => true) true Tryz.f3.params.toList args.toList ds p := hA0
  rw [Tryz.params3] at hA hval
  obtain ⟨v0, d0, rfl, rfl, h0⟩ := trodAll_one hA
  obtain ⟨rfl, rfl⟩ := trodVars_none hV
  obtain ⟨a0, len, cap, rfl⟩ := okWide_slice Tryz.underlying22 (hval 0 22 v0 rfl rfl)
  obtain ⟨fuel, hf⟩ := h0
  clear hA0 hval0
  simp only [List.append_nil] at hW'
  rcases open_ints Tryz.underlying22 Tryz.underlying5 cells5 hf with ⟨hcs, hx⟩ | ⟨a, len', cap', zs, hcs, _, hl, hm, hz, hx, hcell, hwz⟩
  · simp [Value.cells] at hcs
    obtain ⟨rfl, rfl, rfl⟩ := hcs
    simp only [Prod.mk.injEq] at hx
    obtain ⟨rfl, rfl⟩ := hx
    refine (law_calls _ W (.inl rfl)).mono fun e W' ⟨he, hg⟩ => ?_
    subst he
    exact ⟨_, rfl, _, _, _, [], [], [], hW', trodAll_cons_mk (shut_bool Tryz.underlying4 _) trodAll_mk0, trodAll_mk1 (shut_slice_nil Tryz.underlying22), rfl, kept_of hg _, fun h => by cases h⟩
  · simp [Value.cells] at hcs
    obtain ⟨rfl, rfl, rfl⟩ := hcs
    simp only [Prod.mk.injEq] at hx
    obtain ⟨rfl, rfl⟩ := hx
    simp only [if_true] at hz
    obtain ⟨ab, ao, asp⟩ := a
    refine (law_calls _ W (.inr ⟨_, _, _, _, _, rfl⟩)).mono fun e W' ⟨he, hg⟩ => ?_
    subst he
    have hcell' : ∀ i, i < zs.length → W'.cell? ((⟨ab, ao, asp⟩ : Addr).add i) = some (.int .u8 (zs.getD i 0)) := fun i hi => cell_of hg (hcell i hi)
    have again : ∀ sp : Nat → Bool, (∀ p ∈ MemPlace.row ⟨ab, ao, asp⟩ zs.length, sp p.block = true) → DataW.TrodAll enc Tryz.prog W' 0 sp true [22] [.slice (some ⟨ab, ao, asp⟩) len cap] [.slice (lits .u8 (zs.take len)) (lits .u8 (zs.drop len))] (MemPlace.row ⟨ab, ao, asp⟩ zs.length) := by
      intro sp hsp
      by_cases hz0 : zs.length = 0
      · have hc0 : cap = 0 := by omega
        have hl0 : len = 0 := by omega
        subst hc0; subst hl0
        have t0 := shut_ints (enc := enc) (w := W') (base := 0) (spare := sp) (held := true) (a := ⟨ab, ao, asp⟩) (len := 0) (cap := 0) (zs := zs) 0 Tryz.underlying22 Tryz.underlying5 cells5 (Nat.zero_le _) (Nat.le_refl _) hm (by simp [hz0]) hcell' hwz
        exact trodAll_mk1 ⟨2, by simpa [Value.cells] using t0⟩
      · have hspb : sp ab = true := by
          have := hsp (.cell ab ao) (MemPlace.mem_row.2 ⟨0, by omega, by simp⟩)
          exact this
        have t0 := shut_ints (enc := enc) (w := W') (base := 0) (spare := sp) (held := true) (a := ⟨ab, ao, asp⟩) (len := len) (cap := cap) (zs := zs) 0 Tryz.underlying22 Tryz.underlying5 cells5 (Nat.zero_le _) hl hm (by simp [hspb, hz]) hcell' hwz
        exact trodAll_mk1 ⟨2, by simpa [Value.cells] using t0⟩
    refine ⟨_, rfl, _, _, _, [], MemPlace.row ⟨ab, ao, asp⟩ zs.length, [], hW', trodAll_cons_mk (shut_bool Tryz.underlying4 _) trodAll_mk0, again _ (fun p hp => ?_), rfl, kept_of hg _, fun h => by cases h⟩
    simpa using hW'.lt p hp
theorem over : Rows.fnTaleNewRow.holds Tryz.pinned (OpenSpec.ofChange Rows.fnTaleNewSpec) :=
  OpenClaim.holds_of_wide 3 Tryz.f3 rfl rfl rfl rfl rfl rfl rfl ⟨rfl, rfl, rfl, rfl, rfl⟩ rfl rfl rfl rfl rfl (by kernel_rfl) Tryz.func3 joined
    (of_decide_eq_true (by kernel_rfl)) (by unfold Func.isWrapper; first | (rw [if_pos (by decide +kernel)]; kernel_rfl) | (rw [if_neg (by decide +kernel)]; exact ⟨rfl, rfl⟩))
    (fun os started H enc _ => lifted os started H enc)
theorem proved : Rows.FnTaleNewSaid := over
theorem card_proved : Rows.FnTaleNewCardSaid :=
  Claim7.holds_tied_plain_at .later [] [.data, .data, .data, .data, .sentinel, .sentinel, .pinned] true (true, "b72ee15a2f134d95d4010216cd5f1bf16fbe902b11ca504a9a4ba82ad2a63d7f") true
    proved (fun _ h => by cases h) (by kernel_rfl) (fun _ h => by cases h) fnTaleNew_row_tie rfl ⟨rfl, rfl⟩ (by kernel_rfl) rfl
    (fun f fn hf hfn => by
      obtain rfl : f = 3 := Option.some.inj ((show Tryz.prog.funcNamed "loop.example/poolfiles/laws.FnTaleNew" = some 3 by kernel_rfl).symm.trans hf) |>.symm
      obtain rfl : fn = Tryz.f3 := (Option.some.inj (Tryz.func3.symm.trans hfn)).symm
      exact ⟨by kernel_rfl, fun j t ht => by
        rw [Tryz.params3] at ht
        cases j with
        | zero =>
          simp at ht
          subst ht
          kernel_rfl
        | succ j => simp at ht⟩)
    (by kernel_rfl)
#print axioms card_proved
end Go.Proofs.YtflflhoajnnmhaaGreatDoor
