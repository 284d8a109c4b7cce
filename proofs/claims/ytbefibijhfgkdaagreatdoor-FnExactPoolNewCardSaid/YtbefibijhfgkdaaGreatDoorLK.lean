/- A contract: what a function of this program returns. No condition beyond those that each theorem states. -/
import Derived.RangeFuncStops
import Derived.WalkKit
import Derived.OwnWalkIn
import Derived.TacticsInMore
import Derived.RegionIn
import Derived.LoopNIn
import Derived.LoopIn
import Derived.Shelf.Abstract
import Derived.Test.YtbefibijhfgkdaaGreatDoorProg
import Derived.Test.YtbefibijhfgkdaaGreatDoorST
namespace Go.Proofs.YtbefibijhfgkdaaGreatDoor
open Go Go.RowKit Go.Sort Go.Shelf Go.Ev
set_option linter.unusedVariables false
set_option linter.unusedSimpArgs false
set_option maxRecDepth 100000
set_option maxHeartbeats 2000000

theorem back_in (F : Fence) (n : Nat) (h : F.fn 164) (hro : F.round = none) (a : Option Addr) (l k : Nat) (w : World) :
    CallsIn F n Tryz.prog 164 #[.slice a l k] w fun e w' => e = .returned (.func (.func 213) #[] #[.pointer (some ⟨w.heap.size, 0, none⟩)]) ∧ w' = w.alloc (.cells #[.slice a l k] 63) := by
  refine callsIn_of_wp Tryz.func164 rfl h ?_ hro
  simp only [Tryz.ntmps164, List.size_toArray, List.length_cons, List.length_nil, Nat.reduceAdd, Nat.reduceSub, Array.replicate_succ, Array.replicate_zero, List.push_toArray, List.append_toArray, List.nil_append, List.cons_append]
  gi_wp2
  go_ret
  exact ⟨rfl, rfl⟩
theorem iter_in (F : Fence) (n : Nat) (h : F.fn 213) (hro : F.round = none) (l B : Nat) (a : Option Addr) (k : Nat) (w : World) (hB : w.cell? ⟨B, 0, none⟩ = some (.slice a 0 k)) :
    CallsIn F n Tryz.prog 213 #[.func (.yield l) #[] #[], .pointer (some ⟨B, 0, none⟩)] w fun e w' => (∃ v, e = .returned v) ∧ w' = w := by
  refine callsIn_of_wp Tryz.func213 rfl h ?_ hro
  simp only [Tryz.ntmps213, List.size_toArray, List.length_cons, List.length_nil, Nat.reduceAdd, Nat.reduceSub, Array.replicate_succ, Array.replicate_zero, List.push_toArray, List.append_toArray, List.nil_append, List.cons_append]
  gi_wp2
  refine wpIn_loop_once ?_
  gi_wp2
  go_end0
  exact ⟨⟨_, rfl⟩, rfl⟩
theorem pack {L M W D F A : Type} {G : L → M → W → D → W → F → A → W → Prop} (h : ∃ l m w d f a, G l m w d w f a w) : ∃ l m w d w' f a w2, G l m w d w' f a w2 := by
  obtain ⟨l, m, w, d, f, a, h⟩ := h
  exact ⟨l, m, w, d, w, f, a, w, h⟩
theorem look_in (F : Fence) (n : Nat) (h3 : F.fn 90) (h4 : F.fn 164) (h5 : F.fn 213) (hro : F.round = none) (hn : 3 ≤ n) (b o m c : Nat) (a : Option Addr) (k : Nat) (g : Value) (i : Nat) (z : List UInt8) (w : World) (hi : i < m) (hv : w.cell? ⟨b, o + i, none⟩ = some (.string ⟨⟨z⟩⟩)) :
    CallsIn F n Tryz.prog 90 #[.agg ⟨[.slice (some ⟨b, o, none⟩) m c, .slice a 0 k, g]⟩, .int .i64 (.ofNat i)] w fun e w' => e = .returned (.string ⟨⟨z⟩⟩) ∧ Fr w w' fun _ => False := by
  have h1 : 1 ≤ n := by omega
  refine callsIn_of_wp_marks Tryz.func90 rfl h3 ?_ hro
  simp only [Tryz.ntmps90, List.size_toArray, List.length_cons, List.length_nil, Nat.reduceAdd, Nat.reduceSub, Array.replicate_succ, Array.replicate_zero, List.push_toArray, List.append_toArray, List.nil_append, List.cons_append]
  gi_wp2_with (gi_at_call 164; refine (back_in F (n - 1) h4 hro _ _ _ _).mono ?_; rintro e w' ⟨rfl, rfl⟩)
  refine wpIn_rangeFunc ?_
  intro fn hfn
  rw [hro]
  obtain ⟨W0, hW0⟩ : ∃ W0, ((((w.alloc (.cells ⟨[.slice (some ⟨b, o, none⟩) m c, .slice a 0 k, g]⟩ 65)).alloc (.cells #[.int .i64 (.ofNat i)] 3)).alloc (.cells #[.string ⟨#[]⟩] 9)).alloc (.cells #[.slice a 0 k] 63)) = W0 := ⟨_, rfl⟩
  have hs0 : W0.heap.size = w.heap.size + 4 := by rw [← hW0]; simp
  have ho0 : ∀ r, r < w.heap.size → W0.heap[r]? = w.heap[r]? := fun r hr => by
    rw [← hW0]; exact (((Below.heap_alloc _ _ r (by first | (simp; done) | (simp; omega))).trans (Below.heap_alloc _ _ r (by first | (simp; done) | (simp; omega)))).trans (Below.heap_alloc _ _ r (by first | (simp; done) | (simp; omega)))).trans (Below.heap_alloc _ _ r hr)
  have hB0 : W0.heap[w.heap.size]? = some (.cells ⟨[.slice (some ⟨b, o, none⟩) m c, .slice a 0 k, g]⟩ 65 (0, 0)) := by
    rw [← hW0]; exact (((Below.heap_alloc _ _ _ (by first | (simp; done) | (simp; omega))).trans (Below.heap_alloc _ _ _ (by first | (simp; done) | (simp; omega)))).trans (Below.heap_alloc _ _ _ (by simp))).trans (World.alloc_heap_new w _)
  have hB1 : W0.heap[w.heap.size + 1]? = some (.cells #[.int .i64 (.ofNat i)] 3 (0, 0)) := by
    rw [← hW0]; refine ((Below.heap_alloc _ _ _ (by first | (simp; done) | (simp; omega))).trans (Below.heap_alloc _ _ _ (by simp))).trans ?_
    have := World.alloc_heap_new (w.alloc (.cells ⟨[.slice (some ⟨b, o, none⟩) m c, .slice a 0 k, g]⟩ 65)) (.cells #[.int .i64 (.ofNat i)] 3); rwa [World.size_alloc] at this
  have hB2 : W0.heap[w.heap.size + 1 + 1]? = some (.cells #[.string ⟨#[]⟩] 9 (0, 0)) := by
    rw [← hW0]; refine (Below.heap_alloc _ _ _ (by simp)).trans ?_
    have := World.alloc_heap_new ((w.alloc (.cells ⟨[.slice (some ⟨b, o, none⟩) m c, .slice a 0 k, g]⟩ 65)).alloc (.cells #[.int .i64 (.ofNat i)] 3)) (.cells #[.string ⟨#[]⟩] 9); rwa [World.size_alloc, World.size_alloc] at this
  have hB3 : W0.heap[w.heap.size + 1 + 1 + 1]? = some (.cells #[.slice a 0 k] 63 (0, 0)) := by
    rw [← hW0]
    have := World.alloc_heap_new (((w.alloc (.cells ⟨[.slice (some ⟨b, o, none⟩) m c, .slice a 0 k, g]⟩ 65)).alloc (.cells #[.int .i64 (.ofNat i)] 3)).alloc (.cells #[.string ⟨#[]⟩] 9)) (.cells #[.slice a 0 k] 63); rwa [World.size_alloc, World.size_alloc, World.size_alloc] at this
  have hb : b < w.heap.size := by
    rcases Nat.lt_or_ge b w.heap.size with h | h
    · exact h
    · unfold World.cell? at hv
      rw [Array.getElem?_eq_none h] at hv
      simp at hv
  have hf0 : W0.os = w.os ∧ W0.tape = w.tape ∧ W0.output = w.output := by rw [← hW0]; exact ⟨rfl, rfl, rfl⟩
  rw [show ((((w.alloc (.cells ⟨[.slice (some ⟨b, o, none⟩) m c, .slice a 0 k, g]⟩ 65)).alloc (.cells #[.int .i64 ↑i] 3)).alloc (.cells #[.string ⟨#[]⟩] 9)).alloc (.cells #[.slice a 0 k] 63)) = W0 from hW0]
  refine pack ⟨_, _, _, { target := .fn (.func 213) #[.pointer (some ⟨w.heap.size + 1 + 1 + 1, 0, none⟩)], args := #[.func (.yield (W0.heap.size + 1)) #[] #[]] }, 213,
    #[.func (.yield (W0.heap.size + 1)) #[] #[], .pointer (some ⟨w.heap.size + 1 + 1 + 1, 0, none⟩)], run_enterLoop_outer _ _ _ _ _, ?_, ?_, ?_, fun _ => h1, ?_⟩
  · simp [resolve, go_sem]
  · intro f' hf'; simp [Target.leads] at hf'; subst hf'; exact h5
  · simp [invoke, go_sem]
  · generalize hR : Loop.mk _ _ _ _ _ _ _ _ = R
    have hst : R.state = .ready := by rw [← hR]
    have hpd : R.pending = none := by rw [← hR]
    clear hR
    obtain ⟨W1, hW1⟩ : ∃ W1, (W0.alloc (.deferred (some []))).alloc (.loop R) = W1 := ⟨_, rfl⟩
    rw [hW1]
    have hold : ∀ r, r < W0.heap.size → W1.heap[r]? = W0.heap[r]? := fun r hr => by
      rw [← hW1]; exact (Below.heap_alloc _ _ r (by simp; omega)).trans (Below.heap_alloc _ _ r hr)
    have hD1 : W1.heap[W0.heap.size]? = some (.deferred (some [])) := by
      rw [← hW1]; exact (Below.heap_alloc _ _ _ (by simp)).trans (World.alloc_heap_new W0 _)
    have hL1 : W1.heap[W0.heap.size + 1]? = some (.loop R) := by
      rw [← hW1]; have := World.alloc_heap_new (W0.alloc (.deferred (some []))) (.loop R); rwa [World.size_alloc] at this
    have hs1 : W1.heap.size = W0.heap.size + 2 := by rw [← hW1]; simp
    have hf1 : W1.os = W0.os ∧ W1.tape = W0.tape ∧ W1.output = W0.output := by rw [← hW1]; exact ⟨rfl, rfl, rfl⟩
    clear hW1 hW0
    have hcl : ∀ (W : World) (r : Nat) (c : Array Value) (t : TypeId) (q : Nat), W.heap[r]? = some (.cells c t (0, 0)) → W.cell? ⟨r, q, none⟩ = c[q]? := fun W r c t q h => by simp [World.cell?, h]
    have hcell3 : W1.cell? ⟨w.heap.size + 1 + 1 + 1, 0, none⟩ = some (.slice a 0 k) := hcl _ _ _ _ 0 ((hold _ (by omega)).trans hB3)
    refine (iter_in F (n - 1) h5 hro _ _ a k W1 hcell3).mono ?_
    rintro e W2 ⟨⟨v', rfl⟩, rfl⟩
    have hend := run_endLoop (P := Tryz.prog) hL1 (by rw [hst]; simp)
    obtain ⟨W3, hW3⟩ : ∃ W3, W2.putObj (W0.heap.size + 1) (.loop { R with state := .exhausted }) = W3 := ⟨_, rfl⟩
    rw [hW3, hpd] at hend
    have hold3 : ∀ r, r < W0.heap.size → W3.heap[r]? = W0.heap[r]? := fun r hr => by
      rw [← hW3]; exact (World.putObj_heap_other (by omega)).trans (hold r hr)
    have hD3 : W3.heap[W0.heap.size]? = some (.deferred (some [])) := by rw [← hW3]; exact (World.putObj_heap_other (by omega)).trans hD1
    have hs3 : W3.heap.size = W0.heap.size + 2 := by rw [← hW3, ← hs1]; simp [World.putObj]
    have hf3 : W3.os = W0.os ∧ W3.tape = W0.tape ∧ W3.output = W0.output := by rw [← hW3]; exact hf1
    clear hW3
    have c0 : W3.cell? ⟨w.heap.size, 0, none⟩ = some (.slice (some ⟨b, o, none⟩) m c) := hcl _ _ _ _ 0 ((hold3 _ (by omega)).trans hB0)
    have c1 : W3.cell? ⟨w.heap.size + 1, 0, none⟩ = some (.int .i64 (.ofNat i)) := hcl _ _ _ _ 0 ((hold3 _ (by omega)).trans hB1)
    have c2 : W3.cell? ⟨w.heap.size + 1 + 1, 0, none⟩ = some (.string ⟨#[]⟩) := hcl _ _ _ _ 0 ((hold3 _ (by omega)).trans hB2)
    have z2 : W3.frozen? ⟨w.heap.size + 1 + 1, 0, none⟩ = false := by simp [World.frozen?, (hold3 _ (by omega : w.heap.size + 1 + 1 < W0.heap.size)).trans hB2]
    have cv : W3.cell? ⟨b, o + i, none⟩ = some (.string ⟨⟨z⟩⟩) := (World.cell?_of_block ((hold3 b (by omega)).trans (ho0 b hb))).trans hv
    refine ⟨none, W3, hend, ?_⟩
    have hi0 : (0 : Int) ≤ (i : Int) := by omega
    have hi1 : (i : Int) < (m : Int) := by omega
    gi_wp2
    rw [← hs0]
    have hK4 : (W3.setCell ⟨w.heap.size + 1 + 1, 0, none⟩ (.string ⟨⟨z⟩⟩)).heap[W0.heap.size]? = some (.deferred (some [])) := (Below.heap_setCell W3 ⟨w.heap.size + 1 + 1, 0, none⟩ _ _ (by show W0.heap.size ≠ w.heap.size + 1 + 1; omega)).trans hD3
    refine ⟨by simp, .inl ⟨_, _, rfl, run_takeDeferred hK4, ?_⟩⟩
    have hc5 : ((W3.setCell ⟨w.heap.size + 1 + 1, 0, none⟩ (.string ⟨⟨z⟩⟩)).putObj W0.heap.size (.deferred none)).cell? ⟨w.heap.size + 1 + 1, 0, none⟩ = some (.string ⟨⟨z⟩⟩) :=
      (World.cell?_of_block (World.putObj_heap_other (k := w.heap.size + 1 + 1) (by omega))).trans (World.cell?_setCell_same' _ _ _ (by rw [c2]; rfl))
    refine ⟨.string ⟨⟨z⟩⟩, ?_, rfl, ⟨hf3.1.trans hf0.1, hf3.2.1.trans hf0.2.1, hf3.2.2.trans hf0.2.2, ?_, fun r hr _ => ?_⟩⟩
    · simp [results, Tryz.f90, go_sem, hc5]
    · simp [World.putObj]
      omega
    · refine (World.putObj_heap_other (by omega)).trans ?_
      refine (Below.heap_setCell W3 ⟨w.heap.size + 1 + 1, 0, none⟩ _ r (by show r ≠ w.heap.size + 1 + 1; omega)).trans ?_
      exact (hold3 r (by omega)).trans (ho0 r hr)
/-- A disk's look at a cell, where nothing waits. -/
theorem look_calls (b o m c : Nat) (a : Option Addr) (k : Nat) (g : Value) (i : Nat) (z : List UInt8) (w : World) (hi : i < m) (hv : w.cell? ⟨b, o + i, none⟩ = some (.string ⟨⟨z⟩⟩)) :
    Calls Tryz.prog 90 #[.agg ⟨[.slice (some ⟨b, o, none⟩) m c, .slice a 0 k, g]⟩, .int .i64 (.ofNat i)] w fun e w' => e = .returned (.string ⟨⟨z⟩⟩) ∧ Fr w w' fun _ => False :=
  callsIn_wide.1 (look_in Fence.wide 3 trivial trivial trivial rfl (Nat.le_refl _) b o m c a k g i z w hi hv)
end Go.Proofs.YtbefibijhfgkdaaGreatDoor
