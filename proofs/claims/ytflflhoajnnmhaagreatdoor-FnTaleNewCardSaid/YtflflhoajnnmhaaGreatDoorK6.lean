/- A text of the closed facts about this program that the evaluator is run on. No condition. -/
import Derived.Test.YtflflhoajnnmhaaGreatDoorKT
namespace Go.Proofs.YtflflhoajnnmhaaGreatDoor
open Go Go.Ev
set_option maxRecDepth 100000
set_option linter.unusedVariables false

noncomputable def leftC (c : Code) : Code := match c with | .seq a _ => a | _ => .skip
noncomputable def rightC (c : Code) : Code := match c with | .seq _ b => b | _ => .skip
noncomputable def bodyC : Code := match Tryz.f3.body with | some c => c | none => .skip
noncomputable def c0 : Code := leftC bodyC
noncomputable def c1 : Code := leftC (rightC bodyC)
noncomputable def c2 : Code := rightC (rightC bodyC)
noncomputable def st0 : St := ⟨.nil, 17, 0, 0⟩
noncomputable abbrev cal : Caller := callV env extN 1000000 main 999
noncomputable def tm0 (v : Value) : Tm := layArgs [v] 0 .nil
noncomputable def tmOf (r : R4) (k : Tm) : Tm := match r with | some (_, tm, _) => tm | none => k
noncomputable def tmA (v : Value) : Tm := tmOf (codeV env cal 1000000 c0 (tm0 v) st0) .nil
noncomputable def tmB (v : Value) (n : Nat) (b : Bool) : Tm := T.set 13 (T.set 12 (T.set 11 (tmA v) 10 (some v)) 11 (some (.int .i64 (.ofNat n)))) 12 (some (.bool b))
noncomputable def thenC : Code := match rightC c1 with | .cond _ a _ => a | _ => .skip
theorem body_eq : Tryz.f3.body = some (.seq c0 (.seq (.seq (leftC c1) (.cond (.tmp 12) thenC .skip)) c2)) := by kernel_rfl
theorem codeV_seq (E : Env) (call : Caller) (lf : Nat) (a b : Code) (tm : Tm) (s : St) : codeV E call lf (.seq a b) tm s = thenV (codeV E call lf a tm s) (codeV E call lf b) := rfl
theorem codeV_cond (E : Env) (call : Caller) (lf : Nat) (c : Operand) (a b : Code) (tm : Tm) (s : St) : codeV E call lf (.cond c a b) tm s = condV (evOp tm c) (codeV E call lf a tm s) (codeV E call lf b tm s) := rfl
theorem get3 : env.fn.get 3 = some Tryz.f3 := by kernel_rfl
theorem tab3 (args : List Value) (s : St) (k : Option (Value × St)) : tabV main 3 args s k = k := by kernel_rfl
/-- The argument: a slice, as the evaluator sees it. -/
noncomputable def argV (o : Option Nat) (sp : Option Nat) (n : Nat) : Value := match o with
  | none => .slice none 0 0
  | some o => .slice (some ⟨16, o, sp⟩) n unk
noncomputable def lenN (o : Option Nat) (n : Nat) : Nat := match o with
  | none => 0
  | some _ => n
noncomputable def boolOf (r : Option (Value × St)) : Bool := match r with
  | some (.bool b, _) => b
  | _ => false
theorem a_ok (o sp : Option Nat) (n : Nat) : codeV env cal 1000000 c0 (tm0 (argV o sp n)) st0 = some (.normal, tmA (argV o sp n), st0) := by
  cases o with
  | none => kernel_rfl
  | some o => cases o <;> cases n <;> kernel_rfl
noncomputable def opsR : List Oper := match leftC c1 with | .region _ ⟨l⟩ _ => l | _ => []
noncomputable def op3 : Oper := match opsR with | [_, _, c] => c | _ => ⟨none, .move (.const (.bool true)), 0, "", #[], none⟩
noncomputable def tmC (v : Value) (n : Nat) : Tm := T.set 12 (T.set 11 (tmA v) 10 (some v)) 11 (some (.int .i64 (.ofNat n)))
theorem r1_eq : leftC c1 = .region 1 ⟨opsR⟩ false := by kernel_rfl
theorem s_ok (o sp : Option Nat) (n : Nat) : seqV env cal opsR opsR (tmA (argV o sp n)) st0 = seqV env cal opsR [op3] (tmC (argV o sp n) (lenN o n)) st0 := by
  cases o with
  | none => kernel_rfl
  | some o => cases o <;> cases n <;> kernel_rfl
theorem o_ok (o sp : Option Nat) (n : Nat) : opV env cal (evOp (tmC (argV o sp n) (lenN o n))) st0 op3.op = some (.bool (iLt (.ofNat 1048576) (.ofNat (lenN o n))), st0) := by
  cases o with
  | none => kernel_rfl
  | some o => cases o <;> cases n <;> kernel_rfl
theorem b_ok (o sp : Option Nat) (n : Nat) : codeV env cal 1000000 (leftC c1) (tmA (argV o sp n)) st0 = some (.normal, tmB (argV o sp n) (lenN o n) (iLt (.ofNat 1048576) (.ofNat (lenN o n))), st0) := by
  rw [r1_eq]
  show normV (seqV env cal opsR opsR (tmA (argV o sp n)) st0) = _
  rw [s_ok, seqV_cons, show ∀ tm, wantedV opsR tm op3.guard = true from fun tm => by kernel_rfl, bo_true, o_ok]
  show normV (Tm.put (tmC (argV o sp n) (lenN o n)) op3.dst (.bool (iLt (.ofNat 1048576) (.ofNat (lenN o n)))) (fun tm => seqV env cal opsR [] tm st0)) = _
  rw [Tm.put_eq, show op3.dst = some 12 from by kernel_rfl]
  rfl
theorem b_get (o sp : Option Nat) (n : Nat) (b : Bool) : evOp (tmB (argV o sp n) (lenN o n) b) (.tmp 12) = .bool b := by
  cases o with
  | none => kernel_rfl
  | some o => cases o <;> cases n <;> kernel_rfl
theorem t_ok (o sp : Option Nat) (n : Nat) : boolOf (outOf env Tryz.f3 (thenV (codeV env cal 1000000 thenC (tmB (argV o sp n) (lenN o n) true) st0) (codeV env cal 1000000 c2))) = true := by
  cases o with
  | none => kernel_rfl
  | some o => cases o <;> cases n <;> kernel_rfl
theorem r_ok (o sp : Option Nat) (n : Nat) : boolOf (outOf env Tryz.f3 (codeV env cal 1000000 c2 (tmB (argV o sp n) (lenN o n) false) st0)) = true := by
  cases o with
  | none => kernel_rfl
  | some o => cases o <;> cases n <;> kernel_rfl
/-- The law, evaluated: true, for whatever slice. -/
theorem main_true (o sp : Option Nat) (n : Nat) : boolOf (callV env extN 1000000 main 1000 3 [argV o sp n] st0) = true := by
  have h : callV env extN 1000000 main 1000 3 [argV o sp n] st0 = tabV main 3 [argV o sp n] st0 (ob (env.fn.get 3) fun fn => match fn.body with
      | none => ob (extV extN 3 [argV o sp n]) fun v => some2 v st0
      | some c => chk (Nat.ble (lenL [argV o sp n]) fn.ntmps) <| outOf env fn (codeV env cal 1000000 c (layArgs [argV o sp n] 0 .nil) st0)) := rfl
  rw [h, tab3, get3, show ∀ k : Func → Option (Value × St), ob (some Tryz.f3) k = k Tryz.f3 from fun k => rfl]
  rw [body_eq]
  show boolOf (chk (Nat.ble 1 49) <| outOf env Tryz.f3 (codeV env cal 1000000 _ (tm0 (argV o sp n)) st0)) = true
  rw [show ∀ k : Option (Value × St), chk (Nat.ble 1 49) k = k from fun k => rfl]
  rw [codeV_seq, a_ok]
  show boolOf (outOf env Tryz.f3 (codeV env cal 1000000 (.seq (.seq (leftC c1) (.cond (.tmp 12) thenC .skip)) c2) (tmA (argV o sp n)) st0)) = true
  rw [codeV_seq, codeV_seq, b_ok]
  show boolOf (outOf env Tryz.f3 (thenV (codeV env cal 1000000 (.cond (.tmp 12) thenC .skip) (tmB (argV o sp n) (lenN o n) (iLt (.ofNat 1048576) (.ofNat (lenN o n)))) st0) (codeV env cal 1000000 c2))) = true
  rw [codeV_cond, b_get]
  cases iLt (.ofNat 1048576) (.ofNat (lenN o n)) with
  | true => exact t_ok o sp n
  | false => exact r_ok o sp n
theorem vmap_arg (o : Nat) (sp : Option Nat) (n b c : Nat) (A : Nat → Prop) (h16 : A 16) : VR A (fun i => if i = 16 then (b, c) else (i, 0)) (argV (some o) sp n) (.slice (some ⟨b, o, sp⟩) n c) := fun ρ' e => by
  have h := e 16 h16
  show vmap ρ' (.slice (some ⟨16, o, sp⟩) n unk) = _
  rw [vmap_slice, h]
  simp [capMap]
/-- THE LAW's WALK: in whatever world, for whatever slice, it returns true, and all that lay lies as it did. -/
theorem law (w : World) (v' : Value) (hv : v' = .slice none 0 0 ∨ ∃ b o sp n c, v' = .slice (some ⟨b, o, sp⟩) n c) : CallUp Tryz.prog 3 ⟨[v']⟩ w fun v w' => v = .bool true ∧ Fr w w' fun _ => False := by
  have key : ∀ (o sp : Option Nat) (n : Nat) (ρ : Rho), (∀ g, g < 16 → (ρ g).1 = g) → VR (fun i => i < 17) ρ (argV o sp n) v' → CallUp Tryz.prog 3 ⟨[v']⟩ w fun v w' => v = .bool true ∧ Fr w w' fun _ => False := by
    intro o sp n ρ hg hV
    have h := main_true o sp n
    unfold boolOf at h
    split at h
    · rename_i b s hc
      subst h
      have hC := callV_ok envOk fnOk mixed 1000000 (tab := main) mainOk 1000
      obtain ⟨hgr, hk⟩ := hC _ _ _ _ _ hc
      have hst : ∀ b, st0.heap.get b = none := fun b => rfl
      have := hk (fun b => In s.acc b) (fun i => i < 17) ρ w [v'] ⟨fun i hi => hi, fun b _ => hst b, fun b hb => hb, ⟨fun b o _ h => (by rw [hst] at h; cases h), fun b b' o o' _ _ h => (by rw [hst] at h; cases h)⟩⟩ (fun g hg' => ⟨Nat.lt_succ_of_lt hg', hg g hg'⟩) (LR.cons hV LR.nil)
      refine this.mono fun v w' hp => ?_
      obtain ⟨ρ', hv, hG⟩ := hp
      refine ⟨hv.unbool, ⟨hG.frame.os, hG.frame.tape, hG.frame.output, hG.frame.size, fun r hr _ => hG.frame.block r hr ?_⟩⟩
      rintro ⟨b, o, _, _, h, _⟩
      rw [hst] at h; cases h
    · cases h
  rcases hv with rfl | ⟨b, o, sp, n, c, rfl⟩
  · exact key none none 0 (fun i => (i, 0)) (fun g _ => rfl) (VR.ground (by simp [argV]))
  · refine key (some o) sp n (fun i => if i = 16 then (b, c) else (i, 0)) (fun g hg => ?_) (vmap_arg o sp n b c _ (by decide))
    simp only [show ¬ g = 16 by omega, if_false]
end Go.Proofs.YtflflhoajnnmhaaGreatDoor
