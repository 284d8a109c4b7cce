/- A text of the closed facts about this program that the evaluator is run on. No condition. -/
import Derived.Test.YtbefibijhfgkdaaGreatDoorK1
import Derived.Lib.MakeNoZero
import Derived.Test.YtbefibijhfgkdaaGreatDoorLK
import Derived.WalkKit
import Derived.Laws.StructEq
import Derived.Laws.Externs
namespace Go.Proofs.YtbefibijhfgkdaaGreatDoor
open Go Go.Ev
set_option maxRecDepth 100000
set_option maxHeartbeats 4000000
set_option linter.unusedSimpArgs false
set_option linter.unusedVariables false
def TAll {α : Type} (p : Nat → α → Prop) : T α → Prop
  | .nil => True
  | .node v l r => (∀ x, v = some x → p 0 x) ∧ TAll (fun n x => p (2 * n + 1) x) l ∧ TAll (fun n x => p (2 * n + 2) x) r
theorem TAll.get {α : Type} : ∀ {t : T α} {p : Nat → α → Prop}, TAll p t → ∀ n x, t.get n = some x → p n x
  | .nil, p, _, n, x, h => by rw [T.get_nil] at h; cases h
  | .node v l r, p, ⟨h1, h2, h3⟩, n, x, h => by
    rw [T.get_node] at h
    split at h
    · rename_i h0; subst h0; exact h1 x h
    · split at h
      · rename_i h0 h4
        have := TAll.get h2 _ x h
        rwa [show 2 * (n / 2) + 1 = n by omega] at this
      · rename_i h0 h4
        have := TAll.get h3 _ x h
        rwa [show 2 * (n / 2 - 1) + 2 = n by omega] at this
theorem lf {α : Type} {p : Nat → α → Prop} {n : Nat} {a : α} (h : p n a) : ∀ x, some a = some x → p n x := fun x e => by cases e; exact h
def FnP (f : Nat) (fn : Func) : Prop := Tryz.prog.funcs[f]? = some fn ∧ ∀ c, fn.body = some c → (∀ args w, (callFunc f args).run Tryz.prog w = .ok (.enter f args) w) ∧ (f ≠ 90 → codeOk fn.ntmps c = true)
def TyP (t : Nat) (i : TypeInfo) : Prop := Tryz.prog.info? t = some i ∧ ∀ z, i.zero = some z → ∀ ρ, vmap ρ z = z
theorem code_of {b : Option Code} {n : Nat} {c : Code} (h : (match b with | some c => codeOk n c | none => true) = true) (hc : b = some c) : codeOk n c = true := by rw [hc] at h; exact h
theorem info_of {t : Nat} {i : TypeInfo} (ht : t < 331) (h : Tryz.prog.types[t]? = some i) : Tryz.prog.info? t = some i := by
  unfold Tables.info?
  rw [if_pos (by rw [Tryz.types_size]; exact ht)]
  exact h
theorem zero_of {o : Option Value} (h : (match o with | some z => groundB z | none => true) = true) : ∀ z, o = some z → ∀ ρ, vmap ρ z = z := by
  rintro z rfl ρ
  exact groundB_ok ρ z h
theorem F3 : FnP 3 Tryz.f3 := ⟨Tryz.func3, fun c hc => ⟨fun args w => Tryz.call3 args w, fun _ => code_of ok3 hc⟩⟩
theorem F4 : FnP 4 Tryz.f4 := ⟨Tryz.func4, fun c hc => ⟨fun args w => Tryz.call4 args w, fun _ => code_of ok4 hc⟩⟩
theorem F5 : FnP 5 Tryz.f5 := ⟨Tryz.func5, fun c hc => ⟨fun args w => Tryz.call5 args w, fun _ => code_of ok5 hc⟩⟩
theorem F6 : FnP 6 Tryz.f6 := ⟨Tryz.func6, fun c hc => ⟨fun args w => Tryz.call6 args w, fun _ => code_of ok6 hc⟩⟩
theorem F7 : FnP 7 Tryz.f7 := ⟨Tryz.func7, fun c hc => ⟨fun args w => Tryz.call7 args w, fun _ => code_of ok7 hc⟩⟩
theorem F8 : FnP 8 Tryz.f8 := ⟨Tryz.func8, fun c hc => ⟨fun args w => Tryz.call8 args w, fun _ => code_of ok8 hc⟩⟩
theorem F9 : FnP 9 Tryz.f9 := ⟨Tryz.func9, fun c hc => ⟨fun args w => Tryz.call9 args w, fun _ => code_of ok9 hc⟩⟩
theorem F10 : FnP 10 Tryz.f10 := ⟨Tryz.func10, fun c hc => ⟨fun args w => Tryz.call10 args w, fun _ => code_of ok10 hc⟩⟩
theorem F11 : FnP 11 Tryz.f11 := ⟨Tryz.func11, fun c hc => ⟨fun args w => Tryz.call11 args w, fun _ => code_of ok11 hc⟩⟩
theorem F12 : FnP 12 Tryz.f12 := ⟨Tryz.func12, fun c hc => ⟨fun args w => Tryz.call12 args w, fun _ => code_of ok12 hc⟩⟩
theorem F13 : FnP 13 Tryz.f13 := ⟨Tryz.func13, fun c hc => ⟨fun args w => Tryz.call13 args w, fun _ => code_of ok13 hc⟩⟩
theorem F14 : FnP 14 Tryz.f14 := ⟨Tryz.func14, fun c hc => ⟨fun args w => Tryz.call14 args w, fun _ => code_of ok14 hc⟩⟩
theorem F15 : FnP 15 Tryz.f15 := ⟨Tryz.func15, fun c hc => ⟨fun args w => Tryz.call15 args w, fun _ => code_of ok15 hc⟩⟩
theorem F16 : FnP 16 Tryz.f16 := ⟨Tryz.func16, fun c hc => ⟨fun args w => Tryz.call16 args w, fun _ => code_of ok16 hc⟩⟩
theorem F17 : FnP 17 Tryz.f17 := ⟨Tryz.func17, fun c hc => ⟨fun args w => Tryz.call17 args w, fun _ => code_of ok17 hc⟩⟩
theorem F18 : FnP 18 Tryz.f18 := ⟨Tryz.func18, fun c hc => ⟨fun args w => Tryz.call18 args w, fun _ => code_of ok18 hc⟩⟩
theorem F19 : FnP 19 Tryz.f19 := ⟨Tryz.func19, fun c hc => ⟨fun args w => Tryz.call19 args w, fun _ => code_of ok19 hc⟩⟩
theorem F20 : FnP 20 Tryz.f20 := ⟨Tryz.func20, fun c hc => ⟨fun args w => Tryz.call20 args w, fun _ => code_of ok20 hc⟩⟩
theorem F21 : FnP 21 Tryz.f21 := ⟨Tryz.func21, fun c hc => ⟨fun args w => Tryz.call21 args w, fun _ => code_of ok21 hc⟩⟩
theorem F22 : FnP 22 Tryz.f22 := ⟨Tryz.func22, fun c hc => ⟨fun args w => Tryz.call22 args w, fun _ => code_of ok22 hc⟩⟩
theorem F23 : FnP 23 Tryz.f23 := ⟨Tryz.func23, fun c hc => ⟨fun args w => Tryz.call23 args w, fun _ => code_of ok23 hc⟩⟩
theorem F24 : FnP 24 Tryz.f24 := ⟨Tryz.func24, fun c hc => ⟨fun args w => Tryz.call24 args w, fun _ => code_of ok24 hc⟩⟩
theorem F25 : FnP 25 Tryz.f25 := ⟨Tryz.func25, fun c hc => ⟨fun args w => Tryz.call25 args w, fun _ => code_of ok25 hc⟩⟩
theorem F26 : FnP 26 Tryz.f26 := ⟨Tryz.func26, fun c hc => ⟨fun args w => Tryz.call26 args w, fun _ => code_of ok26 hc⟩⟩
theorem F27 : FnP 27 Tryz.f27 := ⟨Tryz.func27, fun c hc => ⟨fun args w => Tryz.call27 args w, fun _ => code_of ok27 hc⟩⟩
theorem F28 : FnP 28 Tryz.f28 := ⟨Tryz.func28, fun c hc => ⟨fun args w => Tryz.call28 args w, fun _ => code_of ok28 hc⟩⟩
theorem F29 : FnP 29 Tryz.f29 := ⟨Tryz.func29, fun c hc => ⟨fun args w => Tryz.call29 args w, fun _ => code_of ok29 hc⟩⟩
theorem F30 : FnP 30 Tryz.f30 := ⟨Tryz.func30, fun c hc => ⟨fun args w => Tryz.call30 args w, fun _ => code_of ok30 hc⟩⟩
theorem F31 : FnP 31 Tryz.f31 := ⟨Tryz.func31, fun c hc => ⟨fun args w => Tryz.call31 args w, fun _ => code_of ok31 hc⟩⟩
theorem F32 : FnP 32 Tryz.f32 := ⟨Tryz.func32, fun c hc => ⟨fun args w => Tryz.call32 args w, fun _ => code_of ok32 hc⟩⟩
theorem F33 : FnP 33 Tryz.f33 := ⟨Tryz.func33, fun c hc => ⟨fun args w => Tryz.call33 args w, fun _ => code_of ok33 hc⟩⟩
theorem F34 : FnP 34 Tryz.f34 := ⟨Tryz.func34, fun c hc => ⟨fun args w => Tryz.call34 args w, fun _ => code_of ok34 hc⟩⟩
theorem F35 : FnP 35 Tryz.f35 := ⟨Tryz.func35, fun c hc => ⟨fun args w => Tryz.call35 args w, fun _ => code_of ok35 hc⟩⟩
theorem F36 : FnP 36 Tryz.f36 := ⟨Tryz.func36, fun c hc => ⟨fun args w => Tryz.call36 args w, fun _ => code_of ok36 hc⟩⟩
theorem F37 : FnP 37 Tryz.f37 := ⟨Tryz.func37, fun c hc => ⟨fun args w => Tryz.call37 args w, fun _ => code_of ok37 hc⟩⟩
theorem F38 : FnP 38 Tryz.f38 := ⟨Tryz.func38, fun c hc => ⟨fun args w => Tryz.call38 args w, fun _ => code_of ok38 hc⟩⟩
theorem F39 : FnP 39 Tryz.f39 := ⟨Tryz.func39, fun c hc => ⟨fun args w => Tryz.call39 args w, fun _ => code_of ok39 hc⟩⟩
theorem F40 : FnP 40 Tryz.f40 := ⟨Tryz.func40, fun c hc => ⟨fun args w => Tryz.call40 args w, fun _ => code_of ok40 hc⟩⟩
theorem F41 : FnP 41 Tryz.f41 := ⟨Tryz.func41, fun c hc => ⟨fun args w => Tryz.call41 args w, fun _ => code_of ok41 hc⟩⟩
theorem F42 : FnP 42 Tryz.f42 := ⟨Tryz.func42, fun c hc => ⟨fun args w => Tryz.call42 args w, fun _ => code_of ok42 hc⟩⟩
theorem F43 : FnP 43 Tryz.f43 := ⟨Tryz.func43, fun c hc => ⟨fun args w => Tryz.call43 args w, fun _ => code_of ok43 hc⟩⟩
theorem F44 : FnP 44 Tryz.f44 := ⟨Tryz.func44, fun c hc => ⟨fun args w => Tryz.call44 args w, fun _ => code_of ok44 hc⟩⟩
theorem F45 : FnP 45 Tryz.f45 := ⟨Tryz.func45, fun c hc => ⟨fun args w => Tryz.call45 args w, fun _ => code_of ok45 hc⟩⟩
theorem F46 : FnP 46 Tryz.f46 := ⟨Tryz.func46, fun c hc => ⟨fun args w => Tryz.call46 args w, fun _ => code_of ok46 hc⟩⟩
theorem F47 : FnP 47 Tryz.f47 := ⟨Tryz.func47, fun c hc => ⟨fun args w => Tryz.call47 args w, fun _ => code_of ok47 hc⟩⟩
theorem F48 : FnP 48 Tryz.f48 := ⟨Tryz.func48, fun c hc => ⟨fun args w => Tryz.call48 args w, fun _ => code_of ok48 hc⟩⟩
theorem F49 : FnP 49 Tryz.f49 := ⟨Tryz.func49, fun c hc => ⟨fun args w => Tryz.call49 args w, fun _ => code_of ok49 hc⟩⟩
theorem F50 : FnP 50 Tryz.f50 := ⟨Tryz.func50, fun c hc => ⟨fun args w => Tryz.call50 args w, fun _ => code_of ok50 hc⟩⟩
theorem F51 : FnP 51 Tryz.f51 := ⟨Tryz.func51, fun c hc => ⟨fun args w => Tryz.call51 args w, fun _ => code_of ok51 hc⟩⟩
theorem F52 : FnP 52 Tryz.f52 := ⟨Tryz.func52, fun c hc => ⟨fun args w => Tryz.call52 args w, fun _ => code_of ok52 hc⟩⟩
theorem F53 : FnP 53 Tryz.f53 := ⟨Tryz.func53, fun c hc => ⟨fun args w => Tryz.call53 args w, fun _ => code_of ok53 hc⟩⟩
theorem F54 : FnP 54 Tryz.f54 := ⟨Tryz.func54, fun c hc => ⟨fun args w => Tryz.call54 args w, fun _ => code_of ok54 hc⟩⟩
theorem F55 : FnP 55 Tryz.f55 := ⟨Tryz.func55, fun c hc => ⟨fun args w => Tryz.call55 args w, fun _ => code_of ok55 hc⟩⟩
theorem F56 : FnP 56 Tryz.f56 := ⟨Tryz.func56, fun c hc => ⟨fun args w => Tryz.call56 args w, fun _ => code_of ok56 hc⟩⟩
theorem F57 : FnP 57 Tryz.f57 := ⟨Tryz.func57, fun c hc => ⟨fun args w => Tryz.call57 args w, fun _ => code_of ok57 hc⟩⟩
theorem F58 : FnP 58 Tryz.f58 := ⟨Tryz.func58, fun c hc => ⟨fun args w => Tryz.call58 args w, fun _ => code_of ok58 hc⟩⟩
theorem F59 : FnP 59 Tryz.f59 := ⟨Tryz.func59, fun c hc => ⟨fun args w => Tryz.call59 args w, fun _ => code_of ok59 hc⟩⟩
theorem F60 : FnP 60 Tryz.f60 := ⟨Tryz.func60, fun c hc => ⟨fun args w => Tryz.call60 args w, fun _ => code_of ok60 hc⟩⟩
theorem F61 : FnP 61 Tryz.f61 := ⟨Tryz.func61, fun c hc => ⟨fun args w => Tryz.call61 args w, fun _ => code_of ok61 hc⟩⟩
theorem F62 : FnP 62 Tryz.f62 := ⟨Tryz.func62, fun c hc => ⟨fun args w => Tryz.call62 args w, fun _ => code_of ok62 hc⟩⟩
theorem F63 : FnP 63 Tryz.f63 := ⟨Tryz.func63, fun c hc => ⟨fun args w => Tryz.call63 args w, fun _ => code_of ok63 hc⟩⟩
theorem F64 : FnP 64 Tryz.f64 := ⟨Tryz.func64, fun c hc => ⟨fun args w => Tryz.call64 args w, fun _ => code_of ok64 hc⟩⟩
theorem F65 : FnP 65 Tryz.f65 := ⟨Tryz.func65, fun c hc => ⟨fun args w => Tryz.call65 args w, fun _ => code_of ok65 hc⟩⟩
theorem F66 : FnP 66 Tryz.f66 := ⟨Tryz.func66, fun c hc => ⟨fun args w => Tryz.call66 args w, fun _ => code_of ok66 hc⟩⟩
theorem F67 : FnP 67 Tryz.f67 := ⟨Tryz.func67, fun c hc => ⟨fun args w => Tryz.call67 args w, fun _ => code_of ok67 hc⟩⟩
theorem F69 : FnP 69 Tryz.f69 := ⟨Tryz.func69, fun c hc => ⟨fun args w => Tryz.call69 args w, fun _ => code_of ok69 hc⟩⟩
theorem F70 : FnP 70 Tryz.f70 := ⟨Tryz.func70, fun c hc => ⟨fun args w => Tryz.call70 args w, fun _ => code_of ok70 hc⟩⟩
theorem F71 : FnP 71 Tryz.f71 := ⟨Tryz.func71, fun c hc => ⟨fun args w => Tryz.call71 args w, fun _ => code_of ok71 hc⟩⟩
theorem F72 : FnP 72 Tryz.f72 := ⟨Tryz.func72, fun c hc => ⟨fun args w => Tryz.call72 args w, fun _ => code_of ok72 hc⟩⟩
theorem F73 : FnP 73 Tryz.f73 := ⟨Tryz.func73, fun c hc => ⟨fun args w => Tryz.call73 args w, fun _ => code_of ok73 hc⟩⟩
theorem F74 : FnP 74 Tryz.f74 := ⟨Tryz.func74, fun c hc => ⟨fun args w => Tryz.call74 args w, fun _ => code_of ok74 hc⟩⟩
theorem F75 : FnP 75 Tryz.f75 := ⟨Tryz.func75, fun c hc => ⟨fun args w => Tryz.call75 args w, fun _ => code_of ok75 hc⟩⟩
theorem F76 : FnP 76 Tryz.f76 := ⟨Tryz.func76, fun c hc => ⟨fun args w => Tryz.call76 args w, fun _ => code_of ok76 hc⟩⟩
theorem F77 : FnP 77 Tryz.f77 := ⟨Tryz.func77, fun c hc => ⟨fun args w => Tryz.call77 args w, fun _ => code_of ok77 hc⟩⟩
theorem F78 : FnP 78 Tryz.f78 := ⟨Tryz.func78, fun c hc => ⟨fun args w => Tryz.call78 args w, fun _ => code_of ok78 hc⟩⟩
theorem F79 : FnP 79 Tryz.f79 := ⟨Tryz.func79, fun c hc => ⟨fun args w => Tryz.call79 args w, fun _ => code_of ok79 hc⟩⟩
theorem F81 : FnP 81 Tryz.f81 := ⟨Tryz.func81, fun c hc => ⟨fun args w => Tryz.call81 args w, fun _ => code_of ok81 hc⟩⟩
theorem F82 : FnP 82 Tryz.f82 := ⟨Tryz.func82, fun c hc => ⟨fun args w => Tryz.call82 args w, fun _ => code_of ok82 hc⟩⟩
theorem F83 : FnP 83 Tryz.f83 := ⟨Tryz.func83, fun c hc => ⟨fun args w => Tryz.call83 args w, fun _ => code_of ok83 hc⟩⟩
theorem F84 : FnP 84 Tryz.f84 := ⟨Tryz.func84, fun c hc => ⟨fun args w => Tryz.call84 args w, fun _ => code_of ok84 hc⟩⟩
theorem F85 : FnP 85 Tryz.f85 := ⟨Tryz.func85, fun c hc => ⟨fun args w => Tryz.call85 args w, fun _ => code_of ok85 hc⟩⟩
theorem F86 : FnP 86 Tryz.f86 := ⟨Tryz.func86, fun c hc => ⟨fun args w => Tryz.call86 args w, fun _ => code_of ok86 hc⟩⟩
theorem F87 : FnP 87 Tryz.f87 := ⟨Tryz.func87, fun c hc => ⟨fun args w => Tryz.call87 args w, fun _ => code_of ok87 hc⟩⟩
theorem F88 : FnP 88 Tryz.f88 := ⟨Tryz.func88, fun c hc => ⟨fun args w => Tryz.call88 args w, fun _ => code_of ok88 hc⟩⟩
theorem F89 : FnP 89 Tryz.f89 := ⟨Tryz.func89, fun c hc => ⟨fun args w => Tryz.call89 args w, fun _ => code_of ok89 hc⟩⟩
theorem F90 : FnP 90 Tryz.f90 := ⟨Tryz.func90, fun c hc => ⟨fun args w => Tryz.call90 args w, fun h => absurd rfl h⟩⟩
theorem F91 : FnP 91 Tryz.f91 := ⟨Tryz.func91, fun c hc => ⟨fun args w => Tryz.call91 args w, fun _ => code_of ok91 hc⟩⟩
theorem F92 : FnP 92 Tryz.f92 := ⟨Tryz.func92, fun c hc => ⟨fun args w => Tryz.call92 args w, fun _ => code_of ok92 hc⟩⟩
theorem F93 : FnP 93 Tryz.f93 := ⟨Tryz.func93, fun c hc => ⟨fun args w => Tryz.call93 args w, fun _ => code_of ok93 hc⟩⟩
theorem F94 : FnP 94 Tryz.f94 := ⟨Tryz.func94, fun c hc => ⟨fun args w => Tryz.call94 args w, fun _ => code_of ok94 hc⟩⟩
theorem F95 : FnP 95 Tryz.f95 := ⟨Tryz.func95, fun c hc => ⟨fun args w => Tryz.call95 args w, fun _ => code_of ok95 hc⟩⟩
theorem F96 : FnP 96 Tryz.f96 := ⟨Tryz.func96, fun c hc => ⟨fun args w => Tryz.call96 args w, fun _ => code_of ok96 hc⟩⟩
theorem F97 : FnP 97 Tryz.f97 := ⟨Tryz.func97, fun c hc => ⟨fun args w => Tryz.call97 args w, fun _ => code_of ok97 hc⟩⟩
theorem F99 : FnP 99 Tryz.f99 := ⟨Tryz.func99, fun c hc => ⟨fun args w => Tryz.call99 args w, fun _ => code_of ok99 hc⟩⟩
theorem F100 : FnP 100 Tryz.f100 := ⟨Tryz.func100, fun c hc => ⟨fun args w => Tryz.call100 args w, fun _ => code_of ok100 hc⟩⟩
theorem F101 : FnP 101 Tryz.f101 := ⟨Tryz.func101, fun c hc => ⟨fun args w => Tryz.call101 args w, fun _ => code_of ok101 hc⟩⟩
theorem F102 : FnP 102 Tryz.f102 := ⟨Tryz.func102, fun c hc => ⟨fun args w => Tryz.call102 args w, fun _ => code_of ok102 hc⟩⟩
theorem F103 : FnP 103 Tryz.f103 := ⟨Tryz.func103, fun c hc => ⟨fun args w => Tryz.call103 args w, fun _ => code_of ok103 hc⟩⟩
theorem F105 : FnP 105 Tryz.f105 := ⟨Tryz.func105, fun c hc => ⟨fun args w => Tryz.call105 args w, fun _ => code_of ok105 hc⟩⟩
theorem F106 : FnP 106 Tryz.f106 := ⟨Tryz.func106, fun c hc => ⟨fun args w => Tryz.call106 args w, fun _ => code_of ok106 hc⟩⟩
theorem F107 : FnP 107 Tryz.f107 := ⟨Tryz.func107, fun c hc => ⟨fun args w => Tryz.call107 args w, fun _ => code_of ok107 hc⟩⟩
theorem F108 : FnP 108 Tryz.f108 := ⟨Tryz.func108, fun c hc => ⟨fun args w => Tryz.call108 args w, fun _ => code_of ok108 hc⟩⟩
theorem F109 : FnP 109 Tryz.f109 := ⟨Tryz.func109, fun c hc => ⟨fun args w => Tryz.call109 args w, fun _ => code_of ok109 hc⟩⟩
theorem F110 : FnP 110 Tryz.f110 := ⟨Tryz.func110, fun c hc => ⟨fun args w => Tryz.call110 args w, fun _ => code_of ok110 hc⟩⟩
theorem F111 : FnP 111 Tryz.f111 := ⟨Tryz.func111, fun c hc => ⟨fun args w => Tryz.call111 args w, fun _ => code_of ok111 hc⟩⟩
theorem F112 : FnP 112 Tryz.f112 := ⟨Tryz.func112, fun c hc => ⟨fun args w => Tryz.call112 args w, fun _ => code_of ok112 hc⟩⟩
theorem F113 : FnP 113 Tryz.f113 := ⟨Tryz.func113, fun c hc => ⟨fun args w => Tryz.call113 args w, fun _ => code_of ok113 hc⟩⟩
theorem F114 : FnP 114 Tryz.f114 := ⟨Tryz.func114, fun c hc => ⟨fun args w => Tryz.call114 args w, fun _ => code_of ok114 hc⟩⟩
theorem F115 : FnP 115 Tryz.f115 := ⟨Tryz.func115, fun c hc => ⟨fun args w => Tryz.call115 args w, fun _ => code_of ok115 hc⟩⟩
theorem F116 : FnP 116 Tryz.f116 := ⟨Tryz.func116, fun c hc => ⟨fun args w => Tryz.call116 args w, fun _ => code_of ok116 hc⟩⟩
theorem F117 : FnP 117 Tryz.f117 := ⟨Tryz.func117, fun c hc => ⟨fun args w => Tryz.call117 args w, fun _ => code_of ok117 hc⟩⟩
theorem F118 : FnP 118 Tryz.f118 := ⟨Tryz.func118, fun c hc => ⟨fun args w => Tryz.call118 args w, fun _ => code_of ok118 hc⟩⟩
theorem F119 : FnP 119 Tryz.f119 := ⟨Tryz.func119, fun c hc => ⟨fun args w => Tryz.call119 args w, fun _ => code_of ok119 hc⟩⟩
theorem F120 : FnP 120 Tryz.f120 := ⟨Tryz.func120, fun c hc => ⟨fun args w => Tryz.call120 args w, fun _ => code_of ok120 hc⟩⟩
theorem F121 : FnP 121 Tryz.f121 := ⟨Tryz.func121, fun c hc => ⟨fun args w => Tryz.call121 args w, fun _ => code_of ok121 hc⟩⟩
theorem F122 : FnP 122 Tryz.f122 := ⟨Tryz.func122, fun c hc => ⟨fun args w => Tryz.call122 args w, fun _ => code_of ok122 hc⟩⟩
theorem F123 : FnP 123 Tryz.f123 := ⟨Tryz.func123, fun c hc => ⟨fun args w => Tryz.call123 args w, fun _ => code_of ok123 hc⟩⟩
theorem F124 : FnP 124 Tryz.f124 := ⟨Tryz.func124, fun c hc => ⟨fun args w => Tryz.call124 args w, fun _ => code_of ok124 hc⟩⟩
theorem F125 : FnP 125 Tryz.f125 := ⟨Tryz.func125, fun c hc => ⟨fun args w => Tryz.call125 args w, fun _ => code_of ok125 hc⟩⟩
theorem F126 : FnP 126 Tryz.f126 := ⟨Tryz.func126, fun c hc => ⟨fun args w => Tryz.call126 args w, fun _ => code_of ok126 hc⟩⟩
theorem F127 : FnP 127 Tryz.f127 := ⟨Tryz.func127, fun c hc => ⟨fun args w => Tryz.call127 args w, fun _ => code_of ok127 hc⟩⟩
theorem F128 : FnP 128 Tryz.f128 := ⟨Tryz.func128, fun c hc => ⟨fun args w => Tryz.call128 args w, fun _ => code_of ok128 hc⟩⟩
theorem F129 : FnP 129 Tryz.f129 := ⟨Tryz.func129, fun c hc => ⟨fun args w => Tryz.call129 args w, fun _ => code_of ok129 hc⟩⟩
theorem F130 : FnP 130 Tryz.f130 := ⟨Tryz.func130, fun c hc => ⟨fun args w => Tryz.call130 args w, fun _ => code_of ok130 hc⟩⟩
theorem F131 : FnP 131 Tryz.f131 := ⟨Tryz.func131, fun c hc => ⟨fun args w => Tryz.call131 args w, fun _ => code_of ok131 hc⟩⟩
theorem F132 : FnP 132 Tryz.f132 := ⟨Tryz.func132, fun c hc => ⟨fun args w => Tryz.call132 args w, fun _ => code_of ok132 hc⟩⟩
theorem F133 : FnP 133 Tryz.f133 := ⟨Tryz.func133, fun c hc => ⟨fun args w => Tryz.call133 args w, fun _ => code_of ok133 hc⟩⟩
theorem F135 : FnP 135 Tryz.f135 := ⟨Tryz.func135, fun c hc => ⟨fun args w => Tryz.call135 args w, fun _ => code_of ok135 hc⟩⟩
theorem F136 : FnP 136 Tryz.f136 := ⟨Tryz.func136, fun c hc => ⟨fun args w => Tryz.call136 args w, fun _ => code_of ok136 hc⟩⟩
theorem F137 : FnP 137 Tryz.f137 := ⟨Tryz.func137, fun c hc => ⟨fun args w => Tryz.call137 args w, fun _ => code_of ok137 hc⟩⟩
theorem F138 : FnP 138 Tryz.f138 := ⟨Tryz.func138, fun c hc => ⟨fun args w => Tryz.call138 args w, fun _ => code_of ok138 hc⟩⟩
theorem F139 : FnP 139 Tryz.f139 := ⟨Tryz.func139, fun c hc => ⟨fun args w => Tryz.call139 args w, fun _ => code_of ok139 hc⟩⟩
theorem F140 : FnP 140 Tryz.f140 := ⟨Tryz.func140, fun c hc => ⟨fun args w => Tryz.call140 args w, fun _ => code_of ok140 hc⟩⟩
theorem F141 : FnP 141 Tryz.f141 := ⟨Tryz.func141, fun c hc => ⟨fun args w => Tryz.call141 args w, fun _ => code_of ok141 hc⟩⟩
theorem F142 : FnP 142 Tryz.f142 := ⟨Tryz.func142, fun c hc => ⟨fun args w => Tryz.call142 args w, fun _ => code_of ok142 hc⟩⟩
theorem F143 : FnP 143 Tryz.f143 := ⟨Tryz.func143, fun c hc => ⟨fun args w => Tryz.call143 args w, fun _ => code_of ok143 hc⟩⟩
theorem F144 : FnP 144 Tryz.f144 := ⟨Tryz.func144, fun c hc => ⟨fun args w => Tryz.call144 args w, fun _ => code_of ok144 hc⟩⟩
theorem F145 : FnP 145 Tryz.f145 := ⟨Tryz.func145, fun c hc => ⟨fun args w => Tryz.call145 args w, fun _ => code_of ok145 hc⟩⟩
theorem F146 : FnP 146 Tryz.f146 := ⟨Tryz.func146, fun c hc => ⟨fun args w => Tryz.call146 args w, fun _ => code_of ok146 hc⟩⟩
theorem F147 : FnP 147 Tryz.f147 := ⟨Tryz.func147, fun c hc => ⟨fun args w => Tryz.call147 args w, fun _ => code_of ok147 hc⟩⟩
theorem F148 : FnP 148 Tryz.f148 := ⟨Tryz.func148, fun c hc => ⟨fun args w => Tryz.call148 args w, fun _ => code_of ok148 hc⟩⟩
theorem F149 : FnP 149 Tryz.f149 := ⟨Tryz.func149, fun c hc => ⟨fun args w => Tryz.call149 args w, fun _ => code_of ok149 hc⟩⟩
theorem F150 : FnP 150 Tryz.f150 := ⟨Tryz.func150, fun c hc => ⟨fun args w => Tryz.call150 args w, fun _ => code_of ok150 hc⟩⟩
theorem F151 : FnP 151 Tryz.f151 := ⟨Tryz.func151, fun c hc => ⟨fun args w => Tryz.call151 args w, fun _ => code_of ok151 hc⟩⟩
theorem F152 : FnP 152 Tryz.f152 := ⟨Tryz.func152, fun c hc => ⟨fun args w => Tryz.call152 args w, fun _ => code_of ok152 hc⟩⟩
theorem F153 : FnP 153 Tryz.f153 := ⟨Tryz.func153, fun c hc => ⟨fun args w => Tryz.call153 args w, fun _ => code_of ok153 hc⟩⟩
theorem F154 : FnP 154 Tryz.f154 := ⟨Tryz.func154, fun c hc => ⟨fun args w => Tryz.call154 args w, fun _ => code_of ok154 hc⟩⟩
theorem F155 : FnP 155 Tryz.f155 := ⟨Tryz.func155, fun c hc => ⟨fun args w => Tryz.call155 args w, fun _ => code_of ok155 hc⟩⟩
theorem F156 : FnP 156 Tryz.f156 := ⟨Tryz.func156, fun c hc => ⟨fun args w => Tryz.call156 args w, fun _ => code_of ok156 hc⟩⟩
theorem F157 : FnP 157 Tryz.f157 := ⟨Tryz.func157, fun c hc => ⟨fun args w => Tryz.call157 args w, fun _ => code_of ok157 hc⟩⟩
theorem F158 : FnP 158 Tryz.f158 := ⟨Tryz.func158, fun c hc => ⟨fun args w => Tryz.call158 args w, fun _ => code_of ok158 hc⟩⟩
theorem F159 : FnP 159 Tryz.f159 := ⟨Tryz.func159, fun c hc => ⟨fun args w => Tryz.call159 args w, fun _ => code_of ok159 hc⟩⟩
theorem F160 : FnP 160 Tryz.f160 := ⟨Tryz.func160, fun c hc => ⟨fun args w => Tryz.call160 args w, fun _ => code_of ok160 hc⟩⟩
theorem F161 : FnP 161 Tryz.f161 := ⟨Tryz.func161, fun c hc => ⟨fun args w => Tryz.call161 args w, fun _ => code_of ok161 hc⟩⟩
theorem F162 : FnP 162 Tryz.f162 := ⟨Tryz.func162, fun c hc => ⟨fun args w => Tryz.call162 args w, fun _ => code_of ok162 hc⟩⟩
theorem F163 : FnP 163 Tryz.f163 := ⟨Tryz.func163, fun c hc => ⟨fun args w => Tryz.call163 args w, fun _ => code_of ok163 hc⟩⟩
theorem F165 : FnP 165 Tryz.f165 := ⟨Tryz.func165, fun c hc => ⟨fun args w => Tryz.call165 args w, fun _ => code_of ok165 hc⟩⟩
theorem F166 : FnP 166 Tryz.f166 := ⟨Tryz.func166, fun c hc => ⟨fun args w => Tryz.call166 args w, fun _ => code_of ok166 hc⟩⟩
theorem F167 : FnP 167 Tryz.f167 := ⟨Tryz.func167, fun c hc => ⟨fun args w => Tryz.call167 args w, fun _ => code_of ok167 hc⟩⟩
theorem F168 : FnP 168 Tryz.f168 := ⟨Tryz.func168, fun c hc => ⟨fun args w => Tryz.call168 args w, fun _ => code_of ok168 hc⟩⟩
theorem F169 : FnP 169 Tryz.f169 := ⟨Tryz.func169, fun c hc => ⟨fun args w => Tryz.call169 args w, fun _ => code_of ok169 hc⟩⟩
theorem F171 : FnP 171 Tryz.f171 := ⟨Tryz.func171, fun c hc => ⟨fun args w => Tryz.call171 args w, fun _ => code_of ok171 hc⟩⟩
theorem F172 : FnP 172 Tryz.f172 := ⟨Tryz.func172, fun c hc => ⟨fun args w => Tryz.call172 args w, fun _ => code_of ok172 hc⟩⟩
theorem F173 : FnP 173 Tryz.f173 := ⟨Tryz.func173, fun c hc => ⟨fun args w => Tryz.call173 args w, fun _ => code_of ok173 hc⟩⟩
theorem F174 : FnP 174 Tryz.f174 := ⟨Tryz.func174, fun c hc => ⟨fun args w => Tryz.call174 args w, fun _ => code_of ok174 hc⟩⟩
theorem F175 : FnP 175 Tryz.f175 := ⟨Tryz.func175, fun c hc => ⟨fun args w => Tryz.call175 args w, fun _ => code_of ok175 hc⟩⟩
theorem F176 : FnP 176 Tryz.f176 := ⟨Tryz.func176, fun c hc => ⟨fun args w => Tryz.call176 args w, fun _ => code_of ok176 hc⟩⟩
theorem F177 : FnP 177 Tryz.f177 := ⟨Tryz.func177, fun c hc => ⟨fun args w => Tryz.call177 args w, fun _ => code_of ok177 hc⟩⟩
theorem F178 : FnP 178 Tryz.f178 := ⟨Tryz.func178, fun c hc => ⟨fun args w => Tryz.call178 args w, fun _ => code_of ok178 hc⟩⟩
theorem F179 : FnP 179 Tryz.f179 := ⟨Tryz.func179, fun c hc => ⟨fun args w => Tryz.call179 args w, fun _ => code_of ok179 hc⟩⟩
theorem F180 : FnP 180 Tryz.f180 := ⟨Tryz.func180, fun c hc => ⟨fun args w => Tryz.call180 args w, fun _ => code_of ok180 hc⟩⟩
theorem F181 : FnP 181 Tryz.f181 := ⟨Tryz.func181, fun c hc => ⟨fun args w => Tryz.call181 args w, fun _ => code_of ok181 hc⟩⟩
theorem F182 : FnP 182 Tryz.f182 := ⟨Tryz.func182, fun c hc => ⟨fun args w => Tryz.call182 args w, fun _ => code_of ok182 hc⟩⟩
theorem F183 : FnP 183 Tryz.f183 := ⟨Tryz.func183, fun c hc => ⟨fun args w => Tryz.call183 args w, fun _ => code_of ok183 hc⟩⟩
theorem F184 : FnP 184 Tryz.f184 := ⟨Tryz.func184, fun c hc => ⟨fun args w => Tryz.call184 args w, fun _ => code_of ok184 hc⟩⟩
theorem F185 : FnP 185 Tryz.f185 := ⟨Tryz.func185, fun c hc => ⟨fun args w => Tryz.call185 args w, fun _ => code_of ok185 hc⟩⟩
theorem F186 : FnP 186 Tryz.f186 := ⟨Tryz.func186, fun c hc => ⟨fun args w => Tryz.call186 args w, fun _ => code_of ok186 hc⟩⟩
theorem F187 : FnP 187 Tryz.f187 := ⟨Tryz.func187, fun c hc => ⟨fun args w => Tryz.call187 args w, fun _ => code_of ok187 hc⟩⟩
theorem F188 : FnP 188 Tryz.f188 := ⟨Tryz.func188, fun c hc => ⟨fun args w => Tryz.call188 args w, fun _ => code_of ok188 hc⟩⟩
theorem F189 : FnP 189 Tryz.f189 := ⟨Tryz.func189, fun c hc => ⟨fun args w => Tryz.call189 args w, fun _ => code_of ok189 hc⟩⟩
theorem F190 : FnP 190 Tryz.f190 := ⟨Tryz.func190, fun c hc => ⟨fun args w => Tryz.call190 args w, fun _ => code_of ok190 hc⟩⟩
theorem F191 : FnP 191 Tryz.f191 := ⟨Tryz.func191, fun c hc => ⟨fun args w => Tryz.call191 args w, fun _ => code_of ok191 hc⟩⟩
theorem F192 : FnP 192 Tryz.f192 := ⟨Tryz.func192, fun c hc => ⟨fun args w => Tryz.call192 args w, fun _ => code_of ok192 hc⟩⟩
theorem F193 : FnP 193 Tryz.f193 := ⟨Tryz.func193, fun c hc => ⟨fun args w => Tryz.call193 args w, fun _ => code_of ok193 hc⟩⟩
theorem F194 : FnP 194 Tryz.f194 := ⟨Tryz.func194, fun c hc => ⟨fun args w => Tryz.call194 args w, fun _ => code_of ok194 hc⟩⟩
theorem F195 : FnP 195 Tryz.f195 := ⟨Tryz.func195, fun c hc => ⟨fun args w => Tryz.call195 args w, fun _ => code_of ok195 hc⟩⟩
theorem F196 : FnP 196 Tryz.f196 := ⟨Tryz.func196, fun c hc => ⟨fun args w => Tryz.call196 args w, fun _ => code_of ok196 hc⟩⟩
theorem F197 : FnP 197 Tryz.f197 := ⟨Tryz.func197, fun c hc => ⟨fun args w => Tryz.call197 args w, fun _ => code_of ok197 hc⟩⟩
theorem F198 : FnP 198 Tryz.f198 := ⟨Tryz.func198, fun c hc => ⟨fun args w => Tryz.call198 args w, fun _ => code_of ok198 hc⟩⟩
theorem F199 : FnP 199 Tryz.f199 := ⟨Tryz.func199, fun c hc => ⟨fun args w => Tryz.call199 args w, fun _ => code_of ok199 hc⟩⟩
theorem F200 : FnP 200 Tryz.f200 := ⟨Tryz.func200, fun c hc => ⟨fun args w => Tryz.call200 args w, fun _ => code_of ok200 hc⟩⟩
theorem F202 : FnP 202 Tryz.f202 := ⟨Tryz.func202, fun c hc => ⟨fun args w => Tryz.call202 args w, fun _ => code_of ok202 hc⟩⟩
theorem F203 : FnP 203 Tryz.f203 := ⟨Tryz.func203, fun c hc => ⟨fun args w => Tryz.call203 args w, fun _ => code_of ok203 hc⟩⟩
theorem F204 : FnP 204 Tryz.f204 := ⟨Tryz.func204, fun c hc => ⟨fun args w => Tryz.call204 args w, fun _ => code_of ok204 hc⟩⟩
theorem F205 : FnP 205 Tryz.f205 := ⟨Tryz.func205, fun c hc => ⟨fun args w => Tryz.call205 args w, fun _ => code_of ok205 hc⟩⟩
theorem F206 : FnP 206 Tryz.f206 := ⟨Tryz.func206, fun c hc => ⟨fun args w => Tryz.call206 args w, fun _ => code_of ok206 hc⟩⟩
theorem F210 : FnP 210 Tryz.f210 := ⟨Tryz.func210, fun c hc => ⟨fun args w => Tryz.call210 args w, fun _ => code_of ok210 hc⟩⟩
theorem F211 : FnP 211 Tryz.f211 := ⟨Tryz.func211, fun c hc => ⟨fun args w => Tryz.call211 args w, fun _ => code_of ok211 hc⟩⟩
theorem F212 : FnP 212 Tryz.f212 := ⟨Tryz.func212, fun c hc => ⟨fun args w => Tryz.call212 args w, fun _ => code_of ok212 hc⟩⟩
theorem F214 : FnP 214 Tryz.f214 := ⟨Tryz.func214, fun c hc => ⟨fun args w => Tryz.call214 args w, fun _ => code_of ok214 hc⟩⟩
theorem F216 : FnP 216 Tryz.f216 := ⟨Tryz.func216, fun c hc => ⟨fun args w => Tryz.call216 args w, fun _ => code_of ok216 hc⟩⟩
theorem F217 : FnP 217 Tryz.f217 := ⟨Tryz.func217, fun c hc => ⟨fun args w => Tryz.call217 args w, fun _ => code_of ok217 hc⟩⟩
theorem F219 : FnP 219 Tryz.f219 := ⟨Tryz.func219, fun c hc => ⟨fun args w => Tryz.call219 args w, fun _ => code_of ok219 hc⟩⟩
theorem F220 : FnP 220 Tryz.f220 := ⟨Tryz.func220, fun c hc => ⟨fun args w => Tryz.call220 args w, fun _ => code_of ok220 hc⟩⟩
theorem F221 : FnP 221 Tryz.f221 := ⟨Tryz.func221, fun c hc => ⟨fun args w => Tryz.call221 args w, fun _ => code_of ok221 hc⟩⟩
theorem F222 : FnP 222 Tryz.f222 := ⟨Tryz.func222, fun c hc => ⟨fun args w => Tryz.call222 args w, fun _ => code_of ok222 hc⟩⟩
theorem F223 : FnP 223 Tryz.f223 := ⟨Tryz.func223, fun c hc => ⟨fun args w => Tryz.call223 args w, fun _ => code_of ok223 hc⟩⟩
theorem F227 : FnP 227 Tryz.f227 := ⟨Tryz.func227, fun c hc => ⟨fun args w => Tryz.call227 args w, fun _ => code_of ok227 hc⟩⟩
theorem F228 : FnP 228 Tryz.f228 := ⟨Tryz.func228, fun c hc => ⟨fun args w => Tryz.call228 args w, fun _ => code_of ok228 hc⟩⟩
theorem F229 : FnP 229 Tryz.f229 := ⟨Tryz.func229, fun c hc => ⟨fun args w => Tryz.call229 args w, fun _ => code_of ok229 hc⟩⟩
theorem F230 : FnP 230 Tryz.f230 := ⟨Tryz.func230, fun c hc => ⟨fun args w => Tryz.call230 args w, fun _ => code_of ok230 hc⟩⟩
theorem F231 : FnP 231 Tryz.f231 := ⟨Tryz.func231, fun c hc => ⟨fun args w => Tryz.call231 args w, fun _ => code_of ok231 hc⟩⟩
theorem F232 : FnP 232 Tryz.f232 := ⟨Tryz.func232, fun c hc => ⟨fun args w => Tryz.call232 args w, fun _ => code_of ok232 hc⟩⟩
theorem F233 : FnP 233 Tryz.f233 := ⟨Tryz.func233, fun c hc => ⟨fun args w => Tryz.call233 args w, fun _ => code_of ok233 hc⟩⟩
theorem F234 : FnP 234 Tryz.f234 := ⟨Tryz.func234, fun c hc => ⟨fun args w => Tryz.call234 args w, fun _ => code_of ok234 hc⟩⟩
theorem F235 : FnP 235 Tryz.f235 := ⟨Tryz.func235, fun c hc => ⟨fun args w => Tryz.call235 args w, fun _ => code_of ok235 hc⟩⟩
theorem F241 : FnP 241 Tryz.f241 := ⟨Tryz.func241, fun c hc => ⟨fun args w => Tryz.call241 args w, fun _ => code_of ok241 hc⟩⟩
theorem F243 : FnP 243 Tryz.f243 := ⟨Tryz.func243, fun c hc => ⟨fun args w => Tryz.call243 args w, fun _ => code_of ok243 hc⟩⟩
theorem F244 : FnP 244 Tryz.f244 := ⟨Tryz.func244, fun c hc => ⟨fun args w => Tryz.call244 args w, fun _ => code_of ok244 hc⟩⟩
theorem F247 : FnP 247 Tryz.f247 := ⟨Tryz.func247, fun c hc => ⟨fun args w => Tryz.call247 args w, fun _ => code_of ok247 hc⟩⟩
theorem F248 : FnP 248 Tryz.f248 := ⟨Tryz.func248, fun c hc => ⟨fun args w => Tryz.call248 args w, fun _ => code_of ok248 hc⟩⟩
theorem F249 : FnP 249 Tryz.f249 := ⟨Tryz.func249, fun c hc => ⟨fun args w => Tryz.call249 args w, fun _ => code_of ok249 hc⟩⟩
theorem F250 : FnP 250 Tryz.f250 := ⟨Tryz.func250, fun c hc => ⟨fun args w => Tryz.call250 args w, fun _ => code_of ok250 hc⟩⟩
theorem F251 : FnP 251 Tryz.f251 := ⟨Tryz.func251, fun c hc => ⟨fun args w => Tryz.call251 args w, fun _ => code_of ok251 hc⟩⟩
theorem F253 : FnP 253 Tryz.f253 := ⟨Tryz.func253, fun c hc => ⟨fun args w => Tryz.call253 args w, fun _ => code_of ok253 hc⟩⟩
theorem F254 : FnP 254 Tryz.f254 := ⟨Tryz.func254, fun c hc => ⟨fun args w => Tryz.call254 args w, fun _ => code_of ok254 hc⟩⟩
theorem F255 : FnP 255 Tryz.f255 := ⟨Tryz.func255, fun c hc => ⟨fun args w => Tryz.call255 args w, fun _ => code_of ok255 hc⟩⟩
theorem F257 : FnP 257 Tryz.f257 := ⟨Tryz.func257, fun c hc => ⟨fun args w => Tryz.call257 args w, fun _ => code_of ok257 hc⟩⟩
theorem F258 : FnP 258 Tryz.f258 := ⟨Tryz.func258, fun c hc => (by cases hc)⟩
theorem F266 : FnP 266 Tryz.f266 := ⟨Tryz.func266, fun c hc => ⟨fun args w => Tryz.call266 args w, fun _ => code_of ok266 hc⟩⟩
theorem F267 : FnP 267 Tryz.f267 := ⟨Tryz.func267, fun c hc => ⟨fun args w => Tryz.call267 args w, fun _ => code_of ok267 hc⟩⟩
theorem F268 : FnP 268 Tryz.f268 := ⟨Tryz.func268, fun c hc => ⟨fun args w => Tryz.call268 args w, fun _ => code_of ok268 hc⟩⟩
theorem F271 : FnP 271 Tryz.f271 := ⟨Tryz.func271, fun c hc => (by cases hc)⟩
theorem F305 : FnP 305 Tryz.f305 := ⟨Tryz.func305, fun c hc => (by cases hc)⟩
theorem Y0 : TyP 0 Tryz.t0 := ⟨info_of (by decide) Tryz.type0, zero_of (by kernel_rfl)⟩
theorem Y1 : TyP 1 Tryz.t1 := ⟨info_of (by decide) Tryz.type1, zero_of (by kernel_rfl)⟩
theorem Y2 : TyP 2 Tryz.t2 := ⟨info_of (by decide) Tryz.type2, zero_of (by kernel_rfl)⟩
theorem Y3 : TyP 3 Tryz.t3 := ⟨info_of (by decide) Tryz.type3, zero_of (by kernel_rfl)⟩
theorem Y4 : TyP 4 Tryz.t4 := ⟨info_of (by decide) Tryz.type4, zero_of (by kernel_rfl)⟩
theorem Y5 : TyP 5 Tryz.t5 := ⟨info_of (by decide) Tryz.type5, zero_of (by kernel_rfl)⟩
theorem Y6 : TyP 6 Tryz.t6 := ⟨info_of (by decide) Tryz.type6, zero_of (by kernel_rfl)⟩
theorem Y7 : TyP 7 Tryz.t7 := ⟨info_of (by decide) Tryz.type7, zero_of (by kernel_rfl)⟩
theorem Y8 : TyP 8 Tryz.t8 := ⟨info_of (by decide) Tryz.type8, zero_of (by kernel_rfl)⟩
theorem Y9 : TyP 9 Tryz.t9 := ⟨info_of (by decide) Tryz.type9, zero_of (by kernel_rfl)⟩
theorem Y10 : TyP 10 Tryz.t10 := ⟨info_of (by decide) Tryz.type10, zero_of (by kernel_rfl)⟩
theorem Y11 : TyP 11 Tryz.t11 := ⟨info_of (by decide) Tryz.type11, zero_of (by kernel_rfl)⟩
theorem Y12 : TyP 12 Tryz.t12 := ⟨info_of (by decide) Tryz.type12, zero_of (by kernel_rfl)⟩
theorem Y13 : TyP 13 Tryz.t13 := ⟨info_of (by decide) Tryz.type13, zero_of (by kernel_rfl)⟩
theorem Y14 : TyP 14 Tryz.t14 := ⟨info_of (by decide) Tryz.type14, zero_of (by kernel_rfl)⟩
theorem Y15 : TyP 15 Tryz.t15 := ⟨info_of (by decide) Tryz.type15, zero_of (by kernel_rfl)⟩
theorem Y16 : TyP 16 Tryz.t16 := ⟨info_of (by decide) Tryz.type16, zero_of (by kernel_rfl)⟩
theorem Y17 : TyP 17 Tryz.t17 := ⟨info_of (by decide) Tryz.type17, zero_of (by kernel_rfl)⟩
theorem Y18 : TyP 18 Tryz.t18 := ⟨info_of (by decide) Tryz.type18, zero_of (by kernel_rfl)⟩
theorem Y19 : TyP 19 Tryz.t19 := ⟨info_of (by decide) Tryz.type19, zero_of (by kernel_rfl)⟩
theorem Y20 : TyP 20 Tryz.t20 := ⟨info_of (by decide) Tryz.type20, zero_of (by kernel_rfl)⟩
theorem Y21 : TyP 21 Tryz.t21 := ⟨info_of (by decide) Tryz.type21, zero_of (by kernel_rfl)⟩
theorem Y22 : TyP 22 Tryz.t22 := ⟨info_of (by decide) Tryz.type22, zero_of (by kernel_rfl)⟩
theorem Y23 : TyP 23 Tryz.t23 := ⟨info_of (by decide) Tryz.type23, zero_of (by kernel_rfl)⟩
theorem Y24 : TyP 24 Tryz.t24 := ⟨info_of (by decide) Tryz.type24, zero_of (by kernel_rfl)⟩
theorem Y25 : TyP 25 Tryz.t25 := ⟨info_of (by decide) Tryz.type25, zero_of (by kernel_rfl)⟩
theorem Y26 : TyP 26 Tryz.t26 := ⟨info_of (by decide) Tryz.type26, zero_of (by kernel_rfl)⟩
theorem Y27 : TyP 27 Tryz.t27 := ⟨info_of (by decide) Tryz.type27, zero_of (by kernel_rfl)⟩
theorem Y28 : TyP 28 Tryz.t28 := ⟨info_of (by decide) Tryz.type28, zero_of (by kernel_rfl)⟩
theorem Y29 : TyP 29 Tryz.t29 := ⟨info_of (by decide) Tryz.type29, zero_of (by kernel_rfl)⟩
theorem Y30 : TyP 30 Tryz.t30 := ⟨info_of (by decide) Tryz.type30, zero_of (by kernel_rfl)⟩
theorem Y31 : TyP 31 Tryz.t31 := ⟨info_of (by decide) Tryz.type31, zero_of (by kernel_rfl)⟩
theorem Y32 : TyP 32 Tryz.t32 := ⟨info_of (by decide) Tryz.type32, zero_of (by kernel_rfl)⟩
theorem Y33 : TyP 33 Tryz.t33 := ⟨info_of (by decide) Tryz.type33, zero_of (by kernel_rfl)⟩
theorem Y34 : TyP 34 Tryz.t34 := ⟨info_of (by decide) Tryz.type34, zero_of (by kernel_rfl)⟩
theorem Y35 : TyP 35 Tryz.t35 := ⟨info_of (by decide) Tryz.type35, zero_of (by kernel_rfl)⟩
theorem Y36 : TyP 36 Tryz.t36 := ⟨info_of (by decide) Tryz.type36, zero_of (by kernel_rfl)⟩
theorem Y37 : TyP 37 Tryz.t37 := ⟨info_of (by decide) Tryz.type37, zero_of (by kernel_rfl)⟩
theorem Y38 : TyP 38 Tryz.t38 := ⟨info_of (by decide) Tryz.type38, zero_of (by kernel_rfl)⟩
theorem Y39 : TyP 39 Tryz.t39 := ⟨info_of (by decide) Tryz.type39, zero_of (by kernel_rfl)⟩
theorem Y40 : TyP 40 Tryz.t40 := ⟨info_of (by decide) Tryz.type40, zero_of (by kernel_rfl)⟩
theorem Y41 : TyP 41 Tryz.t41 := ⟨info_of (by decide) Tryz.type41, zero_of (by kernel_rfl)⟩
theorem Y42 : TyP 42 Tryz.t42 := ⟨info_of (by decide) Tryz.type42, zero_of (by kernel_rfl)⟩
theorem Y43 : TyP 43 Tryz.t43 := ⟨info_of (by decide) Tryz.type43, zero_of (by kernel_rfl)⟩
theorem Y44 : TyP 44 Tryz.t44 := ⟨info_of (by decide) Tryz.type44, zero_of (by kernel_rfl)⟩
theorem Y45 : TyP 45 Tryz.t45 := ⟨info_of (by decide) Tryz.type45, zero_of (by kernel_rfl)⟩
theorem Y46 : TyP 46 Tryz.t46 := ⟨info_of (by decide) Tryz.type46, zero_of (by kernel_rfl)⟩
theorem Y47 : TyP 47 Tryz.t47 := ⟨info_of (by decide) Tryz.type47, zero_of (by kernel_rfl)⟩
theorem Y48 : TyP 48 Tryz.t48 := ⟨info_of (by decide) Tryz.type48, zero_of (by kernel_rfl)⟩
theorem Y49 : TyP 49 Tryz.t49 := ⟨info_of (by decide) Tryz.type49, zero_of (by kernel_rfl)⟩
theorem Y50 : TyP 50 Tryz.t50 := ⟨info_of (by decide) Tryz.type50, zero_of (by kernel_rfl)⟩
theorem Y51 : TyP 51 Tryz.t51 := ⟨info_of (by decide) Tryz.type51, zero_of (by kernel_rfl)⟩
theorem Y52 : TyP 52 Tryz.t52 := ⟨info_of (by decide) Tryz.type52, zero_of (by kernel_rfl)⟩
theorem Y53 : TyP 53 Tryz.t53 := ⟨info_of (by decide) Tryz.type53, zero_of (by kernel_rfl)⟩
theorem Y54 : TyP 54 Tryz.t54 := ⟨info_of (by decide) Tryz.type54, zero_of (by kernel_rfl)⟩
theorem Y55 : TyP 55 Tryz.t55 := ⟨info_of (by decide) Tryz.type55, zero_of (by kernel_rfl)⟩
theorem Y56 : TyP 56 Tryz.t56 := ⟨info_of (by decide) Tryz.type56, zero_of (by kernel_rfl)⟩
theorem Y57 : TyP 57 Tryz.t57 := ⟨info_of (by decide) Tryz.type57, zero_of (by kernel_rfl)⟩
theorem Y58 : TyP 58 Tryz.t58 := ⟨info_of (by decide) Tryz.type58, zero_of (by kernel_rfl)⟩
theorem Y59 : TyP 59 Tryz.t59 := ⟨info_of (by decide) Tryz.type59, zero_of (by kernel_rfl)⟩
theorem Y60 : TyP 60 Tryz.t60 := ⟨info_of (by decide) Tryz.type60, zero_of (by kernel_rfl)⟩
theorem Y61 : TyP 61 Tryz.t61 := ⟨info_of (by decide) Tryz.type61, zero_of (by kernel_rfl)⟩
theorem Y62 : TyP 62 Tryz.t62 := ⟨info_of (by decide) Tryz.type62, zero_of (by kernel_rfl)⟩
theorem Y63 : TyP 63 Tryz.t63 := ⟨info_of (by decide) Tryz.type63, zero_of (by kernel_rfl)⟩
theorem Y64 : TyP 64 Tryz.t64 := ⟨info_of (by decide) Tryz.type64, zero_of (by kernel_rfl)⟩
theorem Y65 : TyP 65 Tryz.t65 := ⟨info_of (by decide) Tryz.type65, zero_of (by kernel_rfl)⟩
theorem Y66 : TyP 66 Tryz.t66 := ⟨info_of (by decide) Tryz.type66, zero_of (by kernel_rfl)⟩
theorem Y67 : TyP 67 Tryz.t67 := ⟨info_of (by decide) Tryz.type67, zero_of (by kernel_rfl)⟩
theorem Y68 : TyP 68 Tryz.t68 := ⟨info_of (by decide) Tryz.type68, zero_of (by kernel_rfl)⟩
theorem Y69 : TyP 69 Tryz.t69 := ⟨info_of (by decide) Tryz.type69, zero_of (by kernel_rfl)⟩
theorem Y70 : TyP 70 Tryz.t70 := ⟨info_of (by decide) Tryz.type70, zero_of (by kernel_rfl)⟩
theorem Y71 : TyP 71 Tryz.t71 := ⟨info_of (by decide) Tryz.type71, zero_of (by kernel_rfl)⟩
theorem Y72 : TyP 72 Tryz.t72 := ⟨info_of (by decide) Tryz.type72, zero_of (by kernel_rfl)⟩
theorem Y73 : TyP 73 Tryz.t73 := ⟨info_of (by decide) Tryz.type73, zero_of (by kernel_rfl)⟩
theorem Y74 : TyP 74 Tryz.t74 := ⟨info_of (by decide) Tryz.type74, zero_of (by kernel_rfl)⟩
theorem Y75 : TyP 75 Tryz.t75 := ⟨info_of (by decide) Tryz.type75, zero_of (by kernel_rfl)⟩
theorem Y76 : TyP 76 Tryz.t76 := ⟨info_of (by decide) Tryz.type76, zero_of (by kernel_rfl)⟩
theorem Y77 : TyP 77 Tryz.t77 := ⟨info_of (by decide) Tryz.type77, zero_of (by kernel_rfl)⟩
theorem Y78 : TyP 78 Tryz.t78 := ⟨info_of (by decide) Tryz.type78, zero_of (by kernel_rfl)⟩
theorem Y79 : TyP 79 Tryz.t79 := ⟨info_of (by decide) Tryz.type79, zero_of (by kernel_rfl)⟩
theorem Y80 : TyP 80 Tryz.t80 := ⟨info_of (by decide) Tryz.type80, zero_of (by kernel_rfl)⟩
theorem Y81 : TyP 81 Tryz.t81 := ⟨info_of (by decide) Tryz.type81, zero_of (by kernel_rfl)⟩
theorem Y82 : TyP 82 Tryz.t82 := ⟨info_of (by decide) Tryz.type82, zero_of (by kernel_rfl)⟩
theorem Y83 : TyP 83 Tryz.t83 := ⟨info_of (by decide) Tryz.type83, zero_of (by kernel_rfl)⟩
theorem Y84 : TyP 84 Tryz.t84 := ⟨info_of (by decide) Tryz.type84, zero_of (by kernel_rfl)⟩
theorem Y85 : TyP 85 Tryz.t85 := ⟨info_of (by decide) Tryz.type85, zero_of (by kernel_rfl)⟩
theorem Y86 : TyP 86 Tryz.t86 := ⟨info_of (by decide) Tryz.type86, zero_of (by kernel_rfl)⟩
theorem Y87 : TyP 87 Tryz.t87 := ⟨info_of (by decide) Tryz.type87, zero_of (by kernel_rfl)⟩
theorem Y88 : TyP 88 Tryz.t88 := ⟨info_of (by decide) Tryz.type88, zero_of (by kernel_rfl)⟩
theorem Y89 : TyP 89 Tryz.t89 := ⟨info_of (by decide) Tryz.type89, zero_of (by kernel_rfl)⟩
theorem Y90 : TyP 90 Tryz.t90 := ⟨info_of (by decide) Tryz.type90, zero_of (by kernel_rfl)⟩
theorem Y91 : TyP 91 Tryz.t91 := ⟨info_of (by decide) Tryz.type91, zero_of (by kernel_rfl)⟩
theorem Y92 : TyP 92 Tryz.t92 := ⟨info_of (by decide) Tryz.type92, zero_of (by kernel_rfl)⟩
theorem Y93 : TyP 93 Tryz.t93 := ⟨info_of (by decide) Tryz.type93, zero_of (by kernel_rfl)⟩
theorem Y94 : TyP 94 Tryz.t94 := ⟨info_of (by decide) Tryz.type94, zero_of (by kernel_rfl)⟩
theorem Y95 : TyP 95 Tryz.t95 := ⟨info_of (by decide) Tryz.type95, zero_of (by kernel_rfl)⟩
theorem Y96 : TyP 96 Tryz.t96 := ⟨info_of (by decide) Tryz.type96, zero_of (by kernel_rfl)⟩
theorem Y97 : TyP 97 Tryz.t97 := ⟨info_of (by decide) Tryz.type97, zero_of (by kernel_rfl)⟩
theorem Y98 : TyP 98 Tryz.t98 := ⟨info_of (by decide) Tryz.type98, zero_of (by kernel_rfl)⟩
theorem Y99 : TyP 99 Tryz.t99 := ⟨info_of (by decide) Tryz.type99, zero_of (by kernel_rfl)⟩
theorem Y100 : TyP 100 Tryz.t100 := ⟨info_of (by decide) Tryz.type100, zero_of (by kernel_rfl)⟩
theorem Y101 : TyP 101 Tryz.t101 := ⟨info_of (by decide) Tryz.type101, zero_of (by kernel_rfl)⟩
theorem Y102 : TyP 102 Tryz.t102 := ⟨info_of (by decide) Tryz.type102, zero_of (by kernel_rfl)⟩
theorem Y103 : TyP 103 Tryz.t103 := ⟨info_of (by decide) Tryz.type103, zero_of (by kernel_rfl)⟩
theorem Y104 : TyP 104 Tryz.t104 := ⟨info_of (by decide) Tryz.type104, zero_of (by kernel_rfl)⟩
theorem Y105 : TyP 105 Tryz.t105 := ⟨info_of (by decide) Tryz.type105, zero_of (by kernel_rfl)⟩
theorem Y106 : TyP 106 Tryz.t106 := ⟨info_of (by decide) Tryz.type106, zero_of (by kernel_rfl)⟩
theorem Y107 : TyP 107 Tryz.t107 := ⟨info_of (by decide) Tryz.type107, zero_of (by kernel_rfl)⟩
theorem Y108 : TyP 108 Tryz.t108 := ⟨info_of (by decide) Tryz.type108, zero_of (by kernel_rfl)⟩
theorem Y109 : TyP 109 Tryz.t109 := ⟨info_of (by decide) Tryz.type109, zero_of (by kernel_rfl)⟩
theorem Y110 : TyP 110 Tryz.t110 := ⟨info_of (by decide) Tryz.type110, zero_of (by kernel_rfl)⟩
theorem Y111 : TyP 111 Tryz.t111 := ⟨info_of (by decide) Tryz.type111, zero_of (by kernel_rfl)⟩
theorem Y112 : TyP 112 Tryz.t112 := ⟨info_of (by decide) Tryz.type112, zero_of (by kernel_rfl)⟩
theorem Y113 : TyP 113 Tryz.t113 := ⟨info_of (by decide) Tryz.type113, zero_of (by kernel_rfl)⟩
theorem Y114 : TyP 114 Tryz.t114 := ⟨info_of (by decide) Tryz.type114, zero_of (by kernel_rfl)⟩
theorem Y115 : TyP 115 Tryz.t115 := ⟨info_of (by decide) Tryz.type115, zero_of (by kernel_rfl)⟩
theorem Y116 : TyP 116 Tryz.t116 := ⟨info_of (by decide) Tryz.type116, zero_of (by kernel_rfl)⟩
theorem Y117 : TyP 117 Tryz.t117 := ⟨info_of (by decide) Tryz.type117, zero_of (by kernel_rfl)⟩
theorem Y118 : TyP 118 Tryz.t118 := ⟨info_of (by decide) Tryz.type118, zero_of (by kernel_rfl)⟩
theorem Y119 : TyP 119 Tryz.t119 := ⟨info_of (by decide) Tryz.type119, zero_of (by kernel_rfl)⟩
theorem Y120 : TyP 120 Tryz.t120 := ⟨info_of (by decide) Tryz.type120, zero_of (by kernel_rfl)⟩
theorem Y121 : TyP 121 Tryz.t121 := ⟨info_of (by decide) Tryz.type121, zero_of (by kernel_rfl)⟩
theorem Y122 : TyP 122 Tryz.t122 := ⟨info_of (by decide) Tryz.type122, zero_of (by kernel_rfl)⟩
theorem Y123 : TyP 123 Tryz.t123 := ⟨info_of (by decide) Tryz.type123, zero_of (by kernel_rfl)⟩
theorem Y124 : TyP 124 Tryz.t124 := ⟨info_of (by decide) Tryz.type124, zero_of (by kernel_rfl)⟩
theorem Y125 : TyP 125 Tryz.t125 := ⟨info_of (by decide) Tryz.type125, zero_of (by kernel_rfl)⟩
theorem Y126 : TyP 126 Tryz.t126 := ⟨info_of (by decide) Tryz.type126, zero_of (by kernel_rfl)⟩
theorem Y127 : TyP 127 Tryz.t127 := ⟨info_of (by decide) Tryz.type127, zero_of (by kernel_rfl)⟩
theorem Y128 : TyP 128 Tryz.t128 := ⟨info_of (by decide) Tryz.type128, zero_of (by kernel_rfl)⟩
theorem Y129 : TyP 129 Tryz.t129 := ⟨info_of (by decide) Tryz.type129, zero_of (by kernel_rfl)⟩
theorem Y130 : TyP 130 Tryz.t130 := ⟨info_of (by decide) Tryz.type130, zero_of (by kernel_rfl)⟩
theorem Y131 : TyP 131 Tryz.t131 := ⟨info_of (by decide) Tryz.type131, zero_of (by kernel_rfl)⟩
theorem Y132 : TyP 132 Tryz.t132 := ⟨info_of (by decide) Tryz.type132, zero_of (by kernel_rfl)⟩
theorem Y133 : TyP 133 Tryz.t133 := ⟨info_of (by decide) Tryz.type133, zero_of (by kernel_rfl)⟩
theorem Y134 : TyP 134 Tryz.t134 := ⟨info_of (by decide) Tryz.type134, zero_of (by kernel_rfl)⟩
theorem Y135 : TyP 135 Tryz.t135 := ⟨info_of (by decide) Tryz.type135, zero_of (by kernel_rfl)⟩
theorem Y136 : TyP 136 Tryz.t136 := ⟨info_of (by decide) Tryz.type136, zero_of (by kernel_rfl)⟩
theorem Y137 : TyP 137 Tryz.t137 := ⟨info_of (by decide) Tryz.type137, zero_of (by kernel_rfl)⟩
theorem Y138 : TyP 138 Tryz.t138 := ⟨info_of (by decide) Tryz.type138, zero_of (by kernel_rfl)⟩
theorem Y139 : TyP 139 Tryz.t139 := ⟨info_of (by decide) Tryz.type139, zero_of (by kernel_rfl)⟩
theorem Y140 : TyP 140 Tryz.t140 := ⟨info_of (by decide) Tryz.type140, zero_of (by kernel_rfl)⟩
theorem Y141 : TyP 141 Tryz.t141 := ⟨info_of (by decide) Tryz.type141, zero_of (by kernel_rfl)⟩
theorem Y142 : TyP 142 Tryz.t142 := ⟨info_of (by decide) Tryz.type142, zero_of (by kernel_rfl)⟩
theorem Y143 : TyP 143 Tryz.t143 := ⟨info_of (by decide) Tryz.type143, zero_of (by kernel_rfl)⟩
theorem Y144 : TyP 144 Tryz.t144 := ⟨info_of (by decide) Tryz.type144, zero_of (by kernel_rfl)⟩
theorem Y145 : TyP 145 Tryz.t145 := ⟨info_of (by decide) Tryz.type145, zero_of (by kernel_rfl)⟩
theorem Y146 : TyP 146 Tryz.t146 := ⟨info_of (by decide) Tryz.type146, zero_of (by kernel_rfl)⟩
theorem Y147 : TyP 147 Tryz.t147 := ⟨info_of (by decide) Tryz.type147, zero_of (by kernel_rfl)⟩
theorem Y148 : TyP 148 Tryz.t148 := ⟨info_of (by decide) Tryz.type148, zero_of (by kernel_rfl)⟩
theorem Y149 : TyP 149 Tryz.t149 := ⟨info_of (by decide) Tryz.type149, zero_of (by kernel_rfl)⟩
theorem Y150 : TyP 150 Tryz.t150 := ⟨info_of (by decide) Tryz.type150, zero_of (by kernel_rfl)⟩
theorem Y151 : TyP 151 Tryz.t151 := ⟨info_of (by decide) Tryz.type151, zero_of (by kernel_rfl)⟩
theorem Y152 : TyP 152 Tryz.t152 := ⟨info_of (by decide) Tryz.type152, zero_of (by kernel_rfl)⟩
theorem Y153 : TyP 153 Tryz.t153 := ⟨info_of (by decide) Tryz.type153, zero_of (by kernel_rfl)⟩
theorem Y154 : TyP 154 Tryz.t154 := ⟨info_of (by decide) Tryz.type154, zero_of (by kernel_rfl)⟩
theorem Y155 : TyP 155 Tryz.t155 := ⟨info_of (by decide) Tryz.type155, zero_of (by kernel_rfl)⟩
theorem Y156 : TyP 156 Tryz.t156 := ⟨info_of (by decide) Tryz.type156, zero_of (by kernel_rfl)⟩
theorem Y157 : TyP 157 Tryz.t157 := ⟨info_of (by decide) Tryz.type157, zero_of (by kernel_rfl)⟩
theorem Y158 : TyP 158 Tryz.t158 := ⟨info_of (by decide) Tryz.type158, zero_of (by kernel_rfl)⟩
theorem Y159 : TyP 159 Tryz.t159 := ⟨info_of (by decide) Tryz.type159, zero_of (by kernel_rfl)⟩
theorem Y160 : TyP 160 Tryz.t160 := ⟨info_of (by decide) Tryz.type160, zero_of (by kernel_rfl)⟩
theorem Y161 : TyP 161 Tryz.t161 := ⟨info_of (by decide) Tryz.type161, zero_of (by kernel_rfl)⟩
theorem Y162 : TyP 162 Tryz.t162 := ⟨info_of (by decide) Tryz.type162, zero_of (by kernel_rfl)⟩
theorem Y163 : TyP 163 Tryz.t163 := ⟨info_of (by decide) Tryz.type163, zero_of (by kernel_rfl)⟩
theorem Y164 : TyP 164 Tryz.t164 := ⟨info_of (by decide) Tryz.type164, zero_of (by kernel_rfl)⟩
theorem Y165 : TyP 165 Tryz.t165 := ⟨info_of (by decide) Tryz.type165, zero_of (by kernel_rfl)⟩
theorem Y166 : TyP 166 Tryz.t166 := ⟨info_of (by decide) Tryz.type166, zero_of (by kernel_rfl)⟩
theorem Y167 : TyP 167 Tryz.t167 := ⟨info_of (by decide) Tryz.type167, zero_of (by kernel_rfl)⟩
theorem Y168 : TyP 168 Tryz.t168 := ⟨info_of (by decide) Tryz.type168, zero_of (by kernel_rfl)⟩
theorem Y169 : TyP 169 Tryz.t169 := ⟨info_of (by decide) Tryz.type169, zero_of (by kernel_rfl)⟩
theorem Y170 : TyP 170 Tryz.t170 := ⟨info_of (by decide) Tryz.type170, zero_of (by kernel_rfl)⟩
theorem Y171 : TyP 171 Tryz.t171 := ⟨info_of (by decide) Tryz.type171, zero_of (by kernel_rfl)⟩
theorem Y172 : TyP 172 Tryz.t172 := ⟨info_of (by decide) Tryz.type172, zero_of (by kernel_rfl)⟩
theorem Y173 : TyP 173 Tryz.t173 := ⟨info_of (by decide) Tryz.type173, zero_of (by kernel_rfl)⟩
theorem Y174 : TyP 174 Tryz.t174 := ⟨info_of (by decide) Tryz.type174, zero_of (by kernel_rfl)⟩
theorem Y175 : TyP 175 Tryz.t175 := ⟨info_of (by decide) Tryz.type175, zero_of (by kernel_rfl)⟩
theorem Y176 : TyP 176 Tryz.t176 := ⟨info_of (by decide) Tryz.type176, zero_of (by kernel_rfl)⟩
theorem Y177 : TyP 177 Tryz.t177 := ⟨info_of (by decide) Tryz.type177, zero_of (by kernel_rfl)⟩
theorem Y178 : TyP 178 Tryz.t178 := ⟨info_of (by decide) Tryz.type178, zero_of (by kernel_rfl)⟩
theorem Y179 : TyP 179 Tryz.t179 := ⟨info_of (by decide) Tryz.type179, zero_of (by kernel_rfl)⟩
theorem Y180 : TyP 180 Tryz.t180 := ⟨info_of (by decide) Tryz.type180, zero_of (by kernel_rfl)⟩
theorem Y181 : TyP 181 Tryz.t181 := ⟨info_of (by decide) Tryz.type181, zero_of (by kernel_rfl)⟩
theorem Y182 : TyP 182 Tryz.t182 := ⟨info_of (by decide) Tryz.type182, zero_of (by kernel_rfl)⟩
theorem Y183 : TyP 183 Tryz.t183 := ⟨info_of (by decide) Tryz.type183, zero_of (by kernel_rfl)⟩
theorem Y184 : TyP 184 Tryz.t184 := ⟨info_of (by decide) Tryz.type184, zero_of (by kernel_rfl)⟩
theorem Y185 : TyP 185 Tryz.t185 := ⟨info_of (by decide) Tryz.type185, zero_of (by kernel_rfl)⟩
theorem Y186 : TyP 186 Tryz.t186 := ⟨info_of (by decide) Tryz.type186, zero_of (by kernel_rfl)⟩
theorem Y187 : TyP 187 Tryz.t187 := ⟨info_of (by decide) Tryz.type187, zero_of (by kernel_rfl)⟩
theorem Y188 : TyP 188 Tryz.t188 := ⟨info_of (by decide) Tryz.type188, zero_of (by kernel_rfl)⟩
theorem Y189 : TyP 189 Tryz.t189 := ⟨info_of (by decide) Tryz.type189, zero_of (by kernel_rfl)⟩
theorem Y190 : TyP 190 Tryz.t190 := ⟨info_of (by decide) Tryz.type190, zero_of (by kernel_rfl)⟩
theorem Y191 : TyP 191 Tryz.t191 := ⟨info_of (by decide) Tryz.type191, zero_of (by kernel_rfl)⟩
theorem Y192 : TyP 192 Tryz.t192 := ⟨info_of (by decide) Tryz.type192, zero_of (by kernel_rfl)⟩
theorem Y193 : TyP 193 Tryz.t193 := ⟨info_of (by decide) Tryz.type193, zero_of (by kernel_rfl)⟩
theorem Y194 : TyP 194 Tryz.t194 := ⟨info_of (by decide) Tryz.type194, zero_of (by kernel_rfl)⟩
theorem Y195 : TyP 195 Tryz.t195 := ⟨info_of (by decide) Tryz.type195, zero_of (by kernel_rfl)⟩
theorem Y196 : TyP 196 Tryz.t196 := ⟨info_of (by decide) Tryz.type196, zero_of (by kernel_rfl)⟩
theorem Y197 : TyP 197 Tryz.t197 := ⟨info_of (by decide) Tryz.type197, zero_of (by kernel_rfl)⟩
theorem Y198 : TyP 198 Tryz.t198 := ⟨info_of (by decide) Tryz.type198, zero_of (by kernel_rfl)⟩
theorem Y199 : TyP 199 Tryz.t199 := ⟨info_of (by decide) Tryz.type199, zero_of (by kernel_rfl)⟩
theorem Y200 : TyP 200 Tryz.t200 := ⟨info_of (by decide) Tryz.type200, zero_of (by kernel_rfl)⟩
theorem Y201 : TyP 201 Tryz.t201 := ⟨info_of (by decide) Tryz.type201, zero_of (by kernel_rfl)⟩
theorem Y202 : TyP 202 Tryz.t202 := ⟨info_of (by decide) Tryz.type202, zero_of (by kernel_rfl)⟩
theorem Y203 : TyP 203 Tryz.t203 := ⟨info_of (by decide) Tryz.type203, zero_of (by kernel_rfl)⟩
theorem Y204 : TyP 204 Tryz.t204 := ⟨info_of (by decide) Tryz.type204, zero_of (by kernel_rfl)⟩
theorem Y205 : TyP 205 Tryz.t205 := ⟨info_of (by decide) Tryz.type205, zero_of (by kernel_rfl)⟩
theorem Y206 : TyP 206 Tryz.t206 := ⟨info_of (by decide) Tryz.type206, zero_of (by kernel_rfl)⟩
theorem Y207 : TyP 207 Tryz.t207 := ⟨info_of (by decide) Tryz.type207, zero_of (by kernel_rfl)⟩
theorem Y208 : TyP 208 Tryz.t208 := ⟨info_of (by decide) Tryz.type208, zero_of (by kernel_rfl)⟩
theorem Y209 : TyP 209 Tryz.t209 := ⟨info_of (by decide) Tryz.type209, zero_of (by kernel_rfl)⟩
theorem Y210 : TyP 210 Tryz.t210 := ⟨info_of (by decide) Tryz.type210, zero_of (by kernel_rfl)⟩
theorem Y211 : TyP 211 Tryz.t211 := ⟨info_of (by decide) Tryz.type211, zero_of (by kernel_rfl)⟩
theorem Y212 : TyP 212 Tryz.t212 := ⟨info_of (by decide) Tryz.type212, zero_of (by kernel_rfl)⟩
theorem Y213 : TyP 213 Tryz.t213 := ⟨info_of (by decide) Tryz.type213, zero_of (by kernel_rfl)⟩
theorem Y214 : TyP 214 Tryz.t214 := ⟨info_of (by decide) Tryz.type214, zero_of (by kernel_rfl)⟩
theorem Y215 : TyP 215 Tryz.t215 := ⟨info_of (by decide) Tryz.type215, zero_of (by kernel_rfl)⟩
theorem Y216 : TyP 216 Tryz.t216 := ⟨info_of (by decide) Tryz.type216, zero_of (by kernel_rfl)⟩
theorem Y217 : TyP 217 Tryz.t217 := ⟨info_of (by decide) Tryz.type217, zero_of (by kernel_rfl)⟩
theorem Y218 : TyP 218 Tryz.t218 := ⟨info_of (by decide) Tryz.type218, zero_of (by kernel_rfl)⟩
theorem Y219 : TyP 219 Tryz.t219 := ⟨info_of (by decide) Tryz.type219, zero_of (by kernel_rfl)⟩
theorem Y220 : TyP 220 Tryz.t220 := ⟨info_of (by decide) Tryz.type220, zero_of (by kernel_rfl)⟩
theorem Y221 : TyP 221 Tryz.t221 := ⟨info_of (by decide) Tryz.type221, zero_of (by kernel_rfl)⟩
theorem Y222 : TyP 222 Tryz.t222 := ⟨info_of (by decide) Tryz.type222, zero_of (by kernel_rfl)⟩
theorem Y223 : TyP 223 Tryz.t223 := ⟨info_of (by decide) Tryz.type223, zero_of (by kernel_rfl)⟩
theorem Y224 : TyP 224 Tryz.t224 := ⟨info_of (by decide) Tryz.type224, zero_of (by kernel_rfl)⟩
theorem Y225 : TyP 225 Tryz.t225 := ⟨info_of (by decide) Tryz.type225, zero_of (by kernel_rfl)⟩
theorem Y226 : TyP 226 Tryz.t226 := ⟨info_of (by decide) Tryz.type226, zero_of (by kernel_rfl)⟩
theorem Y227 : TyP 227 Tryz.t227 := ⟨info_of (by decide) Tryz.type227, zero_of (by kernel_rfl)⟩
theorem Y228 : TyP 228 Tryz.t228 := ⟨info_of (by decide) Tryz.type228, zero_of (by kernel_rfl)⟩
theorem Y229 : TyP 229 Tryz.t229 := ⟨info_of (by decide) Tryz.type229, zero_of (by kernel_rfl)⟩
theorem Y230 : TyP 230 Tryz.t230 := ⟨info_of (by decide) Tryz.type230, zero_of (by kernel_rfl)⟩
theorem Y231 : TyP 231 Tryz.t231 := ⟨info_of (by decide) Tryz.type231, zero_of (by kernel_rfl)⟩
theorem Y232 : TyP 232 Tryz.t232 := ⟨info_of (by decide) Tryz.type232, zero_of (by kernel_rfl)⟩
theorem Y233 : TyP 233 Tryz.t233 := ⟨info_of (by decide) Tryz.type233, zero_of (by kernel_rfl)⟩
theorem Y234 : TyP 234 Tryz.t234 := ⟨info_of (by decide) Tryz.type234, zero_of (by kernel_rfl)⟩
theorem Y235 : TyP 235 Tryz.t235 := ⟨info_of (by decide) Tryz.type235, zero_of (by kernel_rfl)⟩
theorem Y236 : TyP 236 Tryz.t236 := ⟨info_of (by decide) Tryz.type236, zero_of (by kernel_rfl)⟩
theorem Y237 : TyP 237 Tryz.t237 := ⟨info_of (by decide) Tryz.type237, zero_of (by kernel_rfl)⟩
theorem Y238 : TyP 238 Tryz.t238 := ⟨info_of (by decide) Tryz.type238, zero_of (by kernel_rfl)⟩
theorem Y239 : TyP 239 Tryz.t239 := ⟨info_of (by decide) Tryz.type239, zero_of (by kernel_rfl)⟩
theorem Y240 : TyP 240 Tryz.t240 := ⟨info_of (by decide) Tryz.type240, zero_of (by kernel_rfl)⟩
theorem Y241 : TyP 241 Tryz.t241 := ⟨info_of (by decide) Tryz.type241, zero_of (by kernel_rfl)⟩
theorem Y242 : TyP 242 Tryz.t242 := ⟨info_of (by decide) Tryz.type242, zero_of (by kernel_rfl)⟩
theorem Y243 : TyP 243 Tryz.t243 := ⟨info_of (by decide) Tryz.type243, zero_of (by kernel_rfl)⟩
theorem Y244 : TyP 244 Tryz.t244 := ⟨info_of (by decide) Tryz.type244, zero_of (by kernel_rfl)⟩
theorem Y245 : TyP 245 Tryz.t245 := ⟨info_of (by decide) Tryz.type245, zero_of (by kernel_rfl)⟩
theorem Y246 : TyP 246 Tryz.t246 := ⟨info_of (by decide) Tryz.type246, zero_of (by kernel_rfl)⟩
theorem Y247 : TyP 247 Tryz.t247 := ⟨info_of (by decide) Tryz.type247, zero_of (by kernel_rfl)⟩
theorem Y248 : TyP 248 Tryz.t248 := ⟨info_of (by decide) Tryz.type248, zero_of (by kernel_rfl)⟩
theorem Y249 : TyP 249 Tryz.t249 := ⟨info_of (by decide) Tryz.type249, zero_of (by kernel_rfl)⟩
theorem Y250 : TyP 250 Tryz.t250 := ⟨info_of (by decide) Tryz.type250, zero_of (by kernel_rfl)⟩
theorem Y251 : TyP 251 Tryz.t251 := ⟨info_of (by decide) Tryz.type251, zero_of (by kernel_rfl)⟩
theorem Y252 : TyP 252 Tryz.t252 := ⟨info_of (by decide) Tryz.type252, zero_of (by kernel_rfl)⟩
theorem Y253 : TyP 253 Tryz.t253 := ⟨info_of (by decide) Tryz.type253, zero_of (by kernel_rfl)⟩
theorem Y254 : TyP 254 Tryz.t254 := ⟨info_of (by decide) Tryz.type254, zero_of (by kernel_rfl)⟩
theorem Y255 : TyP 255 Tryz.t255 := ⟨info_of (by decide) Tryz.type255, zero_of (by kernel_rfl)⟩
theorem Y256 : TyP 256 Tryz.t256 := ⟨info_of (by decide) Tryz.type256, zero_of (by kernel_rfl)⟩
theorem Y257 : TyP 257 Tryz.t257 := ⟨info_of (by decide) Tryz.type257, zero_of (by kernel_rfl)⟩
theorem Y258 : TyP 258 Tryz.t258 := ⟨info_of (by decide) Tryz.type258, zero_of (by kernel_rfl)⟩
theorem Y259 : TyP 259 Tryz.t259 := ⟨info_of (by decide) Tryz.type259, zero_of (by kernel_rfl)⟩
theorem Y260 : TyP 260 Tryz.t260 := ⟨info_of (by decide) Tryz.type260, zero_of (by kernel_rfl)⟩
theorem Y261 : TyP 261 Tryz.t261 := ⟨info_of (by decide) Tryz.type261, zero_of (by kernel_rfl)⟩
theorem Y262 : TyP 262 Tryz.t262 := ⟨info_of (by decide) Tryz.type262, zero_of (by kernel_rfl)⟩
theorem Y263 : TyP 263 Tryz.t263 := ⟨info_of (by decide) Tryz.type263, zero_of (by kernel_rfl)⟩
theorem Y264 : TyP 264 Tryz.t264 := ⟨info_of (by decide) Tryz.type264, zero_of (by kernel_rfl)⟩
theorem Y265 : TyP 265 Tryz.t265 := ⟨info_of (by decide) Tryz.type265, zero_of (by kernel_rfl)⟩
theorem Y266 : TyP 266 Tryz.t266 := ⟨info_of (by decide) Tryz.type266, zero_of (by kernel_rfl)⟩
theorem Y267 : TyP 267 Tryz.t267 := ⟨info_of (by decide) Tryz.type267, zero_of (by kernel_rfl)⟩
theorem Y268 : TyP 268 Tryz.t268 := ⟨info_of (by decide) Tryz.type268, zero_of (by kernel_rfl)⟩
theorem Y269 : TyP 269 Tryz.t269 := ⟨info_of (by decide) Tryz.type269, zero_of (by kernel_rfl)⟩
theorem Y270 : TyP 270 Tryz.t270 := ⟨info_of (by decide) Tryz.type270, zero_of (by kernel_rfl)⟩
theorem Y271 : TyP 271 Tryz.t271 := ⟨info_of (by decide) Tryz.type271, zero_of (by kernel_rfl)⟩
theorem Y272 : TyP 272 Tryz.t272 := ⟨info_of (by decide) Tryz.type272, zero_of (by kernel_rfl)⟩
theorem Y273 : TyP 273 Tryz.t273 := ⟨info_of (by decide) Tryz.type273, zero_of (by kernel_rfl)⟩
theorem Y274 : TyP 274 Tryz.t274 := ⟨info_of (by decide) Tryz.type274, zero_of (by kernel_rfl)⟩
theorem Y275 : TyP 275 Tryz.t275 := ⟨info_of (by decide) Tryz.type275, zero_of (by kernel_rfl)⟩
theorem Y276 : TyP 276 Tryz.t276 := ⟨info_of (by decide) Tryz.type276, zero_of (by kernel_rfl)⟩
theorem Y277 : TyP 277 Tryz.t277 := ⟨info_of (by decide) Tryz.type277, zero_of (by kernel_rfl)⟩
theorem Y278 : TyP 278 Tryz.t278 := ⟨info_of (by decide) Tryz.type278, zero_of (by kernel_rfl)⟩
theorem Y279 : TyP 279 Tryz.t279 := ⟨info_of (by decide) Tryz.type279, zero_of (by kernel_rfl)⟩
theorem Y280 : TyP 280 Tryz.t280 := ⟨info_of (by decide) Tryz.type280, zero_of (by kernel_rfl)⟩
theorem Y281 : TyP 281 Tryz.t281 := ⟨info_of (by decide) Tryz.type281, zero_of (by kernel_rfl)⟩
theorem Y282 : TyP 282 Tryz.t282 := ⟨info_of (by decide) Tryz.type282, zero_of (by kernel_rfl)⟩
theorem Y283 : TyP 283 Tryz.t283 := ⟨info_of (by decide) Tryz.type283, zero_of (by kernel_rfl)⟩
theorem Y284 : TyP 284 Tryz.t284 := ⟨info_of (by decide) Tryz.type284, zero_of (by kernel_rfl)⟩
theorem Y285 : TyP 285 Tryz.t285 := ⟨info_of (by decide) Tryz.type285, zero_of (by kernel_rfl)⟩
theorem Y286 : TyP 286 Tryz.t286 := ⟨info_of (by decide) Tryz.type286, zero_of (by kernel_rfl)⟩
theorem Y287 : TyP 287 Tryz.t287 := ⟨info_of (by decide) Tryz.type287, zero_of (by kernel_rfl)⟩
theorem Y288 : TyP 288 Tryz.t288 := ⟨info_of (by decide) Tryz.type288, zero_of (by kernel_rfl)⟩
theorem Y289 : TyP 289 Tryz.t289 := ⟨info_of (by decide) Tryz.type289, zero_of (by kernel_rfl)⟩
theorem Y290 : TyP 290 Tryz.t290 := ⟨info_of (by decide) Tryz.type290, zero_of (by kernel_rfl)⟩
theorem Y291 : TyP 291 Tryz.t291 := ⟨info_of (by decide) Tryz.type291, zero_of (by kernel_rfl)⟩
theorem Y292 : TyP 292 Tryz.t292 := ⟨info_of (by decide) Tryz.type292, zero_of (by kernel_rfl)⟩
theorem Y293 : TyP 293 Tryz.t293 := ⟨info_of (by decide) Tryz.type293, zero_of (by kernel_rfl)⟩
theorem Y294 : TyP 294 Tryz.t294 := ⟨info_of (by decide) Tryz.type294, zero_of (by kernel_rfl)⟩
theorem Y295 : TyP 295 Tryz.t295 := ⟨info_of (by decide) Tryz.type295, zero_of (by kernel_rfl)⟩
theorem Y296 : TyP 296 Tryz.t296 := ⟨info_of (by decide) Tryz.type296, zero_of (by kernel_rfl)⟩
theorem Y297 : TyP 297 Tryz.t297 := ⟨info_of (by decide) Tryz.type297, zero_of (by kernel_rfl)⟩
theorem Y298 : TyP 298 Tryz.t298 := ⟨info_of (by decide) Tryz.type298, zero_of (by kernel_rfl)⟩
theorem Y299 : TyP 299 Tryz.t299 := ⟨info_of (by decide) Tryz.type299, zero_of (by kernel_rfl)⟩
theorem Y300 : TyP 300 Tryz.t300 := ⟨info_of (by decide) Tryz.type300, zero_of (by kernel_rfl)⟩
theorem Y301 : TyP 301 Tryz.t301 := ⟨info_of (by decide) Tryz.type301, zero_of (by kernel_rfl)⟩
theorem Y302 : TyP 302 Tryz.t302 := ⟨info_of (by decide) Tryz.type302, zero_of (by kernel_rfl)⟩
theorem Y303 : TyP 303 Tryz.t303 := ⟨info_of (by decide) Tryz.type303, zero_of (by kernel_rfl)⟩
theorem Y304 : TyP 304 Tryz.t304 := ⟨info_of (by decide) Tryz.type304, zero_of (by kernel_rfl)⟩
theorem Y305 : TyP 305 Tryz.t305 := ⟨info_of (by decide) Tryz.type305, zero_of (by kernel_rfl)⟩
theorem Y306 : TyP 306 Tryz.t306 := ⟨info_of (by decide) Tryz.type306, zero_of (by kernel_rfl)⟩
theorem Y307 : TyP 307 Tryz.t307 := ⟨info_of (by decide) Tryz.type307, zero_of (by kernel_rfl)⟩
theorem Y308 : TyP 308 Tryz.t308 := ⟨info_of (by decide) Tryz.type308, zero_of (by kernel_rfl)⟩
theorem Y309 : TyP 309 Tryz.t309 := ⟨info_of (by decide) Tryz.type309, zero_of (by kernel_rfl)⟩
theorem Y310 : TyP 310 Tryz.t310 := ⟨info_of (by decide) Tryz.type310, zero_of (by kernel_rfl)⟩
theorem Y311 : TyP 311 Tryz.t311 := ⟨info_of (by decide) Tryz.type311, zero_of (by kernel_rfl)⟩
theorem Y312 : TyP 312 Tryz.t312 := ⟨info_of (by decide) Tryz.type312, zero_of (by kernel_rfl)⟩
theorem Y313 : TyP 313 Tryz.t313 := ⟨info_of (by decide) Tryz.type313, zero_of (by kernel_rfl)⟩
theorem Y314 : TyP 314 Tryz.t314 := ⟨info_of (by decide) Tryz.type314, zero_of (by kernel_rfl)⟩
theorem Y315 : TyP 315 Tryz.t315 := ⟨info_of (by decide) Tryz.type315, zero_of (by kernel_rfl)⟩
theorem Y316 : TyP 316 Tryz.t316 := ⟨info_of (by decide) Tryz.type316, zero_of (by kernel_rfl)⟩
theorem Y317 : TyP 317 Tryz.t317 := ⟨info_of (by decide) Tryz.type317, zero_of (by kernel_rfl)⟩
theorem Y318 : TyP 318 Tryz.t318 := ⟨info_of (by decide) Tryz.type318, zero_of (by kernel_rfl)⟩
theorem Y319 : TyP 319 Tryz.t319 := ⟨info_of (by decide) Tryz.type319, zero_of (by kernel_rfl)⟩
theorem Y320 : TyP 320 Tryz.t320 := ⟨info_of (by decide) Tryz.type320, zero_of (by kernel_rfl)⟩
theorem Y321 : TyP 321 Tryz.t321 := ⟨info_of (by decide) Tryz.type321, zero_of (by kernel_rfl)⟩
theorem Y322 : TyP 322 Tryz.t322 := ⟨info_of (by decide) Tryz.type322, zero_of (by kernel_rfl)⟩
theorem Y323 : TyP 323 Tryz.t323 := ⟨info_of (by decide) Tryz.type323, zero_of (by kernel_rfl)⟩
theorem Y324 : TyP 324 Tryz.t324 := ⟨info_of (by decide) Tryz.type324, zero_of (by kernel_rfl)⟩
theorem Y325 : TyP 325 Tryz.t325 := ⟨info_of (by decide) Tryz.type325, zero_of (by kernel_rfl)⟩
theorem Y326 : TyP 326 Tryz.t326 := ⟨info_of (by decide) Tryz.type326, zero_of (by kernel_rfl)⟩
theorem Y327 : TyP 327 Tryz.t327 := ⟨info_of (by decide) Tryz.type327, zero_of (by kernel_rfl)⟩
theorem Y328 : TyP 328 Tryz.t328 := ⟨info_of (by decide) Tryz.type328, zero_of (by kernel_rfl)⟩
theorem Y329 : TyP 329 Tryz.t329 := ⟨info_of (by decide) Tryz.type329, zero_of (by kernel_rfl)⟩
theorem Y330 : TyP 330 Tryz.t330 := ⟨info_of (by decide) Tryz.type330, zero_of (by kernel_rfl)⟩
theorem allF : TAll FnP fnT := ⟨(fun _ h => by cases h), ⟨(fun _ h => by cases h), ⟨(lf F3), ⟨(lf F7), ⟨(lf F15), ⟨(lf F31), ⟨(lf F63), ⟨(lf F127), ⟨(lf F255), trivial, trivial⟩, trivial⟩, ⟨(lf F191), trivial, trivial⟩⟩, ⟨(lf F95), ⟨(lf F159), trivial, trivial⟩, ⟨(lf F223), trivial, trivial⟩⟩⟩, ⟨(lf F47), ⟨(lf F79), ⟨(lf F143), ⟨(lf F271), trivial, trivial⟩, trivial⟩, trivial⟩, ⟨(lf F111), ⟨(lf F175), trivial, trivial⟩, trivial⟩⟩⟩, ⟨(lf F23), ⟨(lf F39), ⟨(lf F71), ⟨(lf F135), trivial, trivial⟩, ⟨(lf F199), trivial, trivial⟩⟩, ⟨(lf F103), ⟨(lf F167), trivial, trivial⟩, ⟨(lf F231), trivial, trivial⟩⟩⟩, ⟨(lf F55), ⟨(lf F87), ⟨(lf F151), trivial, trivial⟩, trivial⟩, ⟨(lf F119), ⟨(lf F183), trivial, trivial⟩, ⟨(lf F247), trivial, trivial⟩⟩⟩⟩⟩, ⟨(lf F11), ⟨(lf F19), ⟨(lf F35), ⟨(lf F67), ⟨(lf F131), trivial, trivial⟩, ⟨(lf F195), trivial, trivial⟩⟩, ⟨(lf F99), ⟨(lf F163), trivial, trivial⟩, ⟨(lf F227), trivial, trivial⟩⟩⟩, ⟨(lf F51), ⟨(lf F83), ⟨(lf F147), trivial, trivial⟩, ⟨(lf F211), trivial, trivial⟩⟩, ⟨(lf F115), ⟨(lf F179), trivial, trivial⟩, ⟨(lf F243), trivial, trivial⟩⟩⟩⟩, ⟨(lf F27), ⟨(lf F43), ⟨(lf F75), ⟨(lf F139), ⟨(lf F267), trivial, trivial⟩, trivial⟩, ⟨(lf F203), trivial, trivial⟩⟩, ⟨(lf F107), ⟨(lf F171), trivial, trivial⟩, ⟨(lf F235), trivial, trivial⟩⟩⟩, ⟨(lf F59), ⟨(lf F91), ⟨(lf F155), trivial, trivial⟩, ⟨(lf F219), trivial, trivial⟩⟩, ⟨(lf F123), ⟨(lf F187), trivial, trivial⟩, ⟨(lf F251), trivial, trivial⟩⟩⟩⟩⟩⟩, ⟨(lf F5), ⟨(lf F9), ⟨(lf F17), ⟨(lf F33), ⟨(lf F65), ⟨(lf F129), ⟨(lf F257), trivial, trivial⟩, trivial⟩, ⟨(lf F193), trivial, trivial⟩⟩, ⟨(lf F97), ⟨(lf F161), trivial, trivial⟩, trivial⟩⟩, ⟨(lf F49), ⟨(lf F81), ⟨(lf F145), trivial, trivial⟩, trivial⟩, ⟨(lf F113), ⟨(lf F177), ⟨(lf F305), trivial, trivial⟩, trivial⟩, ⟨(lf F241), trivial, trivial⟩⟩⟩⟩, ⟨(lf F25), ⟨(lf F41), ⟨(lf F73), ⟨(lf F137), trivial, trivial⟩, trivial⟩, ⟨(lf F105), ⟨(lf F169), trivial, trivial⟩, ⟨(lf F233), trivial, trivial⟩⟩⟩, ⟨(lf F57), ⟨(lf F89), ⟨(lf F153), trivial, trivial⟩, ⟨(lf F217), trivial, trivial⟩⟩, ⟨(lf F121), ⟨(lf F185), trivial, trivial⟩, ⟨(lf F249), trivial, trivial⟩⟩⟩⟩⟩, ⟨(lf F13), ⟨(lf F21), ⟨(lf F37), ⟨(lf F69), ⟨(lf F133), trivial, trivial⟩, ⟨(lf F197), trivial, trivial⟩⟩, ⟨(lf F101), ⟨(lf F165), trivial, trivial⟩, ⟨(lf F229), trivial, trivial⟩⟩⟩, ⟨(lf F53), ⟨(lf F85), ⟨(lf F149), trivial, trivial⟩, trivial⟩, ⟨(lf F117), ⟨(lf F181), trivial, trivial⟩, trivial⟩⟩⟩, ⟨(lf F29), ⟨(lf F45), ⟨(lf F77), ⟨(lf F141), trivial, trivial⟩, ⟨(lf F205), trivial, trivial⟩⟩, ⟨(lf F109), ⟨(lf F173), trivial, trivial⟩, trivial⟩⟩, ⟨(lf F61), ⟨(lf F93), ⟨(lf F157), trivial, trivial⟩, ⟨(lf F221), trivial, trivial⟩⟩, ⟨(lf F125), ⟨(lf F189), trivial, trivial⟩, ⟨(lf F253), trivial, trivial⟩⟩⟩⟩⟩⟩⟩, ⟨(fun _ h => by cases h), ⟨(lf F4), ⟨(lf F8), ⟨(lf F16), ⟨(lf F32), ⟨(lf F64), ⟨(lf F128), trivial, trivial⟩, ⟨(lf F192), trivial, trivial⟩⟩, ⟨(lf F96), ⟨(lf F160), trivial, trivial⟩, trivial⟩⟩, ⟨(lf F48), ⟨(fun _ h => by cases h), ⟨(lf F144), trivial, trivial⟩, trivial⟩, ⟨(lf F112), ⟨(lf F176), trivial, trivial⟩, trivial⟩⟩⟩, ⟨(lf F24), ⟨(lf F40), ⟨(lf F72), ⟨(lf F136), trivial, trivial⟩, ⟨(lf F200), trivial, trivial⟩⟩, ⟨(fun _ h => by cases h), ⟨(lf F168), trivial, trivial⟩, ⟨(lf F232), trivial, trivial⟩⟩⟩, ⟨(lf F56), ⟨(lf F88), ⟨(lf F152), trivial, trivial⟩, ⟨(lf F216), trivial, trivial⟩⟩, ⟨(lf F120), ⟨(lf F184), trivial, trivial⟩, ⟨(lf F248), trivial, trivial⟩⟩⟩⟩⟩, ⟨(lf F12), ⟨(lf F20), ⟨(lf F36), ⟨(fun _ h => by cases h), ⟨(lf F132), trivial, trivial⟩, ⟨(lf F196), trivial, trivial⟩⟩, ⟨(lf F100), trivial, ⟨(lf F228), trivial, trivial⟩⟩⟩, ⟨(lf F52), ⟨(lf F84), ⟨(lf F148), trivial, trivial⟩, ⟨(lf F212), trivial, trivial⟩⟩, ⟨(lf F116), ⟨(lf F180), trivial, trivial⟩, ⟨(lf F244), trivial, trivial⟩⟩⟩⟩, ⟨(lf F28), ⟨(lf F44), ⟨(lf F76), ⟨(lf F140), ⟨(lf F268), trivial, trivial⟩, trivial⟩, ⟨(lf F204), trivial, trivial⟩⟩, ⟨(lf F108), ⟨(lf F172), trivial, trivial⟩, trivial⟩⟩, ⟨(lf F60), ⟨(lf F92), ⟨(lf F156), trivial, trivial⟩, ⟨(lf F220), trivial, trivial⟩⟩, ⟨(lf F124), ⟨(lf F188), trivial, trivial⟩, trivial⟩⟩⟩⟩⟩, ⟨(lf F6), ⟨(lf F10), ⟨(lf F18), ⟨(lf F34), ⟨(lf F66), ⟨(lf F130), ⟨(lf F258), trivial, trivial⟩, trivial⟩, ⟨(lf F194), trivial, trivial⟩⟩, ⟨(fun _ h => by cases h), ⟨(lf F162), trivial, trivial⟩, trivial⟩⟩, ⟨(lf F50), ⟨(lf F82), ⟨(lf F146), trivial, trivial⟩, ⟨(lf F210), trivial, trivial⟩⟩, ⟨(lf F114), ⟨(lf F178), trivial, trivial⟩, trivial⟩⟩⟩, ⟨(lf F26), ⟨(lf F42), ⟨(lf F74), ⟨(lf F138), ⟨(lf F266), trivial, trivial⟩, trivial⟩, ⟨(lf F202), trivial, trivial⟩⟩, ⟨(lf F106), trivial, ⟨(lf F234), trivial, trivial⟩⟩⟩, ⟨(lf F58), ⟨(lf F90), ⟨(lf F154), trivial, trivial⟩, trivial⟩, ⟨(lf F122), ⟨(lf F186), trivial, trivial⟩, ⟨(lf F250), trivial, trivial⟩⟩⟩⟩⟩, ⟨(lf F14), ⟨(lf F22), ⟨(lf F38), ⟨(lf F70), trivial, ⟨(lf F198), trivial, trivial⟩⟩, ⟨(lf F102), ⟨(lf F166), trivial, trivial⟩, ⟨(lf F230), trivial, trivial⟩⟩⟩, ⟨(lf F54), ⟨(lf F86), ⟨(lf F150), trivial, trivial⟩, ⟨(lf F214), trivial, trivial⟩⟩, ⟨(lf F118), ⟨(lf F182), trivial, trivial⟩, trivial⟩⟩⟩, ⟨(lf F30), ⟨(lf F46), ⟨(lf F78), ⟨(lf F142), trivial, trivial⟩, ⟨(lf F206), trivial, trivial⟩⟩, ⟨(lf F110), ⟨(lf F174), trivial, trivial⟩, trivial⟩⟩, ⟨(lf F62), ⟨(lf F94), ⟨(lf F158), trivial, trivial⟩, ⟨(lf F222), trivial, trivial⟩⟩, ⟨(lf F126), ⟨(lf F190), trivial, trivial⟩, ⟨(lf F254), trivial, trivial⟩⟩⟩⟩⟩⟩⟩⟩
theorem allY : TAll TyP tyT := ⟨(lf Y0), ⟨(lf Y1), ⟨(lf Y3), ⟨(lf Y7), ⟨(lf Y15), ⟨(lf Y31), ⟨(lf Y63), ⟨(lf Y127), ⟨(lf Y255), trivial, trivial⟩, trivial⟩, ⟨(lf Y191), ⟨(lf Y319), trivial, trivial⟩, trivial⟩⟩, ⟨(lf Y95), ⟨(lf Y159), ⟨(lf Y287), trivial, trivial⟩, trivial⟩, ⟨(lf Y223), trivial, trivial⟩⟩⟩, ⟨(lf Y47), ⟨(lf Y79), ⟨(lf Y143), ⟨(lf Y271), trivial, trivial⟩, trivial⟩, ⟨(lf Y207), trivial, trivial⟩⟩, ⟨(lf Y111), ⟨(lf Y175), ⟨(lf Y303), trivial, trivial⟩, trivial⟩, ⟨(lf Y239), trivial, trivial⟩⟩⟩⟩, ⟨(lf Y23), ⟨(lf Y39), ⟨(lf Y71), ⟨(lf Y135), ⟨(lf Y263), trivial, trivial⟩, trivial⟩, ⟨(lf Y199), ⟨(lf Y327), trivial, trivial⟩, trivial⟩⟩, ⟨(lf Y103), ⟨(lf Y167), ⟨(lf Y295), trivial, trivial⟩, trivial⟩, ⟨(lf Y231), trivial, trivial⟩⟩⟩, ⟨(lf Y55), ⟨(lf Y87), ⟨(lf Y151), ⟨(lf Y279), trivial, trivial⟩, trivial⟩, ⟨(lf Y215), trivial, trivial⟩⟩, ⟨(lf Y119), ⟨(lf Y183), ⟨(lf Y311), trivial, trivial⟩, trivial⟩, ⟨(lf Y247), trivial, trivial⟩⟩⟩⟩⟩, ⟨(lf Y11), ⟨(lf Y19), ⟨(lf Y35), ⟨(lf Y67), ⟨(lf Y131), ⟨(lf Y259), trivial, trivial⟩, trivial⟩, ⟨(lf Y195), ⟨(lf Y323), trivial, trivial⟩, trivial⟩⟩, ⟨(lf Y99), ⟨(lf Y163), ⟨(lf Y291), trivial, trivial⟩, trivial⟩, ⟨(lf Y227), trivial, trivial⟩⟩⟩, ⟨(lf Y51), ⟨(lf Y83), ⟨(lf Y147), ⟨(lf Y275), trivial, trivial⟩, trivial⟩, ⟨(lf Y211), trivial, trivial⟩⟩, ⟨(lf Y115), ⟨(lf Y179), ⟨(lf Y307), trivial, trivial⟩, trivial⟩, ⟨(lf Y243), trivial, trivial⟩⟩⟩⟩, ⟨(lf Y27), ⟨(lf Y43), ⟨(lf Y75), ⟨(lf Y139), ⟨(lf Y267), trivial, trivial⟩, trivial⟩, ⟨(lf Y203), trivial, trivial⟩⟩, ⟨(lf Y107), ⟨(lf Y171), ⟨(lf Y299), trivial, trivial⟩, trivial⟩, ⟨(lf Y235), trivial, trivial⟩⟩⟩, ⟨(lf Y59), ⟨(lf Y91), ⟨(lf Y155), ⟨(lf Y283), trivial, trivial⟩, trivial⟩, ⟨(lf Y219), trivial, trivial⟩⟩, ⟨(lf Y123), ⟨(lf Y187), ⟨(lf Y315), trivial, trivial⟩, trivial⟩, ⟨(lf Y251), trivial, trivial⟩⟩⟩⟩⟩⟩, ⟨(lf Y5), ⟨(lf Y9), ⟨(lf Y17), ⟨(lf Y33), ⟨(lf Y65), ⟨(lf Y129), ⟨(lf Y257), trivial, trivial⟩, trivial⟩, ⟨(lf Y193), ⟨(lf Y321), trivial, trivial⟩, trivial⟩⟩, ⟨(lf Y97), ⟨(lf Y161), ⟨(lf Y289), trivial, trivial⟩, trivial⟩, ⟨(lf Y225), trivial, trivial⟩⟩⟩, ⟨(lf Y49), ⟨(lf Y81), ⟨(lf Y145), ⟨(lf Y273), trivial, trivial⟩, trivial⟩, ⟨(lf Y209), trivial, trivial⟩⟩, ⟨(lf Y113), ⟨(lf Y177), ⟨(lf Y305), trivial, trivial⟩, trivial⟩, ⟨(lf Y241), trivial, trivial⟩⟩⟩⟩, ⟨(lf Y25), ⟨(lf Y41), ⟨(lf Y73), ⟨(lf Y137), ⟨(lf Y265), trivial, trivial⟩, trivial⟩, ⟨(lf Y201), ⟨(lf Y329), trivial, trivial⟩, trivial⟩⟩, ⟨(lf Y105), ⟨(lf Y169), ⟨(lf Y297), trivial, trivial⟩, trivial⟩, ⟨(lf Y233), trivial, trivial⟩⟩⟩, ⟨(lf Y57), ⟨(lf Y89), ⟨(lf Y153), ⟨(lf Y281), trivial, trivial⟩, trivial⟩, ⟨(lf Y217), trivial, trivial⟩⟩, ⟨(lf Y121), ⟨(lf Y185), ⟨(lf Y313), trivial, trivial⟩, trivial⟩, ⟨(lf Y249), trivial, trivial⟩⟩⟩⟩⟩, ⟨(lf Y13), ⟨(lf Y21), ⟨(lf Y37), ⟨(lf Y69), ⟨(lf Y133), ⟨(lf Y261), trivial, trivial⟩, trivial⟩, ⟨(lf Y197), ⟨(lf Y325), trivial, trivial⟩, trivial⟩⟩, ⟨(lf Y101), ⟨(lf Y165), ⟨(lf Y293), trivial, trivial⟩, trivial⟩, ⟨(lf Y229), trivial, trivial⟩⟩⟩, ⟨(lf Y53), ⟨(lf Y85), ⟨(lf Y149), ⟨(lf Y277), trivial, trivial⟩, trivial⟩, ⟨(lf Y213), trivial, trivial⟩⟩, ⟨(lf Y117), ⟨(lf Y181), ⟨(lf Y309), trivial, trivial⟩, trivial⟩, ⟨(lf Y245), trivial, trivial⟩⟩⟩⟩, ⟨(lf Y29), ⟨(lf Y45), ⟨(lf Y77), ⟨(lf Y141), ⟨(lf Y269), trivial, trivial⟩, trivial⟩, ⟨(lf Y205), trivial, trivial⟩⟩, ⟨(lf Y109), ⟨(lf Y173), ⟨(lf Y301), trivial, trivial⟩, trivial⟩, ⟨(lf Y237), trivial, trivial⟩⟩⟩, ⟨(lf Y61), ⟨(lf Y93), ⟨(lf Y157), ⟨(lf Y285), trivial, trivial⟩, trivial⟩, ⟨(lf Y221), trivial, trivial⟩⟩, ⟨(lf Y125), ⟨(lf Y189), ⟨(lf Y317), trivial, trivial⟩, trivial⟩, ⟨(lf Y253), trivial, trivial⟩⟩⟩⟩⟩⟩⟩, ⟨(lf Y2), ⟨(lf Y4), ⟨(lf Y8), ⟨(lf Y16), ⟨(lf Y32), ⟨(lf Y64), ⟨(lf Y128), ⟨(lf Y256), trivial, trivial⟩, trivial⟩, ⟨(lf Y192), ⟨(lf Y320), trivial, trivial⟩, trivial⟩⟩, ⟨(lf Y96), ⟨(lf Y160), ⟨(lf Y288), trivial, trivial⟩, trivial⟩, ⟨(lf Y224), trivial, trivial⟩⟩⟩, ⟨(lf Y48), ⟨(lf Y80), ⟨(lf Y144), ⟨(lf Y272), trivial, trivial⟩, trivial⟩, ⟨(lf Y208), trivial, trivial⟩⟩, ⟨(lf Y112), ⟨(lf Y176), ⟨(lf Y304), trivial, trivial⟩, trivial⟩, ⟨(lf Y240), trivial, trivial⟩⟩⟩⟩, ⟨(lf Y24), ⟨(lf Y40), ⟨(lf Y72), ⟨(lf Y136), ⟨(lf Y264), trivial, trivial⟩, trivial⟩, ⟨(lf Y200), ⟨(lf Y328), trivial, trivial⟩, trivial⟩⟩, ⟨(lf Y104), ⟨(lf Y168), ⟨(lf Y296), trivial, trivial⟩, trivial⟩, ⟨(lf Y232), trivial, trivial⟩⟩⟩, ⟨(lf Y56), ⟨(lf Y88), ⟨(lf Y152), ⟨(lf Y280), trivial, trivial⟩, trivial⟩, ⟨(lf Y216), trivial, trivial⟩⟩, ⟨(lf Y120), ⟨(lf Y184), ⟨(lf Y312), trivial, trivial⟩, trivial⟩, ⟨(lf Y248), trivial, trivial⟩⟩⟩⟩⟩, ⟨(lf Y12), ⟨(lf Y20), ⟨(lf Y36), ⟨(lf Y68), ⟨(lf Y132), ⟨(lf Y260), trivial, trivial⟩, trivial⟩, ⟨(lf Y196), ⟨(lf Y324), trivial, trivial⟩, trivial⟩⟩, ⟨(lf Y100), ⟨(lf Y164), ⟨(lf Y292), trivial, trivial⟩, trivial⟩, ⟨(lf Y228), trivial, trivial⟩⟩⟩, ⟨(lf Y52), ⟨(lf Y84), ⟨(lf Y148), ⟨(lf Y276), trivial, trivial⟩, trivial⟩, ⟨(lf Y212), trivial, trivial⟩⟩, ⟨(lf Y116), ⟨(lf Y180), ⟨(lf Y308), trivial, trivial⟩, trivial⟩, ⟨(lf Y244), trivial, trivial⟩⟩⟩⟩, ⟨(lf Y28), ⟨(lf Y44), ⟨(lf Y76), ⟨(lf Y140), ⟨(lf Y268), trivial, trivial⟩, trivial⟩, ⟨(lf Y204), trivial, trivial⟩⟩, ⟨(lf Y108), ⟨(lf Y172), ⟨(lf Y300), trivial, trivial⟩, trivial⟩, ⟨(lf Y236), trivial, trivial⟩⟩⟩, ⟨(lf Y60), ⟨(lf Y92), ⟨(lf Y156), ⟨(lf Y284), trivial, trivial⟩, trivial⟩, ⟨(lf Y220), trivial, trivial⟩⟩, ⟨(lf Y124), ⟨(lf Y188), ⟨(lf Y316), trivial, trivial⟩, trivial⟩, ⟨(lf Y252), trivial, trivial⟩⟩⟩⟩⟩⟩, ⟨(lf Y6), ⟨(lf Y10), ⟨(lf Y18), ⟨(lf Y34), ⟨(lf Y66), ⟨(lf Y130), ⟨(lf Y258), trivial, trivial⟩, trivial⟩, ⟨(lf Y194), ⟨(lf Y322), trivial, trivial⟩, trivial⟩⟩, ⟨(lf Y98), ⟨(lf Y162), ⟨(lf Y290), trivial, trivial⟩, trivial⟩, ⟨(lf Y226), trivial, trivial⟩⟩⟩, ⟨(lf Y50), ⟨(lf Y82), ⟨(lf Y146), ⟨(lf Y274), trivial, trivial⟩, trivial⟩, ⟨(lf Y210), trivial, trivial⟩⟩, ⟨(lf Y114), ⟨(lf Y178), ⟨(lf Y306), trivial, trivial⟩, trivial⟩, ⟨(lf Y242), trivial, trivial⟩⟩⟩⟩, ⟨(lf Y26), ⟨(lf Y42), ⟨(lf Y74), ⟨(lf Y138), ⟨(lf Y266), trivial, trivial⟩, trivial⟩, ⟨(lf Y202), ⟨(lf Y330), trivial, trivial⟩, trivial⟩⟩, ⟨(lf Y106), ⟨(lf Y170), ⟨(lf Y298), trivial, trivial⟩, trivial⟩, ⟨(lf Y234), trivial, trivial⟩⟩⟩, ⟨(lf Y58), ⟨(lf Y90), ⟨(lf Y154), ⟨(lf Y282), trivial, trivial⟩, trivial⟩, ⟨(lf Y218), trivial, trivial⟩⟩, ⟨(lf Y122), ⟨(lf Y186), ⟨(lf Y314), trivial, trivial⟩, trivial⟩, ⟨(lf Y250), trivial, trivial⟩⟩⟩⟩⟩, ⟨(lf Y14), ⟨(lf Y22), ⟨(lf Y38), ⟨(lf Y70), ⟨(lf Y134), ⟨(lf Y262), trivial, trivial⟩, trivial⟩, ⟨(lf Y198), ⟨(lf Y326), trivial, trivial⟩, trivial⟩⟩, ⟨(lf Y102), ⟨(lf Y166), ⟨(lf Y294), trivial, trivial⟩, trivial⟩, ⟨(lf Y230), trivial, trivial⟩⟩⟩, ⟨(lf Y54), ⟨(lf Y86), ⟨(lf Y150), ⟨(lf Y278), trivial, trivial⟩, trivial⟩, ⟨(lf Y214), trivial, trivial⟩⟩, ⟨(lf Y118), ⟨(lf Y182), ⟨(lf Y310), trivial, trivial⟩, trivial⟩, ⟨(lf Y246), trivial, trivial⟩⟩⟩⟩, ⟨(lf Y30), ⟨(lf Y46), ⟨(lf Y78), ⟨(lf Y142), ⟨(lf Y270), trivial, trivial⟩, trivial⟩, ⟨(lf Y206), trivial, trivial⟩⟩, ⟨(lf Y110), ⟨(lf Y174), ⟨(lf Y302), trivial, trivial⟩, trivial⟩, ⟨(lf Y238), trivial, trivial⟩⟩⟩, ⟨(lf Y62), ⟨(lf Y94), ⟨(lf Y158), ⟨(lf Y286), trivial, trivial⟩, trivial⟩, ⟨(lf Y222), trivial, trivial⟩⟩, ⟨(lf Y126), ⟨(lf Y190), ⟨(lf Y318), trivial, trivial⟩, trivial⟩, ⟨(lf Y254), trivial, trivial⟩⟩⟩⟩⟩⟩⟩⟩
theorem keyI (b : Bool) {t : TypeId} (h : Tryz.prog.underlying t = some (.int .i64)) (a : Int) (w : World) : (Instr.checkKey b 9999 t (.int .i64 a)).run Tryz.prog w = .ok () w := by
  show (Instr.checkKey b (9998 + 1) t (.int .i64 a)).run Tryz.prog w = .ok () w
  unfold Instr.checkKey
  simp only [Sem.run_bind, run_underlying h, Result.andThen_ok]
  rfl
theorem keyS (b : Bool) {t : TypeId} (h : Tryz.prog.underlying t = some .string) (a : ByteArray) (w : World) : (Instr.checkKey b 9999 t (.string a)).run Tryz.prog w = .ok () w := by
  show (Instr.checkKey b (9998 + 1) t (.string a)).run Tryz.prog w = .ok () w
  unfold Instr.checkKey
  simp only [Sem.run_bind, run_underlying h, Result.andThen_ok]
  rfl
theorem keyB (b : Bool) {t : TypeId} (h : Tryz.prog.underlying t = some .bool) (a : Bool) (w : World) : (Instr.checkKey b 9999 t (.bool a)).run Tryz.prog w = .ok () w := by
  show (Instr.checkKey b (9998 + 1) t (.bool a)).run Tryz.prog w = .ok () w
  unfold Instr.checkKey
  simp only [Sem.run_bind, run_underlying h, Result.andThen_ok]
  rfl
theorem eqI {t : TypeId} (h : Tryz.prog.underlying t = some (.int .i64)) (a b : Int) (w : World) : (Op.equalIn 9999 t (.int .i64 a) (.int .i64 b)).run Tryz.prog w = .ok (a == b) w := by
  show (Op.equalIn (9998 + 1) t _ _).run Tryz.prog w = _
  unfold Op.equalIn
  simp only [Sem.run_bind, run_underlying h, Result.andThen_ok, if_true, Sem.run_pure]
theorem eqS {t : TypeId} (h : Tryz.prog.underlying t = some .string) (a b : ByteArray) (w : World) : (Op.equalIn 9999 t (.string a) (.string b)).run Tryz.prog w = .ok (a == b) w := by
  show (Op.equalIn (9998 + 1) t _ _).run Tryz.prog w = _
  unfold Op.equalIn
  simp only [Sem.run_bind, run_underlying h, Result.andThen_ok, if_true, Sem.run_pure]
theorem eqB {t : TypeId} (h : Tryz.prog.underlying t = some .bool) (a b : Bool) (w : World) : (Op.equalIn 9999 t (.bool a) (.bool b)).run Tryz.prog w = .ok (a == b) w := by
  show (Op.equalIn (9998 + 1) t _ _).run Tryz.prog w = _
  unfold Op.equalIn
  simp only [Sem.run_bind, run_underlying h, Result.andThen_ok, if_true, Sem.run_pure]
theorem cell_int {a : Int} {y : Value} {e : Bool} (h : cellEq (.int .i64 a) y = some e) : ∃ b, y = .int .i64 b ∧ e = iEq a b := by
  unfold cellEq at h
  split at h
  · rename_i a' b e1; cases e1; exact ⟨_, rfl, (Option.some.inj h).symm⟩
  · rename_i e1; cases e1
  · rename_i e1; cases e1
  · cases h
theorem cell_str {a : List UInt8} {y : Value} {e : Bool} (h : cellEq (.string ⟨⟨a⟩⟩) y = some e) : ∃ b, y = .string ⟨⟨b⟩⟩ ∧ e = bytesEq a b := by
  unfold cellEq at h
  split at h
  · rename_i e1; cases e1
  · rename_i a' b e1; cases e1; exact ⟨_, rfl, (Option.some.inj h).symm⟩
  · rename_i e1; cases e1
  · cases h
theorem cell_bool {a : Bool} {y : Value} {e : Bool} (h : cellEq (.bool a) y = some e) : ∃ b, y = .bool b ∧ e = bo a b (!b) := by
  unfold cellEq at h
  split at h
  · rename_i e1; cases e1
  · rename_i e1; cases e1
  · rename_i a' b e1; cases e1; exact ⟨_, rfl, (Option.some.inj h).symm⟩
  · cases h
theorem eq35 (a1 : Int) (a2 : Int) (a3 : Int) (a4 : Int) (a5 : Int) (b1 : Int) (b2 : Int) (b3 : Int) (b4 : Int) (b5 : Int) (w : World) : (Op.equal 35 (.agg ⟨[.int .i64 a1, .int .i64 a2, .int .i64 a3, .int .i64 a4, .int .i64 a5]⟩) (.agg ⟨[.int .i64 b1, .int .i64 b2, .int .i64 b3, .int .i64 b4, .int .i64 b5]⟩)).run Tryz.prog w =
    .ok (bo (iEq a1 b1) (bo (iEq a2 b2) (bo (iEq a3 b3) (bo (iEq a4 b4) (bo (iEq a5 b5) true false) false) false) false) false) w := by
  unfold Op.equal Op.maxDepth
  skip
  skip
  simp [go_sem, Op.eqFields, bytes_beq, eqI, eqS, eqB, List.range'_succ, List.forIn_cons]
  simp only [bo_eq, iEq_eq, bytesEq_eq, beq_iff_eq]
  repeat' split
  all_goals first | rfl | simp_all
theorem key35 (a1 : Int) (a2 : Int) (a3 : Int) (a4 : Int) (a5 : Int) (b : Bool) (w : World) : (Instr.checkKey b 10000 35 (.agg ⟨[.int .i64 a1, .int .i64 a2, .int .i64 a3, .int .i64 a4, .int .i64 a5]⟩)).run Tryz.prog w = .ok () w := by
  show (Instr.checkKey b (9999 + 1) 35 (.agg ⟨[.int .i64 a1, .int .i64 a2, .int .i64 a3, .int .i64 a4, .int .i64 a5]⟩)).run Tryz.prog w = .ok () w
  unfold Instr.checkKey
  simp [go_sem, keyI, keyS, keyB, List.range'_succ, List.forIn_cons]
theorem cells35 (xs : List Value) (h0 : kindsOk xs [0, 0, 0, 0, 0] = true) : ∃ a1 a2 a3 a4 a5, xs = [.int .i64 a1, .int .i64 a2, .int .i64 a3, .int .i64 a4, .int .i64 a5] := by
  cases xs with
  | nil => cases h0
  | cons v0 xs =>
  obtain ⟨k0, _, h1⟩ := kindsOk_step h0
  obtain ⟨a1, rfl⟩ := kindC_int k0
  cases xs with
  | nil => cases h1
  | cons v1 xs =>
  obtain ⟨k1, _, h2⟩ := kindsOk_step h1
  obtain ⟨a2, rfl⟩ := kindC_int k1
  cases xs with
  | nil => cases h2
  | cons v2 xs =>
  obtain ⟨k2, _, h3⟩ := kindsOk_step h2
  obtain ⟨a3, rfl⟩ := kindC_int k2
  cases xs with
  | nil => cases h3
  | cons v3 xs =>
  obtain ⟨k3, _, h4⟩ := kindsOk_step h3
  obtain ⟨a4, rfl⟩ := kindC_int k3
  cases xs with
  | nil => cases h4
  | cons v4 xs =>
  obtain ⟨k4, _, h5⟩ := kindsOk_step h4
  obtain ⟨a5, rfl⟩ := kindC_int k4
  cases xs with
  | cons v xs => cases h5
  | nil => exact ⟨a1, a2, a3, a4, a5, rfl⟩
theorem mates35 (a1 : Int) (a2 : Int) (a3 : Int) (a4 : Int) (a5 : Int) (ys : List Value) (r0 : Bool) (h0 : cellsEq [.int .i64 a1, .int .i64 a2, .int .i64 a3, .int .i64 a4, .int .i64 a5] ys = some r0) : ∃ b1 b2 b3 b4 b5, ys = [.int .i64 b1, .int .i64 b2, .int .i64 b3, .int .i64 b4, .int .i64 b5] ∧ r0 = bo (iEq a1 b1) (bo (iEq a2 b2) (bo (iEq a3 b3) (bo (iEq a4 b4) (bo (iEq a5 b5) true false) false) false) false) false := by
  cases ys with
  | nil => cases h0
  | cons y0 ys =>
  rw [cellsEq_cons] at h0
  obtain ⟨e0, he0, g0⟩ := ob_eq h0
  obtain ⟨r1, h1, hr0⟩ := ob_eq g0
  obtain ⟨b1, rfl, rfl⟩ := cell_int he0
  cases ys with
  | nil => cases h1
  | cons y1 ys =>
  rw [cellsEq_cons] at h1
  obtain ⟨e1, he1, g1⟩ := ob_eq h1
  obtain ⟨r2, h2, hr1⟩ := ob_eq g1
  obtain ⟨b2, rfl, rfl⟩ := cell_int he1
  cases ys with
  | nil => cases h2
  | cons y2 ys =>
  rw [cellsEq_cons] at h2
  obtain ⟨e2, he2, g2⟩ := ob_eq h2
  obtain ⟨r3, h3, hr2⟩ := ob_eq g2
  obtain ⟨b3, rfl, rfl⟩ := cell_int he2
  cases ys with
  | nil => cases h3
  | cons y3 ys =>
  rw [cellsEq_cons] at h3
  obtain ⟨e3, he3, g3⟩ := ob_eq h3
  obtain ⟨r4, h4, hr3⟩ := ob_eq g3
  obtain ⟨b4, rfl, rfl⟩ := cell_int he3
  cases ys with
  | nil => cases h4
  | cons y4 ys =>
  rw [cellsEq_cons] at h4
  obtain ⟨e4, he4, g4⟩ := ob_eq h4
  obtain ⟨r5, h5, hr4⟩ := ob_eq g4
  obtain ⟨b5, rfl, rfl⟩ := cell_int he4
  cases ys with
  | cons y ys => cases h5
  | nil =>
  have z := Option.some.inj (show some true = some r5 from h5)
  subst z
  have z := Option.some.inj hr4
  subst z
  have z := Option.some.inj hr3
  subst z
  have z := Option.some.inj hr2
  subst z
  have z := Option.some.inj hr1
  subst z
  have z := Option.some.inj hr0
  subst z
  exact ⟨b1, b2, b3, b4, b5, rfl, rfl⟩
theorem envOk : EnvOk env Tryz.prog where
  ty t i h := (allY.get t i h).1
  fn f x h := (allF.get f x h).1
  bld := by kernel_rfl
  bld8 := by
    rw [show env.bld = 210 from rfl, Tryz.underlying210]
    intro h; cases h
  eqs t xs h ys r hi w := by
    obtain ⟨ks, hm, hk⟩ := eqOk_mem t xs _ h
    have h1 : (t = 35 ∧ ks = [0, 0, 0, 0, 0]) := by simpa [env] using hm
    have h0 := h1
    · obtain ⟨rfl, rfl⟩ := h0
      obtain ⟨a1, a2, a3, a4, a5, rfl⟩ := cells35 xs hk
      obtain ⟨b1, b2, b3, b4, b5, rfl, rfl⟩ := mates35 a1 a2 a3 a4 a5 ys r hi
      exact ⟨eq35 a1 a2 a3 a4 a5 b1 b2 b3 b4 b5 w, fun op ox oy => run_eqGuard_agg w op 35 ox oy _ _ Tryz.eqGuardType35⟩
  keys t xs h b w := by
    obtain ⟨ks, hm, hk⟩ := eqOk_mem t xs _ h
    have h1 : (t = 35 ∧ ks = [0, 0, 0, 0, 0]) := by simpa [env] using hm
    have h0 := h1
    · obtain ⟨rfl, rfl⟩ := h0
      obtain ⟨a1, a2, a3, a4, a5, rfl⟩ := cells35 xs hk
      exact key35 a1 a2 a3 a4 a5 b w
  zs t i z h hz := (allY.get t i h).2 z hz
theorem idxV_find (c : Nat) (z : List UInt8) : ∀ i, idxV c z i = match z.findIdx? (fun b => b.toNat == c) with
    | some k => ((i + k : Nat) : Int)
    | none => -1 := by
  induction z with
  | nil => intro i; rfl
  | cons b bs ih =>
    intro i
    have h : idxV c (b :: bs) i = bo (Nat.beq b.toNat c) (.ofNat i) (idxV c bs (i + 1)) := rfl
    rw [h, bo_eq, List.findIdx?_cons]
    by_cases hb : b.toNat = c
    · simp [hb]
    · simp only [Nat.beq_eq, hb, if_false, ih, beq_iff_eq, Bool.false_eq_true]
      cases bs.findIdx? (fun b => b.toNat == c) with
      | none => rfl
      | some k =>
        show ((i + 1 + k : Nat) : Int) = ((i + (k + 1) : Nat) : Int)
        congr 1; omega
theorem find_range (c : UInt8) : ∀ (z pre : List UInt8), (List.range' pre.length z.length).find? (fun i => (⟨⟨pre ++ z⟩⟩ : ByteArray)[i]! == c) = (z.findIdx? (· == c)).map (· + pre.length)
  | [], pre => by simp
  | b :: z, pre => by
    have ih := find_range c z (pre ++ [b])
    simp only [List.length_append, List.length_cons, List.length_nil, Nat.zero_add, List.append_assoc, List.cons_append, List.nil_append] at ih
    rw [List.length_cons, List.range'_succ, List.find?_cons, List.findIdx?_cons]
    have hb : (⟨⟨pre ++ b :: z⟩⟩ : ByteArray)[pre.length]! = b := by
      have hlt : pre.length < (⟨⟨pre ++ b :: z⟩⟩ : ByteArray).size := by
        show pre.length < (pre ++ b :: z).length
        simp
      rw [getElem!_pos (⟨⟨pre ++ b :: z⟩⟩ : ByteArray) pre.length hlt]
      show (pre ++ b :: z)[pre.length]'(by simp) = b
      simp
    rw [hb, ih]
    by_cases hbc : (b == c) = true
    · simp [hbc]
    · simp only [hbc, if_false, Bool.false_eq_true]
      cases z.findIdx? (· == c) with
      | none => rfl
      | some k => simp; omega
theorem fnOk : FnOk env Tryz.prog extN where
  enter f fn c h hc := ((allF.get f fn h).2 c hc).1
  code f fn c h hne hc := ((allF.get f fn h).2 c hc).2 hne
  noEscape x w := by
    show (callFunc 258 #[x]).run Tryz.prog w = _
    rw [run_callFunc_extern Tryz.func258 (by kernel_rfl) (by kernel_rfl) (by kernel_rfl) (e := Extern.AbiNoEscape.same) (by kernel_rfl)]
    rfl
  indexByte z c w hc := by
    show (callFunc 305 #[.string ⟨⟨z⟩⟩, .int .u8 (.ofNat c)]).run Tryz.prog w = _
    rw [run_callFunc_extern Tryz.func305 (by kernel_rfl) (by kernel_rfl) (by kernel_rfl) (e := Extern.BytealgIndexByte.indexByte) (by kernel_rfl)]
    rw [run_indexByte_string]
    have h1 := find_range (UInt8.ofNat c) z []
    simp only [List.length_nil, List.nil_append, Nat.add_zero] at h1
    have h2 : (z.findIdx? fun b => b.toNat == c) = z.findIdx? (· == UInt8.ofNat c) := by
      congr 1
      funext b
      rw [Bool.eq_iff_iff]
      simp only [beq_iff_eq]
      have hcc : (UInt8.ofNat c).toNat = c := by simp [UInt8.toNat_ofNat, Nat.mod_eq_of_lt hc]
      rw [← UInt8.toNat_inj, hcc]
    have h3 : firstIdx ⟨⟨z⟩⟩ (Int.toNat (Int.ofNat c)).toUInt8 = idxV c z 0 := by
      rw [idxV_find, h2]
      unfold firstIdx
      rw [show (⟨⟨z⟩⟩ : ByteArray).size = z.length from rfl, List.range_eq_range']
      have h4 : (Int.toNat (Int.ofNat c)).toUInt8 = UInt8.ofNat c := rfl
      rw [h4, h1]
      cases z.findIdx? (· == UInt8.ofNat c) with
      | none => rfl
      | some k => simp
    rw [h3]
    rfl
  byte := by kernel_rfl
  noZero fn h n w hn := by
    obtain ⟨cs, hrun, hle, hmax⟩ := Lib.run_makeNoZero (P := Tryz.prog) w #[3] 158 5 Tryz.underlying158 n (by omega)
    refine ⟨cs.toList, ?_, ?_⟩
    · show (callFunc 271 #[.int .i64 (n : Int)]).run Tryz.prog w = _
      rw [run_callFunc_extern Tryz.func271 (by kernel_rfl) (by kernel_rfl) (by kernel_rfl) (e := Extern.BytealgMakeNoZero.makeNoZero #[3] #[158]) (by kernel_rfl), hrun]
      rfl
    · exact hmax (Nat.le_trans hn (by decide))
  look fn h b o n c a k g i z w hi hv := look_calls b o n c a k g i z w hi hv
end Go.Proofs.YtbefibijhfgkdaaGreatDoor

