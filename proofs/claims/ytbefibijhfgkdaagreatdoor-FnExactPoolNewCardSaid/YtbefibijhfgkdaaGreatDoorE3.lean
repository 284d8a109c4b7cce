/- The table of calls, and a call's evaluation. -/
import Derived.Test.YtbefibijhfgkdaaGreatDoorE2
namespace Go.Ev
open Go
/- A table of calls that have been shown: what they look at, what they return and make. -/
structure Ent where
  f : FuncId
  args : List Value
  next : Nat
  blocks : List (Nat × AObj)
  val : Value
  made : List (Nat × AObj)
  next' : Nat
  acc : Nat
noncomputable section
def pEq (a b : Option Addr) : Bool := match a, b with
  | none, none => true
  | some ⟨b, o, none⟩, some ⟨b', o', none⟩ => Nat.beq b b' && Nat.beq o o'
  | _, _ => false
def boolEq (a b : Bool) : Bool := bo a b (!b)
mutual
def vEq : Value → Value → Bool
  | .bool a, .bool b => boolEq a b
  | .int k a, .int j b => kindEq k j && iEq a b
  | .string ⟨⟨a⟩⟩, .string ⟨⟨b⟩⟩ => bytesEq a b
  | .pointer a, .pointer b => pEq a b
  | .slice a l c, .slice b m d => pEq a b && Nat.beq l m && Nat.beq c d
  | .agg ⟨a⟩, .agg ⟨b⟩ => lEq a b
  | .tuple ⟨a⟩, .tuple ⟨b⟩ => lEq a b
  | .func (.func f) ⟨a⟩ ⟨b⟩, .func (.func g) ⟨c⟩ ⟨d⟩ => Nat.beq f g && lEq a c && lEq b d
  | .map none, .map none => true
  | .map (some a), .map (some b) => Nat.beq a b
  | .nilFunc, .nilFunc => true
  | .nilIface, .nilIface => true
  | _, _ => false
def lEq : List Value → List Value → Bool
  | [], [] => true
  | a :: x, b :: y => vEq a b && lEq x y
  | _, _ => false
end
def aEq (x y : AObj) : Bool := match x, y with
  | .cells c e w, .cells c' e' w' => Nat.beq e e' && boolEq w w' && lEq c c'
  | .map a, .map b => lEq (mapL (·.1) a) (mapL (·.1) b) && lEq (mapL (·.2) a) (mapL (·.2) b)
  | .glob a, .glob b => lEq a b
  | _, _ => false
def sameV (o : Option AObj) (x : AObj) : Bool := match o with
  | some o => aEq o x
  | none => false
def blocksIn (h : T AObj) (l : List (Nat × AObj)) : Bool := List.rec true (fun p _ ih => bo (sameV (h.get p.1) p.2) ih false) l
def hitV (e : Ent) (f : FuncId) (args : List Value) (s : St) : Bool := bo (Nat.beq f e.f) (bo (Nat.beq s.next e.next) (bo (lEq args e.args) (blocksIn s.heap e.blocks) false) false) false
def maskV (n m : Nat) : Nat := Nat.shiftLeft (Nat.sub (Nat.shiftLeft (nat_lit 1) (Nat.sub m n)) (nat_lit 1)) n
def layB (l : List (Nat × AObj)) : T AObj → T AObj := List.rec (fun h => h) (fun p _ ih h => (h.set (Nat.succ p.1) p.1 (some p.2)).now ih) l
def useV (e : Ent) (s : St) : St := match s with
  | ⟨h, _, a, r⟩ => (layB e.made h).now fun h => nowN (Nat.lor (Nat.lor a e.acc) (maskV e.next e.next')) fun a => nowN (Nat.lor r (maskV e.next e.next')) fun r => ⟨h, e.next', a, r⟩
def tabV (tab : List Ent) (f : FuncId) (args : List Value) (s : St) (k : Option (Value × St)) : Option (Value × St) := List.rec k (fun e _ ih => bo (hitV e f args s) (some2 e.val (useV e s)) ih) tab
def callV (E : Env) (X : Ext) (lf : Nat) (tab : List Ent) (n : Nat) : Caller :=
  Nat.rec (fun _ _ _ => none) (fun _ ih f args s => tabV tab f args s <| ob (E.fn.get f) fun fn => match fn.body with
      | none => extV X f args s
      | some c => bo (Nat.beq f X.look) (lookV args s) <| chk (Nat.ble (lenL args) fn.ntmps) <| outOf E fn (codeV E ih lf c (layArgs args (nat_lit 0) .nil) s)) n
def entSt (e : Ent) : St := ⟨layB e.blocks .nil, e.next, nat_lit 0, nat_lit 0⟩
def idsV (n m : Nat) (l : List (Nat × AObj)) : Bool := List.rec true (fun p _ ih => bo (Nat.ble n p.1 && Nat.ble (Nat.succ p.1) m) ih false) l
def checkV (E : Env) (X : Ext) (lf : Nat) (tab : List Ent) (n : Nat) (e : Ent) : Bool :=
  match callV E X lf tab n e.f e.args (entSt e) with
  | none => false
  | some (v, s1) => vEq v e.val && Nat.beq s1.next e.next' && Nat.beq (Nat.lor (Nat.mod s1.acc (Nat.shiftLeft (nat_lit 1) e.next)) e.acc) e.acc && Nat.beq (Nat.mod s1.wr (Nat.shiftLeft (nat_lit 1) e.next)) (nat_lit 0) &&
      blocksIn s1.heap e.made && idsV (nat_lit 0) e.next e.blocks && idsV e.next e.next' e.made
end
end Go.Ev
