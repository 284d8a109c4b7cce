/- An evaluator of the model's code over an abstract heap: what it answers holds of every run (the proofs stand in the texts behind this one). No condition. -/
import GoSem.Step
import Derived.Control
import Derived.KernelRfl
namespace Go.Ev
open Go

inductive T (α : Type) where
  | nil
  | node (v : Option α) (l r : T α)
noncomputable section
def bo {α : Type} (b : Bool) (x y : α) : α := Bool.rec y x b
def ob {α β : Type} (o : Option α) (k : α → Option β) : Option β := Option.rec none k o
def chk {β : Type} (b : Bool) (k : Option β) : Option β := Bool.rec none k b
def T.get {α : Type} (t : T α) : Nat → Option α :=
  T.rec (fun _ => none) (fun v _ _ gl gr n => bo (Nat.beq n (nat_lit 0)) v (bo (Nat.beq (Nat.mod n (nat_lit 2)) (nat_lit 1)) (gl (Nat.div n (nat_lit 2))) (gr (Nat.pred (Nat.div n (nat_lit 2)))))) t
/-- A tree laid out first. -/
def T.now {α β : Type} (t : T α) (k : T α → β) : β := T.rec (k .nil) (fun v l r _ _ => k (.node v l r)) t
def T.set1 {α : Type} (ih : T α → Nat → T α) (v : Option α) (l r : T α) (n : Nat) (x : Option α) : T α :=
  bo (Nat.beq n (nat_lit 0)) (.node x l r) (bo (Nat.beq (Nat.mod n (nat_lit 2)) (nat_lit 1)) ((ih l (Nat.div n (nat_lit 2))).now fun l => .node v l r) ((ih r (Nat.pred (Nat.div n (nat_lit 2)))).now fun r => .node v l r))
def T.set {α : Type} (d : Nat) (t : T α) (n : Nat) (x : Option α) : T α :=
  Nat.rec (fun t _ => t) (fun _ ih t n => T.rec (T.set1 ih none .nil .nil n x) (fun v l r _ _ => T.set1 ih v l r n x) t) d t n
def nowN {β : Type} (n : Nat) (k : Nat → β) : β := Nat.rec (k (nat_lit 0)) (fun m _ => k (Nat.succ m)) n
def nowI {β : Type} (n : Int) (k : Int → β) : β := Int.rec (fun m => nowN m fun m => k (.ofNat m)) (fun m => nowN m fun m => k (.negSucc m)) n
def nowB {β : Type} (b : Bool) (k : Bool → β) : β := Bool.rec (k false) (k true) b
def nowP {β : Type} (a : Option Addr) (k : Option Addr → β) : β := match a with
  | none => k none
  | some ⟨b, o, s⟩ => nowN b fun b => nowN o fun o => k (some ⟨b, o, s⟩)
def nowS {β : Type} (a : Option Addr) (l c : Nat) (k : Value → β) : β := nowP a fun a => nowN l fun l => nowN c fun c => k (.slice a l c)
def nowV {β : Type} (v : Value) (k : Value → β) : β := match v with
  | .bool b => nowB b fun b => k (.bool b)
  | .int j n => nowI n fun n => k (.int j n)
  | .pointer a => nowP a fun a => k (.pointer a)
  | .slice a l c => nowS a l c k
  | .agg ⟨cs⟩ => k (.agg ⟨cs⟩)
  | .tuple ⟨cs⟩ => k (.tuple ⟨cs⟩)
  | .string ⟨⟨cs⟩⟩ => k (.string ⟨⟨cs⟩⟩)
  | v => k v

inductive AObj where
  | cells (c : List Value) (elem : TypeId) (wide : Bool)
  | map (es : List (Value × Value))
  | siter (z : List UInt8) (p : Nat)
  | miter (m : Nat)
  | glob (c : List Value)

structure St where
  heap : T AObj
  next : Nat
  acc : Nat
  wr : Nat

def unk : Nat := 4611686018427387904
def bit (b : Nat) : Nat := Nat.shiftLeft (nat_lit 1) b
def St.look (s : St) (b : Nat) : Option AObj := s.heap.get b
def St.read (s : St) (b : Nat) : St := match s with
  | ⟨h, n, a, r⟩ => nowN (Nat.lor a (bit b)) fun a => ⟨h, n, a, r⟩
def St.put (s : St) (b : Nat) (o : Option AObj) : St := match s with
  | ⟨h, n, a, r⟩ => (h.set (Nat.succ b) b o).now fun h => nowN (Nat.lor a (bit b)) fun a => nowN (Nat.lor r (bit b)) fun r => ⟨h, n, a, r⟩
def St.new (s : St) (o : AObj) : St := match s with
  | ⟨h, n, a, r⟩ => (h.set (Nat.succ n) n (some o)).now fun h => nowN (Nat.lor a (bit n)) fun a => nowN (Nat.lor r (bit n)) fun r => nowN (Nat.succ n) fun n => ⟨h, n, a, r⟩
def cellsOf (o : AObj) : Option (List Value × TypeId × Bool) := match o with
  | .cells c e w => some (c, e, w)
  | _ => none
def mapOf (o : AObj) : Option (List (Value × Value)) := match o with
  | .map es => some es
  | _ => none
/-- A row of cells, read. -/
def St.row {β : Type} (s : St) (b : Nat) (k : List Value → TypeId → Bool → St → Option β) : Option β :=
  ob (s.look b) fun o => match o with
    | .cells c e w => k c e w (s.read b)
    | _ => none

/-- Cells of a row, or of a variable's block, that are only read. -/
def St.rowG {β : Type} (s : St) (b : Nat) (k : List Value → St → Option β) : Option β :=
  ob (s.look b) fun o => match o with
    | .cells c _ _ => k c (s.read b)
    | .glob c => k c (s.read b)
    | _ => none

structure Env where
  fn : T Func
  ty : T TypeInfo
  bld : TypeId
  eqs : List (TypeId × List Nat)
variable (E : Env)
def und1 (i : TypeInfo) : Option TypeDesc := match i.desc with
  | .named _ u => ob (E.ty.get u) fun i => some i.desc
  | d => some d
def und (t : TypeId) : Option TypeDesc := ob (E.ty.get t) (und1 E)
def size (t : TypeId) : Option Nat := ob (E.ty.get t) fun i => some i.size
def aggD (d : TypeDesc) : Bool := match d with
  | .struct _ => true
  | .array .. => true
  | _ => false
def zero (t : TypeId) : Option Value := ob (E.ty.get t) (·.zero)

def takeN (n : Nat) : List Value → Option (List Value) :=
  Nat.rec (fun _ => some []) (fun _ ih l => match l with
    | [] => none
    | x :: xs => ob (ih xs) fun r => some (x :: r)) n
def dropN (n : Nat) : List Value → List Value := Nat.rec (fun l => l) (fun _ ih l => match l with
    | [] => []
    | _ :: xs => ih xs) n
def putN (vs : List Value) : List Value → Option (List Value) :=
  List.rec (fun l => some l) (fun v _ ih l => match l with
    | [] => none
    | _ :: xs => ob (ih xs) fun r => some (v :: r)) vs
def putAt (n : Nat) (vs : List Value) : List Value → Option (List Value) :=
  Nat.rec (putN vs) (fun _ ih l => match l with
    | [] => none
    | x :: xs => ob (ih xs) fun r => some (x :: r)) n
def flat (v : Value) : Bool := match v with
  | .agg _ => false
  | .tuple _ => false
  | _ => true
def flats (l : List Value) : Bool := List.rec true (fun v _ ih => bo (flat v) ih false) l
def lenL {α : Type} (l : List α) : Nat := List.rec (nat_lit 0) (fun _ _ ih => Nat.succ ih) l
def nthL {α : Type} (l : List α) : Nat → Option α := List.rec (fun _ => none) (fun x _ ih n => Nat.rec (some x) (fun m _ => ih m) n) l
def cellsL (v : Value) : List Value := match v with
  | .agg ⟨cs⟩ => cs
  | v => [v]

def loadV (s : St) (t : TypeId) (b off : Nat) : Option (Value × St) :=
  s.rowG b fun c s => ob (und E t) fun d => bo (aggD d)
    (ob (size E t) fun n => ob (takeN n (dropN off c)) fun cs => some (.agg ⟨cs⟩, s))
    (ob (nthL c off) fun v => some (v, s))
def storeV (s : St) (t : TypeId) (b off : Nat) (v : Value) : Option (Value × St) :=
  s.row b fun c e w s => ob (size E t) fun n => chk (Nat.beq (lenL (cellsL v)) n) <| chk (flats (cellsL v)) <|
    ob (putAt off (cellsL v) c) fun cs => some (.tuple ⟨[]⟩, s.put b (some (.cells cs e w)))
def atP {β : Type} (v : Value) (k : Nat → Nat → Option β) : Option β := match v with
  | .pointer (some ⟨b, o, none⟩) => k b o
  | _ => none

def iLt (x y : Int) : Bool := match x, y with
  | .ofNat a, .ofNat b => Nat.ble (Nat.succ a) b
  | .ofNat _, .negSucc _ => false
  | .negSucc _, .ofNat _ => true
  | .negSucc a, .negSucc b => Nat.ble (Nat.succ b) a
def iEq (x y : Int) : Bool := match x, y with
  | .ofNat a, .ofNat b => Nat.beq a b
  | .negSucc a, .negSucc b => Nat.beq a b
  | _, _ => false
def half (k : IntKind) : Nat := match k with
  | .i8 => 128 | .u8 => 128
  | .i16 => 32768 | .u16 => 32768
  | .i32 => 2147483648 | .u32 => 2147483648
  | .i64 => 9223372036854775808 | .u64 => 9223372036854775808
def wrapV (k : IntKind) (n : Int) : Int := match n with
  | .ofNat m => bo (Nat.ble (Nat.succ m) (half k)) (.ofNat m) (k.wrap (.ofNat m))
  | .negSucc m => k.wrap (.negSucc m)
def kindN (k : IntKind) : Nat := match k with
  | .i8 => nat_lit 0 | .u8 => nat_lit 1 | .i16 => nat_lit 2 | .u16 => nat_lit 3 | .i32 => nat_lit 4 | .u32 => nat_lit 5 | .i64 => nat_lit 6 | .u64 => nat_lit 7
def kindEq (k j : IntKind) : Bool := Nat.beq (kindN k) (kindN j)
def bytesEq (x : List UInt8) : List UInt8 → Bool := List.rec (fun y => match y with
    | [] => true
    | _ :: _ => false) (fun a _ ih y => match y with
    | [] => false
    | b :: y => bo (Nat.beq a.toNat b.toNat) (ih y) false) x
def bytesLt (x : List UInt8) : List UInt8 → Bool := List.rec (fun y => match y with
    | [] => false
    | _ :: _ => true) (fun a _ ih y => match y with
    | [] => false
    | b :: y => bo (Nat.ble (Nat.succ a.toNat) b.toNat) true (bo (Nat.beq a.toNat b.toNat) (ih y) false)) x

def eqV (d : TypeDesc) (x y : Value) : Option Bool := match d, x, y with
  | .bool, .bool a, .bool b => some (a == b)
  | .pointer _, .pointer none, .pointer b => some (Option.isNone b)
  | .pointer _, .pointer (some _), .pointer none => some false
  | .pointer t, .pointer (some ⟨b, o, none⟩), .pointer (some ⟨b', o', none⟩) => ob (size E t) fun _ => chk (Nat.beq b b' && Nat.beq o o') (some true)
  | .slice _, .slice none _ _, .slice b _ _ => some (Option.isNone b)
  | .slice _, .slice (some _) _ _, .slice none _ _ => some false
  | .func .., .nilFunc, .nilFunc => some true
  | .func .., .nilFunc, .func .. => some false
  | .func .., .func .., .nilFunc => some false
  | _, _, _ => none
def some2 {β : Type} (v : Value) (s : β) : Option (Value × β) := some (v, s)
def xorV (k : IntKind) (a b : Int) : Option Value := match k, a, b with
  | .u8, .ofNat a, .ofNat b => chk (Nat.ble (Nat.succ a) (nat_lit 256) && Nat.ble (Nat.succ b) (nat_lit 256)) (some (.int .u8 (.ofNat (Nat.xor a b))))
  | _, _, _ => none
def intOp (op : BinOp) (k : IntKind) (a b : Int) : Option Value := match op with
  | .add => some (.int k (wrapV k (Int.add a b)))
  | .sub => some (.int k (wrapV k (Int.sub a b)))
  | .mul => some (.int k (wrapV k (Int.mul a b)))
  | .quo => bo (iEq b (.ofNat (nat_lit 0))) none (some (.int k (wrapV k (a.tdiv b))))
  | .rem => bo (iEq b (.ofNat (nat_lit 0))) none (some (.int k (a.tmod b)))
  | .eql => some (.bool (iEq a b))
  | .neq => some (.bool !(iEq a b))
  | .lss => some (.bool (iLt a b))
  | .leq => some (.bool !(iLt b a))
  | .gtr => some (.bool (iLt b a))
  | .geq => some (.bool !(iLt a b))
  | .xor => xorV k a b
  | _ => none
def strOp (op : BinOp) (a b : List UInt8) : Option Value := match op with
  | .add => chk (Nat.ble (Nat.add (lenL a) (lenL b)) (nat_lit 1000000000)) (some (.string ⟨⟨a ++ b⟩⟩))
  | .eql => some (.bool (bytesEq a b))
  | .neq => some (.bool !(bytesEq a b))
  | .lss => some (.bool (bytesLt a b))
  | .geq => some (.bool !(bytesLt a b))
  | _ => none
def eqOp (op : BinOp) (r : Option Bool) : Option Value := match op with
  | .eql => ob r fun b => some (.bool b)
  | .neq => ob r fun b => some (.bool !b)
  | _ => none
/-- Two rows of whole numbers of 64 bits, texts and truth values. -/
def cellEq (x y : Value) : Option Bool := match x, y with
  | .int .i64 a, .int .i64 b => some (iEq a b)
  | .string ⟨⟨a⟩⟩, .string ⟨⟨b⟩⟩ => some (bytesEq a b)
  | .bool a, .bool b => some (bo a b (!b))
  | _, _ => none
def cellsEq (xs : List Value) : List Value → Option Bool := List.rec (fun ys => match ys with
    | [] => some true
    | _ :: _ => none) (fun x _ ih ys => match ys with
    | [] => none
    | y :: ys => ob (cellEq x y) fun e => ob (ih ys) fun r => some (bo e r false)) xs
def kindC (v : Value) : Nat := match v with
  | .int .i64 _ => nat_lit 0
  | .string _ => nat_lit 1
  | .bool _ => nat_lit 2
  | _ => nat_lit 3
def kindsOk (xs : List Value) : List Nat → Bool := List.rec (fun ks => match ks with
    | [] => true
    | _ :: _ => false) (fun v _ ih ks => match ks with
    | [] => false
    | k :: ks => bo (Nat.beq (kindC v) k) (bo (Nat.ble k (nat_lit 2)) (ih ks) false) false) xs
def eqOk (t : TypeId) (xs : List Value) (l : List (TypeId × List Nat)) : Bool := List.rec false (fun p _ ih => bo (bo (Nat.beq t p.1) (kindsOk xs p.2) false) true ih) l
def isC (x : Operand) : Bool := match x with
  | .const _ => true
  | _ => false
def isIface (d : TypeDesc) : Bool := match d with
  | .interface _ => true
  | _ => false
def minN (a b : Nat) : Nat := bo (Nat.ble a b) a b
def bitsN (k : IntKind) : Nat := match k with
  | .i8 => nat_lit 8 | .u8 => nat_lit 8 | .i16 => nat_lit 16 | .u16 => nat_lit 16 | .i32 => nat_lit 32 | .u32 => nat_lit 32 | .i64 => nat_lit 64 | .u64 => nat_lit 64
def isSh (op : BinOp) : Bool := match op with
  | .shl => true
  | .shr => true
  | _ => false
def shV (op : BinOp) (k : IntKind) (a b : Int) : Option Value := match op, a, b with
  | .shr, .ofNat a, .ofNat b => some (.int k (.ofNat (Nat.shiftRight a (minN b (bitsN k)))))
  | .shl, .ofNat a, .ofNat b => some (.int k (wrapV k (.ofNat (Nat.shiftLeft a (minN b (bitsN k))))))
  | _, _, _ => none
def binV (op : BinOp) (t : TypeId) (c : Bool) (x y : Value) : Option Value := match x, y with
  | .int k a, .int k' b => bo (isSh op) (shV op k a b) (bo (kindEq k k') (intOp op k a b) none)
  | .string ⟨⟨a⟩⟩, .string ⟨⟨b⟩⟩ => strOp op a b
  | .nilIface, .nilIface => chk c <| ob (und E t) fun d => chk (isIface d) <| eqOp op (some true)
  | .agg ⟨xs⟩, .agg ⟨ys⟩ => chk (eqOk t xs E.eqs) <| eqOp op (cellsEq xs ys)
  | x, y => ob (und E t) fun d => eqOp op (eqV E d x y)

def natUpTo (v : Value) (y : Nat) : Option Nat := match v with
  | .int _ (.ofNat i) => bo (Nat.ble i y) (some i) none
  | _ => none
def hiV (len m : Nat) (hi mx : Option Value) : Option Nat := match hi, mx with
  | some v, _ => natUpTo v m
  | none, none => some len
  | none, some _ => none
def upTo (v : Option Value) (y z : Nat) : Option Nat := match v with
  | some v => natUpTo v y
  | none => some z
def bounds {β : Type} (len cap : Nat) (lo hi mx : Option Value) (k : Nat → Nat → Nat → Option β) : Option β :=
  ob (upTo mx cap cap) fun m => ob (hiV len m hi mx) fun h => ob (upTo lo h (nat_lit 0)) fun l => k l h m
def takeL {α : Type} (n : Nat) : List α → List α := Nat.rec (fun _ => []) (fun _ ih l => match l with
    | [] => []
    | x :: xs => x :: ih xs) n
def dropL {α : Type} (n : Nat) : List α → List α := Nat.rec (fun l => l) (fun _ ih l => match l with
    | [] => []
    | _ :: xs => ih xs) n
def moveP (a : Option Addr) (n : Nat) : Option Addr := match a with
  | none => none
  | some ⟨b, o, s⟩ => bo (Nat.beq n (nat_lit 0)) (some ⟨b, o, s⟩) (some ⟨b, Nat.add o n, none⟩)
def isNo {α : Type} (o : Option α) : Bool := match o with
  | none => true
  | some _ => false
def sliceStr (z : List UInt8) (lo hi mx : Option Value) : Option Value :=
  chk (isNo mx) <| bounds (lenL z) (lenL z) lo hi none fun l h _ => some (.string ⟨⟨takeL (Nat.sub h l) (dropL l z)⟩⟩)
def sliceKnown (sz : Nat) (a : Option Addr) (len cap : Nat) (lo hi mx : Option Value) : Option Value :=
  bounds len cap lo hi mx fun l h m => some (.slice (bo (Nat.beq m l) a (moveP a (Nat.mul l sz))) (Nat.sub h l) (Nat.sub m l))
def sliceUnk (elem : TypeId) (sz : Nat) (a : Option Addr) (len cap : Nat) (lo hi mx : Option Value) (s : St) : Option (Value × St) := match a with
  | some ⟨b, o, none⟩ => s.row b fun c e w s => chk (w && Nat.beq e elem && Nat.beq o (Nat.mul (Nat.sub cap unk) sz) && Nat.ble (Nat.add o (Nat.mul len sz)) (lenL c)) <| match mx with
    | none => bounds len len lo hi none fun l h _ => chk (Nat.beq l (nat_lit 0) || Nat.ble (Nat.succ l) h) <| some2 (.slice (some ⟨b, Nat.add o (Nat.mul l sz), none⟩) (Nat.sub h l) (Nat.add cap l)) s
    | some mx => chk (Nat.ble (Nat.succ len) unk) <| ob (sliceKnown sz (some ⟨b, o, none⟩) len len lo hi (some mx)) fun v => some2 v s
  | _ => none
/-- 's[:0]': whatever is known of the row. -/
def zeroHi (lo hi mx : Option Value) : Bool := match lo, hi, mx with
  | none, some (.int _ (.ofNat 0)), none => true
  | _, _, _ => false
def sliceZero (a : Option Addr) (cap : Nat) (s : St) : Option (Value × St) := match a with
  | some ⟨b, o, none⟩ => some2 (.slice (some ⟨b, o, none⟩) (nat_lit 0) cap) s
  | _ => none
def sliceV (s : St) (t : TypeId) (x : Value) (lo hi mx : Option Value) : Option (Value × St) :=
  ob (und E t) fun d => match d, x with
    | .string, .string ⟨⟨z⟩⟩ => ob (sliceStr z lo hi mx) fun v => some2 v s
    | .slice elem, .slice a len cap => ob (size E elem) fun sz => bo (Nat.ble unk cap) (bo (zeroHi lo hi mx) (sliceZero a cap s) (sliceUnk elem sz a len cap lo hi mx s)) (ob (sliceKnown sz a len cap lo hi mx) fun v => some2 v s)
    | .array n elem, .pointer (some ⟨b, o, none⟩) => ob (size E elem) fun sz => chk (Nat.ble (Nat.succ n) unk) <| ob (sliceKnown sz (some ⟨b, o, none⟩) n n lo hi mx) fun v => some2 v s
    | _, _ => none

def strCells (l : List UInt8) : List Value := List.rec [] (fun c _ ih => .int .u8 (.ofNat c.toNat) :: ih) l
/-- The cells of what is appended or copied. -/
def srcV {β : Type} (s : St) (sz : Nat) (x : Value) (k : Nat → List Value → St → Option β) : Option β := match x with
  | .string ⟨⟨z⟩⟩ => chk (Nat.beq sz (nat_lit 1)) <| k (lenL z) (strCells z) s
  | .slice none n _ => chk (Nat.beq n (nat_lit 0)) <| k (nat_lit 0) [] s
  | .slice (some ⟨b, o, none⟩) n _ => s.row b fun c _ _ s => ob (takeN (Nat.mul n sz) (dropN o c)) fun cs => k n cs s
  | _ => none
def isInt (d : TypeDesc) : Bool := match d with
  | .int _ => true
  | _ => false
def elemOf {β : Type} (t : Option TypeId) (k : TypeId → Option β) : Option β := ob t fun t => ob (und E t) fun d => match d with
  | .slice e => k e
  | _ => none
def freshSlice (s : St) (len : Nat) : Value := .slice (some ⟨s.next, nat_lit 0, none⟩) len unk
def appendTo (elem : TypeId) (sz : Nat) (base : Option Addr) (len cap n : Nat) (new : List Value) (s : St) : Option (Value × St) := match base with
  | none => chk (Nat.beq len (nat_lit 0) && Nat.beq cap (nat_lit 0)) <| bo (Nat.beq n (nat_lit 0)) (some2 (.slice none (nat_lit 0) (nat_lit 0)) s) <| some2 (freshSlice s n) (s.new (.cells new elem true))
  | some ⟨b, o, none⟩ => s.row b fun c e w s => bo (Nat.ble unk cap)
    (chk (w && Nat.beq e elem && Nat.beq cap unk && Nat.beq o (nat_lit 0) && Nat.beq (lenL c) (Nat.mul len sz)) <| bo (Nat.beq n (nat_lit 0)) (some2 (.slice (some ⟨b, o, none⟩) len cap) s) <|
      (fun s : St => some2 (freshSlice s (Nat.add len n)) (s.new (.cells (c ++ new) elem true))) (s.put b none))
    (bo (Nat.ble (Nat.add len n) cap)
      (bo (Nat.beq n (nat_lit 0)) (some2 (.slice (some ⟨b, o, none⟩) len cap) s) <|
        ob (putAt (Nat.add o (Nat.mul len sz)) new c) fun cs => some2 (.slice (some ⟨b, o, none⟩) (Nat.add len n) cap) (s.put b (some (.cells cs e w))))
      (ob (takeN (Nat.mul len sz) (dropN o c)) fun old => some2 (freshSlice s (Nat.add len n)) (s.new (.cells (old ++ new) elem true))))
  | _ => none
def appendV (s : St) (argTypes : List TypeId) (b x : Value) : Option (Value × St) :=
  elemOf E (nthL argTypes (nat_lit 0)) fun elem => ob (nthL argTypes (nat_lit 1)) fun xt => ob (und E xt) fun xd => chk (!isInt xd) <| ob (E.ty.get elem) fun i => ob i.zero fun z =>
    chk (Nat.ble (nat_lit 1) i.size && Nat.ble i.bytes (nat_lit 1000000) && Nat.beq (lenL (cellsL z)) i.size) <|
    srcV s i.size x fun n new s => chk (Nat.beq (lenL new) (Nat.mul n i.size)) <| chk (flats new) <| match b with
      | .slice base len cap => chk (Nat.ble (Nat.add len n) (nat_lit 1000000)) <| appendTo elem i.size base len cap n new s
      | _ => none

def byteL (l : List Value) : Option (List UInt8) := List.rec (some []) (fun v _ ih => match v with
    | .int .u8 (.ofNat k) => chk (Nat.ble (Nat.succ k) (nat_lit 256)) <| ob ih fun r => some (UInt8.ofNat k :: r)
    | _ => none) l
def isByte (d : TypeDesc) : Bool := match d with
  | .int .u8 => true
  | _ => false
def bytesV (s : St) (a : Option Addr) (n : Nat) : Option (Value × St) := match a with
  | none => some2 (.string ⟨⟨[]⟩⟩) s
  | some ⟨b, o, none⟩ => s.row b fun c _ _ s => ob (takeN n (dropN o c)) fun l => ob (byteL l) fun bs => some2 (.string ⟨⟨bs⟩⟩) s
  | _ => none
def convV (s : St) (src dst : TypeId) (x : Value) : Option (Value × St) :=
  ob (und E src) fun ds => ob (und E dst) fun dd => match ds, dd, x with
  | .int _, .int k, .int _ n => some2 (.int k (wrapV k n)) s
  | .slice e, .string, .slice a n _ => ob (und E e) fun d => chk (isByte d) <| bytesV s a n
  | .pointer t, .unsafePointer, .pointer (some ⟨b, 0, none⟩) => s.row b fun c _ w s => ob (size E t) fun sz => chk (!w && Nat.ble (nat_lit 1) (lenL c) && Nat.ble (nat_lit 1) sz) <| some2 (.pointer (some ⟨b, 0, none⟩)) s
  | .unsafePointer, .pointer u, .pointer (some ⟨b, 0, none⟩) => s.row b fun c e w s => ob (size E u) fun _ => chk (!w && Nat.beq (lenL c) (nat_lit 2) && Nat.beq e E.bld && Nat.beq u E.bld) <| some2 (.pointer (some ⟨b, 0, none⟩)) s
  | .string, .slice e, .string ⟨⟨z⟩⟩ => ob (und E e) fun d => chk (isByte d) <| ob (size E e) fun sz => chk (Nat.beq sz (nat_lit 1) && Nat.ble (lenL z) (nat_lit 1000000)) <| some2 (freshSlice s (lenL z)) (s.new (.cells (strCells z) e false))
  | _, _, _ => none

def lenV (t : TypeId) (x : Value) : Option Value := ob (und E t) fun d => match d, x with
  | .string, .string ⟨⟨z⟩⟩ => some (.int .i64 (.ofNat (lenL z)))
  | .slice _, .slice _ n _ => some (.int .i64 (.ofNat n))
  | _, _ => none

def places (fs : List Field) : Option (List (Nat × Nat)) := List.rec (some []) (fun f _ ih => ob (size E f.type) fun sz => ob ih fun r => some ((f.offset, sz) :: r)) fs
def evParts (ev : Operand → Value) (l : List (Nat × Operand)) : List (Nat × Value) := List.rec [] (fun p _ ih => (p.1, ev p.2) :: ih) l
/-- The parts laid into the cells, each at its place. -/
def fillV (place : Nat → Option (Nat × Nat)) (l : List (Nat × Value)) : List Value → Option (List Value) :=
  List.rec (fun cells => some cells) (fun p _ ih cells => ob (place p.1) fun q => chk (Nat.beq (lenL (cellsL p.2)) q.2) <| ob (putAt q.1 (cellsL p.2) cells) fun cs => ih cs) l
def repV (zs : List Value) (n : Nat) : List Value := Nat.rec [] (fun _ ih => zs ++ ih) n
def rowPlace (sz : Nat) (i : Nat) : Option (Nat × Nat) := some (Nat.mul i sz, sz)

def keyEq (x y : Value) : Option Bool := match x, y with
  | .agg ⟨xs⟩, .agg ⟨ys⟩ => cellsEq xs ys
  | .int k a, .int k' b => chk (kindEq k k') <| some (iEq a b)
  | .string ⟨⟨a⟩⟩, .string ⟨⟨b⟩⟩ => some (bytesEq a b)
  | _, _ => none
def findV (k : Value) (l : List (Value × Value)) : Option (Option Value) :=
  List.rec (some none) (fun p _ ih => ob (keyEq k p.1) fun b => bo b (some (some p.2)) ih) l
def keyT (kt : TypeId) (d : TypeDesc) (k : Value) : Bool := match d, k with
  | .struct _, .agg ⟨cs⟩ => eqOk kt cs E.eqs
  | .array _ _, .agg ⟨cs⟩ => eqOk kt cs E.eqs
  | .int _, .int _ _ => true
  | .string, .string _ => true
  | _, _ => false

def delL (k : Value) (l : List (Value × Value)) : Option (List (Value × Value)) :=
  List.rec (some []) (fun p r ih => ob (keyEq k p.1) fun b => bo b (some r) (ob ih fun r => some (p :: r))) l
def setL (k v : Value) (l : List (Value × Value)) : Option (List (Value × Value)) :=
  List.rec (some []) (fun p r ih => ob (keyEq k p.1) fun b => bo b (some ((k, v) :: r)) (ob ih fun r => some (p :: r))) l
def lenMapV (s : St) (t : TypeId) (b : Nat) : Option (Value × St) := ob (und E t) fun d => match d with
  | .map _ _ => ob (s.look b) fun o => ob (mapOf o) fun es => some2 (.int .i64 (.ofNat (lenL es))) (s.read b)
  | _ => none
def capV (t : TypeId) (x : Value) (s : St) : Option (Value × St) := ob (und E t) fun d => match d, x with
  | .slice _, .slice _ _ c => chk (Nat.ble (Nat.succ c) unk) <| some2 (.int .i64 (.ofNat c)) s
  | _, _ => none
def deleteV (s : St) (argTypes : List TypeId) (m k : Value) : Option (Value × St) := ob (nthL argTypes (nat_lit 0)) fun t => ob (und E t) fun d => match d, m with
  | .map kt _, .map (some b) => ob (und E kt) fun kd => chk (keyT E kt kd k) <| ob (s.look b) fun o => ob (mapOf o) fun es => ob (delL k es) fun es => some2 (.tuple ⟨[]⟩) (s.put b (some (.map es)))
  | _, _ => none
def rangeV (s : St) (t : TypeId) (x : Value) : Option (Value × St) := ob (und E t) fun d => match d, x with
  | .string, .string ⟨⟨z⟩⟩ => some2 (.pointer (some ⟨s.next, nat_lit 0, none⟩)) (s.new (.siter z (nat_lit 0)))
  | .map _ _, .map (some b) => ob (s.look b) fun o => ob (mapOf o) fun _ => (fun s : St => some2 (.pointer (some ⟨s.next, nat_lit 0, none⟩)) (s.new (.miter b))) (s.read b)
  | _, _ => none
def nextS (s : St) (b : Nat) (z : List UInt8) (p : Nat) : Option (Value × St) := match nthL z p with
  | none => some2 (.tuple ⟨[.bool false]⟩) (s.read b)
  | some c => chk (Nat.ble (Nat.succ c.toNat) (nat_lit 128)) <| some2 (.tuple ⟨[.bool true, .int .i64 (.ofNat p), .int .i32 (.ofNat c.toNat)]⟩) (s.put b (some (.siter z (Nat.succ p))))
def nextM (s : St) (b m : Nat) : Option (Value × St) := ob (s.look m) fun o => ob (mapOf o) fun es => match es with
  | [] => some2 (.tuple ⟨[.bool false]⟩) ((s.read b).read m)
  | _ :: _ => none
def nextV (s : St) (x : Value) (str : Bool) : Option (Value × St) := match x with
  | .pointer (some ⟨b, 0, none⟩) => ob (s.look b) fun o => match o with
    | .siter z p => chk str <| nextS s b z p
    | .miter m => chk (!str) <| nextM s b m
    | _ => none
  | _ => none
def minV (x y : Value) (s : St) : Option (Value × St) := match x, y with
  | .int k a, .int k' b => chk (kindEq k k') <| some2 (.int k (bo (iLt b a) b a)) s
  | _, _ => none
def maxV (x y : Value) (s : St) : Option (Value × St) := match x, y with
  | .int k a, .int k' b => chk (kindEq k k') <| some2 (.int k (bo (iLt a b) b a)) s
  | _, _ => none
def sliceDataV (x : Value) (s : St) : Option (Value × St) := match x with
  | .slice (some ⟨b, 0, none⟩) _ cap => chk (Nat.beq cap unk) <| s.row b fun c _ w s => chk (w && Nat.ble (nat_lit 1) (lenL c)) <| some2 (.pointer (some ⟨b, 0, none⟩)) s
  | _ => none
def copyTo (sz : Nat) (b o n k : Nat) (new : List Value) (s : St) : Option (Value × St) :=
  chk (flats new) <| ob (takeN (Nat.mul (minN k n) sz) new) fun new => s.row b fun c e w s => ob (putAt o new c) fun cs => some2 (.int .i64 (.ofNat (minN k n))) (s.put b (some (.cells cs e w)))
def copyV (s : St) (argTypes : List TypeId) (x y : Value) : Option (Value × St) := match x with
  | .slice (some ⟨b, o, none⟩) n _ => elemOf E (nthL argTypes (nat_lit 0)) fun e => ob (size E e) fun sz => srcV s sz y fun k new s => copyTo sz b o n k new s
  | _ => none
def unsafeStringV (ts : List TypeId) (x y : Value) (s : St) : Option (Value × St) := match ts, x, y with
  | [pt, _], .pointer (some ⟨b, 0, none⟩), .int .i64 (.ofNat n) => s.row b fun c e _ s => ob (und E pt) fun d => match d with
    | .pointer e' => ob (size E e') fun sz => chk (Nat.beq e e' && Nat.beq sz (nat_lit 1) && Nat.ble (nat_lit 1) n && Nat.ble n (nat_lit 1000000)) <| ob (takeN n c) fun l => ob (byteL l) fun bs => some2 (.string ⟨⟨bs⟩⟩) (s.put b none)
    | _ => none
  | _, _, _ => none
def builtin1 (s : St) (b : Builtin) (argTypes : List TypeId) (x : Value) : Option (Value × St) := match b with
  | .len => ob (nthL argTypes (nat_lit 0)) fun t => match x with
    | .map (some b) => lenMapV E s t b
    | x => ob (lenV E t x) fun v => some2 v s
  | .cap => ob (nthL argTypes (nat_lit 0)) fun t => capV E t x s
  | .unsafeSliceData => sliceDataV x s
  | _ => none
def builtin2 (s : St) (b : Builtin) (argTypes : List TypeId) (x y : Value) : Option (Value × St) := match b with
  | .append => appendV E s argTypes x y
  | .max => maxV x y s
  | .min => minV x y s
  | .delete => deleteV E s argTypes x y
  | .copy => copyV E s argTypes x y
  | .unsafeString => unsafeStringV E argTypes x y s
  | _ => none
def mapL {α β : Type} (f : α → β) (l : List α) : List β := List.rec [] (fun x _ ih => f x :: ih) l
def builtinV (ev : Operand → Value) (s : St) (b : Builtin) (argTypes : List TypeId) (args : List Operand) : Option (Value × St) := match args with
  | [x] => builtin1 E s b argTypes (ev x)
  | [x, y] => builtin2 E s b argTypes (ev x) (ev y)
  | _ => none

def pickV (c : Value) (a b : Value) (s : St) : Option (Value × St) := match c with
  | .bool c => bo c (some2 a s) (some2 b s)
  | _ => none
def newV (s : St) (l : List Value) (t : TypeId) : Option (Value × St) := some2 (.pointer (some ⟨s.next, nat_lit 0, none⟩)) (s.new (.cells l t false))
def allocV (s : St) (t : TypeId) : Option (Value × St) := ob (zero E t) fun z => newV s (cellsL z) t
def buildV (ev : Operand → Value) (s : St) (t : TypeId) (parts : List (Nat × Operand)) : Option (Value × St) :=
  ob (zero E t) fun z => ob (und E t) fun d => match d with
    | .struct ⟨fs⟩ => ob (places E fs) fun pl => ob (fillV (nthL pl) (evParts ev parts) (cellsL z)) fun cs => some2 (.agg ⟨cs⟩) s
    | .array _ e => ob (size E e) fun sz => ob (fillV (rowPlace sz) (evParts ev parts) (cellsL z)) fun cs => some2 (.agg ⟨cs⟩) s
    | _ => none
def buildSliceV (ev : Operand → Value) (s : St) (t : TypeId) (n : Nat) (parts : List (Nat × Operand)) : Option (Value × St) :=
  elemOf E (some t) fun e => ob (size E e) fun sz => ob (zero E e) fun z => chk (Nat.beq (lenL (cellsL z)) sz && Nat.ble (nat_lit 1) sz && Nat.ble (Nat.mul n sz) (nat_lit 16777216)) <|
    ob (fillV (rowPlace sz) (evParts ev parts) (repV (cellsL z) n)) fun cs => some2 (.slice (some ⟨s.next, nat_lit 0, none⟩) n n) (s.new (.cells cs e false))
def nilV (x : Value) (s : St) : Option (Value × St) := match x with
  | .pointer (some a) => some2 (.pointer (some a)) s
  | .func (.func f) a b => some2 (.func (.func f) a b) s
  | _ => none
def unV (op : UnOp) (x : Value) (s : St) : Option (Value × St) := match op, x with
  | .not, .bool b => some2 (.bool !b) s
  | _, _ => none
def lookupV (s : St) (t : TypeId) (m k : Value) (ok : Bool) : Option (Value × St) :=
  ob (und E t) fun d => match d, m with
    | .map kt e, .map (some b) => ob (und E kt) fun kd => chk (keyT E kt kd k) <| ob (zero E e) fun z => ob (s.look b) fun o => ob (mapOf o) fun es => ob (findV k es) fun r => match r with
      | some v => some2 (bo ok (.tuple ⟨[v, .bool true]⟩) v) (s.read b)
      | none => some2 (bo ok (.tuple ⟨[z, .bool false]⟩) z) (s.read b)
    | _, _ => none
def mapUpdateV (s : St) (t : TypeId) (m k v : Value) : Option (Value × St) :=
  ob (und E t) fun d => match d, m with
    | .map kt _, .map (some b) => ob (und E kt) fun kd => chk (keyT E kt kd k) <| ob (s.look b) fun o => ob (mapOf o) fun es => ob (findV k es) fun r => match r with
      | some _ => ob (setL k v es) fun es => some2 (.tuple ⟨[]⟩) (s.put b (some (.map es)))
      | none => some2 (.tuple ⟨[]⟩) (s.put b (some (.map (es ++ [(k, v)]))))
    | _, _ => none
def makeSliceV (s : St) (t : TypeId) (l c : Value) : Option (Value × St) :=
  elemOf E (some t) fun e => ob (E.ty.get e) fun i => ob i.zero fun z => match l, c with
    | .int _ (.ofNat l), .int _ (.ofNat c) => chk (Nat.ble l c && Nat.ble c (nat_lit 1000000) && Nat.ble i.bytes (nat_lit 1000000) && Nat.beq (lenL (cellsL z)) i.size && Nat.ble (nat_lit 1) i.size) <|
      some2 (.slice (some ⟨s.next, nat_lit 0, none⟩) l c) (s.new (.cells (repV (cellsL z) c) e false))
    | _, _ => none
def mapO (ev : Operand → Value) (x : Option Operand) : Option Value := match x with
  | none => none
  | some x => some (ev x)
def fieldAddrV (s : St) (t : TypeId) (x : Value) (i : Nat) : Option (Value × St) :=
  ob (und E t) fun d => match d with
    | .struct ⟨fs⟩ => ob (nthL fs i) fun f => ob (size E f.type) fun sz => chk (Nat.ble (nat_lit 1) sz) <| atP x fun b o => some2 (.pointer (some ⟨b, Nat.add o f.offset, none⟩)) s
    | _ => none
def indexAddrV (s : St) (t : TypeId) (x i : Value) : Option (Value × St) :=
  ob (und E t) fun d => match d, x, i with
    | .array n e, .pointer (some ⟨b, o, none⟩), .int _ (.ofNat i) => chk (Nat.ble (Nat.succ i) n) <| ob (size E e) fun sz => some2 (.pointer (some ⟨b, Nat.add o (Nat.mul i sz), none⟩)) s
    | .slice e, .slice (some ⟨b, o, none⟩) n _, .int _ (.ofNat i) => chk (Nat.ble (Nat.succ i) n) <| ob (size E e) fun sz => some2 (.pointer (some ⟨b, Nat.add o (Nat.mul i sz), none⟩)) s
    | _, _, _ => none
def indexV (s : St) (t : TypeId) (x i : Value) : Option (Value × St) :=
  ob (und E t) fun d => match d, x, i with
    | .string, .string ⟨⟨z⟩⟩, .int _ (.ofNat i) => ob (nthL z i) fun c => some2 (.int .u8 (.ofNat c.toNat)) s
    | _, _, _ => none
def extractV (s : St) (x : Value) (i : Nat) : Option (Value × St) := match x with
  | .tuple ⟨vs⟩ => ob (nthL vs i) fun v => some2 v s
  | _ => none
abbrev Caller := FuncId → List Value → St → Option (Value × St)
def callFV (call : Caller) (f : Value) (args : List Value) (s : St) : Option (Value × St) := match f with
  | .func (.func g) ⟨first⟩ ⟨cap⟩ => call g (first ++ (args ++ cap)) s
  | _ => none
def callV1 (call : Caller) (ev : Operand → Value) (s : St) (c : Call) : Option (Value × St) := match c.callee with
  | .value f => callFV call (ev f) (mapL ev c.args.toList) s
  | .builtin b => builtinV E ev s b c.argTypes.toList c.args.toList
  | _ => none

def opV (call : Caller) (ev : Operand → Value) (s : St) (o : Op) : Option (Value × St) := match o with
  | .move x => some2 (ev x) s
  | .assign x => some2 (ev x) s
  | .pick c a b => pickV (ev c) (ev a) (ev b) s
  | .alloc t => allocV E s t
  | .box t x => newV s (cellsL (ev x)) t
  | .build t ps => buildV E ev s t ps.toList
  | .buildSlice t n ps => buildSliceV E ev s t n ps.toList
  | .load t a => atP (ev a) fun b o => loadV E s t b o
  | .store t a x => atP (ev a) fun b o => storeV E s t b o (ev x)
  | .nilCheck x => nilV (ev x) s
  | .binOp op t x y _ => ob (binV E op t (isC x || isC y) (ev x) (ev y)) fun v => some2 v s
  | .unOp op _ x => unV op (ev x) s
  | .convert a b x => convV E s a b (ev x)
  | .makeFunc fn f c => some2 (.func fn ⟨mapL ev f.toList⟩ ⟨mapL ev c.toList⟩) s
  | .makeMap _ none => some2 (.map (some s.next)) (s.new (.map []))
  | .lookup t m k ok => lookupV E s t (ev m) (ev k) ok
  | .mapUpdate t m k v => mapUpdateV E s t (ev m) (ev k) (ev v)
  | .makeSlice t l c => makeSliceV E s t (ev l) (ev c)
  | .slice t x lo hi mx => sliceV E s t (ev x) (mapO ev lo) (mapO ev hi) (mapO ev mx)
  | .fieldAddr t x i => fieldAddrV E s t (ev x) i
  | .indexAddr t x i => indexAddrV E s t (ev x) (ev i)
  | .index t x i => indexV E s t (ev x) (ev i)
  | .extract x i => extractV s (ev x) i
  | .range t x => rangeV E s t (ev x)
  | .next x str => nextV s (ev x) str
  | .call c => callV1 E call ev s c
  | _ => none

inductive Ex where | normal | exit (id : Nat) | ret
abbrev Tm := T Value
def valOr (o : Option Value) : Value := Option.rec (.tuple ⟨[]⟩) (fun v => v) o
def evOp (tm : Tm) (x : Operand) : Value := match x with
  | .tmp t => valOr (tm.get t)
  | .const v => v
  | .global g => .pointer (some ⟨g, nat_lit 0, none⟩)
  | .func f => .func (.func f) #[] #[]
def Tm.put {β : Type} (tm : Tm) (d : Option Tmp) (v : Value) (k : Tm → β) : β := match d with
  | some d => nowV v fun v => (tm.set (Nat.succ d) d (some v)).now k
  | none => k tm

def guardV (v : Option Value) (want : Bool) : Bool := match v with
  | some (.bool b) => bo b want (!want)
  | _ => false
def dstOf (ops : List Oper) (j : Nat) : Option Tmp := ob (nthL ops j) (·.dst)
def wantedV (ops : List Oper) (tm : Tm) (g : Option (Nat × Bool)) : Bool := match g with
  | none => true
  | some (j, want) => guardV (ob (dstOf ops j) fun d => tm.get d) want

abbrev R3 := Option (Tm × St)
/-- One after the other. -/
def seqV (call : Caller) (ops : List Oper) (l : List Oper) : Tm → St → Option (Tm × St) :=
  List.rec (fun tm s => some (tm, s)) (fun o _ ih tm s =>
    bo (wantedV ops tm o.guard) (ob (opV E call (evOp tm) s o.op) fun p => match p with
        | (v, s) => tm.put o.dst v fun tm => ih tm s)
      (tm.put o.dst (.tuple ⟨[]⟩) fun tm => ih tm s)) l

structure Seen where
  i : Nat
  acc : Nat
  wr : Nat
def apartV (b a r : Nat) (l : List Seen) : Bool := List.rec true (fun x _ ih => bo (bo (Nat.beq (Nat.land x.wr a) (nat_lit 0)) (Nat.beq (Nat.land x.acc r) (nat_lit 0)) false || Nat.testBit b x.i) ih false) l
def drawStep (ops : List Oper) (j : Nat) (s s' : St) (seen : List Seen) (k : St → List Seen → R3) : R3 := match s, s' with
  | ⟨_, _, a0, r0⟩, ⟨h, n, a, r⟩ => bo (Nat.beq a (nat_lit 0)) (k ⟨h, n, a0, r0⟩ seen)
    (bo (apartV ((Region.before ⟨ops⟩).getD j 0) a r seen) (nowN (Nat.lor a0 a) fun a0 => nowN (Nat.lor r0 r) fun r0 => k ⟨h, n, a0, r0⟩ (⟨j, a, r⟩ :: seen)) none)
def clearSt (s : St) : St := match s with
  | ⟨h, n, _, _⟩ => ⟨h, n, nat_lit 0, nat_lit 0⟩
/-- One after the other, each with what it looked at and what it wrote. -/
def drawV (call : Caller) (ops : List Oper) (l : List Oper) : Nat → Tm → St → List Seen → Option (Tm × St) :=
  List.rec (fun _ tm s _ => some (tm, s)) (fun o _ ih j tm s seen =>
    bo (wantedV ops tm o.guard) (ob (opV E call (evOp tm) (clearSt s) o.op) fun p => match p with
        | (v, s') => drawStep ops j s s' seen fun s seen => tm.put o.dst v fun tm => ih (Nat.succ j) tm s seen)
      (tm.put o.dst (.tuple ⟨[]⟩) fun tm => ih (Nat.succ j) tm s seen)) l

abbrev R4 := Option (Ex × Tm × St)
def thenV (r : R4) (k : Tm → St → R4) : R4 := ob r fun p => match p with
  | (.normal, tm, s) => k tm s
  | p => some p
def loopV (body : Tm → St → R4) (n : Nat) : Tm → St → R4 := Nat.rec (fun _ _ => none) (fun _ ih tm s => thenV (body tm s) ih) n
def outV (id : Nat) (r : R4) : R4 := ob r fun p => match p with
  | (.exit i, tm, s) => bo (Nat.beq i id) (some (.normal, tm, s)) (some (.exit i, tm, s))
  | p => some p
def normV (r : R3) : R4 := ob r fun p => some (.normal, p)
def condV (c : Value) (a b : R4) : R4 := match c with
  | .bool c => bo c a b
  | _ => none
def regionV (call : Caller) (ops : List Oper) (draw : Bool) (tm : Tm) (s : St) : R4 :=
  bo draw (normV (drawV E call ops ops (nat_lit 0) tm s [])) (normV (seqV E call ops ops tm s))
def codeV (call : Caller) (lf : Nat) (c : Code) : Tm → St → R4 :=
  Code.rec (motive := fun _ => Tm → St → R4) (fun tm s => some (.normal, tm, s)) (fun _ ops draw tm s => regionV E call ops.toList draw tm s) (fun _ _ a b tm s => thenV (a tm s) b) (fun c _ _ a b tm s => condV (evOp tm c) (a tm s) (b tm s))
    (fun id _ a tm s => outV id (a tm s)) (fun _ a tm s => loopV a lf tm s) (fun _ _ _ _ _ _ _ _ => none) (fun id tm s => some (.exit id, tm, s)) (fun _ _ _ _ => none) (fun _ _ _ => none) (fun _ _ _ => none)
    (fun tm s => some (.ret, tm, s)) (fun _ _ _ => none) c

def layArgs (l : List Value) : Nat → Tm → Tm := List.rec (fun _ tm => tm) (fun v _ ih i tm => nowV v fun v => (tm.set (Nat.succ i) i (some v)).now fun tm => ih (Nat.succ i) tm) l
def resV (tm : Tm) (l : List ResultVar) : St → Option (List Value × St) :=
  List.rec (fun s => some ([], s)) (fun r _ ih s => match r with
    | .tmp t => ob (ih s) fun p => some (valOr (tm.get t) :: p.1, p.2)
    | .cell a t => atP (valOr (tm.get a)) fun b o => ob (loadV E s t b o) fun q => ob (ih q.2) fun p => some (q.1 :: p.1, p.2)) l
def oneV (l : List Value) : Value := match l with
  | [v] => v
  | vs => .tuple ⟨vs⟩
def idxV (c : Nat) (l : List UInt8) : Nat → Int := List.rec (fun _ => .negSucc (nat_lit 0)) (fun b _ ih i => bo (Nat.beq b.toNat c) (.ofNat i) (ih (Nat.succ i))) l
/-- Functions with no body: by their numbers. -/
structure Ext where
  noEscape : Nat
  indexByte : Nat
  noZero : Nat
  look : Nat
  byte : Nat
def id1 (args : List Value) : Option Value := match args with
  | [x] => some x
  | _ => none
def index1 (args : List Value) : Option Value := match args with
  | [.string ⟨⟨z⟩⟩, .int .u8 (.ofNat c)] => chk (Nat.ble (Nat.succ c) (nat_lit 256)) <| some (.int .i64 (idxV c z (nat_lit 0)))
  | _ => none
/-- A new row of bytes of which nothing is known. -/
def zeroV (X : Ext) (args : List Value) (s : St) : Option (Value × St) := match args with
  | [.int .i64 (.ofNat n)] => chk (Nat.ble (nat_lit 1) n && Nat.ble n (nat_lit 1000000)) <| some2 (freshSlice s n) (s.new (.cells [] X.byte true))
  | _ => none
/-- A disk's cell, where nothing waits: by its number. -/
def lookV (args : List Value) (s : St) : Option (Value × St) := match args with
  | [.agg ⟨[.slice (some ⟨b, o, none⟩) n _, .slice _ 0 _, _]⟩, .int .i64 (.ofNat i)] => chk (Nat.ble (Nat.succ i) n) <| s.row b fun cs _ _ s => ob (nthL cs (Nat.add o i)) fun v => match v with
    | .string ⟨⟨z⟩⟩ => some2 (.string ⟨⟨z⟩⟩) s
    | _ => none
  | _ => none
def extV (X : Ext) (f : FuncId) (args : List Value) (s : St) : Option (Value × St) :=
  bo (Nat.beq f X.noEscape) (ob (id1 args) fun v => some2 v s) (bo (Nat.beq f X.indexByte) (ob (index1 args) fun v => some2 v s) (bo (Nat.beq f X.noZero) (zeroV X args s) none))
def outOf (fn : Func) (r : R4) : Option (Value × St) := ob r fun p => match p with
  | (.exit _, _, _) => none
  | (_, tm, s) => ob (resV E tm fn.results.toList s) fun p => some (oneV p.1, p.2)
end
end Go.Ev
