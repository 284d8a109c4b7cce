/- Lemmas of the proof. No conditions. -/
import GoSem.Step
import Derived.Control
import Derived.KernelRfl
import Derived.Lib.Builder
import Derived.Laws.CopyRow
import Derived.Laws.Rows
import Derived.Laws.Tables
import Derived.Lib.SmallJoins
import Derived.Great.FillDense
import Derived.Laws.MakeOwn
import Derived.Laws.BytesString
import Derived.Lib.UnsafeStr
import Derived.Orders
set_option maxRecDepth 100000
set_option maxHeartbeats 4000000
set_option linter.unusedVariables false
set_option linter.unusedSimpArgs false
namespace Go
variable{P:Prop}
theorem zah (h:P:=by
 have h1:Nat.mul (Nat.sub cap ew) sz=(cap-ew)*sz:=rfl;have h2:Nat.add o (Nat.mul len sz)=o+len*sz:=rfl;cases wd with
 |true=>
  obtain⟨r7,r8,r9,r10⟩:=r5 rfl;rw[nX hE jd] at r8 r9;refine Vz (c:=sz) ?_ r9;rw[mM,<-r8];omega
 |false=>
  have h3:sz=1:=nR hw;have h4:=(r6 rfl).2;rw[h3,xr] at h1 h2;rw[h3] at ho cX;simp only[Nat.mul_eq,xr] at ho cX h1 h2;omega
 all_goals(rcases _ with h;exact h)):P:=h
theorem zaV (h:P:=by
 obtain⟨h0,h⟩:=VS h;rw[jN] at h0;simp only[sg] at h;subst h;have h1:b≠0:=by simpa using h0
 exact⟨by simp[binOp,Op.intDiv,j2,h1],λρ=>by simp⟩
 all_goals(rcases _ with h;exact h)):P:=h
theorem zaW (h:P:=by
 have:=aH h;simp only[cH] at this;obtain⟨rfl,rfl⟩:=this;exact⟨aG.refl _,λX A ρ w a Q hp gP hx=>wp_pure rfl hp (hx x (by simp[Op.operands]))⟩
 all_goals(rcases _ with h;exact h)):P:=h
theorem za7 (h:P:=by
 obtain⟨x,xs,rfl,hu,V3,SX,V4⟩:=LR.split h1 h2;rw[xE] at h;obtain⟨b,hb,h3⟩:=aD h;have hk:x.key=p.1:=by rw[<-hu.self,yY hb]
 all_goals(rcases _ with h;exact h)):P:=h
theorem zbb (h:P:=by
 induction n with
 |zero=>intro l;show l=l.drop 0;simp
 |succ n ih=>intro l;cases l with
  |nil=>rfl
  |cons x xs=>exact ih xs
 all_goals(rcases _ with h;exact h)):P:=h
theorem zbi (h:P:=by
 refine⟨l.map (cw ρ),by rw[<-h.self];simp,λeK e=>?_⟩;have:=(h eK e).trans h.self.symm;simpa using this
 all_goals(rcases _ with h;exact h)):P:=h
theorem zbl (h:P:=by
 have fY:∀c o2,s.heap.get c=some o2->c≠s.next:=by
  rintro c o2 h rfl;rw[lV _ (cG _)] at h;cases h
 all_goals(rcases _ with h;exact h)):P:=h
end Go
namespace Go
abbrev aM:=Option Addr
abbrev a6:=List Value
theorem ag {P:Prop}(h:P:=by omega):P:=h
theorem cV {P:Prop}(h:P:=by kernel_rfl):P:=h
theorem ay {P:Prop}(h:P:=by simp):P:=h
theorem bJ {P:Prop}(h:P:=by decide):P:=h
theorem aL {P:Prop}(h:P:=by assumption):P:=h
abbrev B7:=@Nat.beq_eq
abbrev Vy:=@Nat.pow_succ
abbrev pB:=@if_false
abbrev ep:=@congrArg
abbrev ke:=@Option.some.inj
abbrev x_5:=@List.take_succ_cons
abbrev yv:=@List.cons_append
abbrev td:=@List.length_map
abbrev wO:=@List.map_cons
abbrev KI:=@List.map_append
abbrev CW:=@List.map_congr_left
abbrev jK:=@List.mem_map
abbrev cG:=@Nat.le_refl
abbrev mf:=@Bool.or_eq_true
abbrev bO:=@Bool.and_eq_true
abbrev bQ:=@decide_eq_true_eq
abbrev wD:=@Nat.eq_zero_or_pos
abbrev gK:=@Nat.le_trans
abbrev lA:=@Nat.lt_or_ge
abbrev xn:=@Nat.lt_of_lt_of_le
abbrev xp:=@Array.getElem?_eq_some_iff
abbrev KJ:=@Option.ne_none_iff_exists'
abbrev IV:=@List.getElem?_take
abbrev gg:=@List.append_nil
abbrev lW:=@List.length_nil
abbrev xq:=@Nat.add_zero
abbrev yD:=@List.take_append_drop
abbrev An:=@Bool.and_eq_false_iff
abbrev mg:=@decide_eq_false_iff_not
abbrev cY:=@List.length_cons
abbrev bL:=@List.length_append
abbrev iG:=@Nat.zero_le
abbrev mT:=@Nat.le_of_ble_eq_true
abbrev sg:=@Option.some.injEq
abbrev cH:=@Prod.mk.injEq
abbrev eW:=@List.length_drop
abbrev yE:=@List.drop_eq_nil_of_le
abbrev pn:=@List.nil_append
abbrev Sz:=@List.drop_append_of_le_length
abbrev B8:=@List.take_append_of_le_length
abbrev Ao:=@List.getElem?_append_right
abbrev wE:=@List.getElem?_append_left
abbrev te:=@List.getElem?_eq_some_iff
abbrev jY:=@Bool.false_eq_true
abbrev po:=@Bool.eq_iff_iff
abbrev SB:=@Nat.succ_le_iff
abbrev nG:=@Nat.ble_eq
abbrev Ap:=@beq_iff_eq
abbrev uJ:=@UInt8.toNat_inj
abbrev SC:=@UInt8.lt_iff_toNat_lt
abbrev aaa:=@BitVec.ofInt_natCast
abbrev aab:=@BitVec.toNat_ofNat
abbrev IW:=@Nat.mod_eq_of_lt
abbrev KK:=@true_and
abbrev Aq:=@and_true
abbrev gh:=@List.mem_cons_self
abbrev jA:=@List.mem_cons_of_mem
abbrev OB:=@Bool.not_true
abbrev IX:=@Bool.not_false
abbrev nR:=@Nat.eq_of_beq_eq_true
abbrev KL:=@Int.natCast_nonneg
abbrev wF:=@Array.ext'
abbrev gp:=@Nat.ble_eq_true_of_le
abbrev B9:=@Nat.sub_self
abbrev wG:=@Option.map_some
abbrev IY:=@Nat.zero_mul
abbrev Vz:=@Nat.le_of_mul_le_mul_right
abbrev mM:=@Nat.add_mul
abbrev xr:=@Nat.mul_one
abbrev wH:=@List.foldl_cons
abbrev VA:=@List.ext_getElem?
abbrev Ar:=@List.getElem?_map
abbrev SD:=@List.getElem?_range
abbrev SE:=@Nat.mod_lt
abbrev sh:=@List.getElem?_eq_none
abbrev FV:=@List.mapM_cons
abbrev VB:=@Nat.le_mul_of_pos_right
abbrev uK:=@Int.toNat_natCast
abbrev CX:=@List.drop_zero
abbrev KM:=@Nat.mul_le_mul_right
abbrev OC:=@List.take_take
abbrev As:=@Nat.min_eq_left
abbrev KN:=@List.getElem?_toArray
abbrev aac:=@List.getElem?_cons_zero
abbrev aad:=@List.getElem?_cons_succ
abbrev mU:=@Nat.zero_add
abbrev ku:=@List.append_assoc
abbrev cW:=@List.length_take
abbrev mO:=@List.eq_nil_of_length_eq_zero
abbrev qW:=@List.take_of_length_le
abbrev KP:=@List.mem_of_mem_take
abbrev eZ:=@List.mem_append
abbrev OD:=@Array.getElem?_modify
abbrev qi:=@Bool.not_eq_true'
abbrev qX:=@List.length_replicate
abbrev uL:=@Bool.true_and
abbrev adS:=@Array.getElem?_setIfInBounds
abbrev qj:=@Option.getD_some
abbrev VC:=@Array.mem_append
abbrev aae:=@Array.getElem?_append_left
abbrev QM:=@Array.getD_eq_getD_getElem?
abbrev KQ:=@List.mem_of_getElem?
abbrev Bi:=@Option.bind_some
abbrev gA:=@List.all_eq_true
abbrev mu:=@List.drop_drop
abbrev wP:=@List.range'_succ
abbrev iH:=@List.countP_cons
abbrev bT:=@List.mem_cons
abbrev lX:=@List.mem_range
abbrev QN:=@Array.getElem?_eq_getElem
abbrev uM:=@List.countP_eq_zero
abbrev cT:=@List.mem_append_left
abbrev dE:=@List.mem_append_right
abbrev GF:=@List.countP_le_length
abbrev Bj:=@of_decide_eq_true
abbrev bd:=@List.getElem?_eq_getElem
abbrev si:=@Nat.le_of_lt
abbrev CY:=@Nat.lt_trichotomy
abbrev mv:=@List.flatMap_cons
abbrev nK:=@List.sublist_append_right
abbrev KR:=@List.Sublist.append
abbrev GG:=@List.Sublist.refl
abbrev aZ:=@List.getD_eq_getElem?_getD
abbrev rh:=@List.nodup_append
abbrev pC:=@List.mem_flatMap
abbrev uh:=@List.singleton_append
abbrev uN:=@List.nodup_cons
abbrev Bk:=@List.take_append
abbrev wQ:=@List.getElem?_drop
abbrev kD:=@Nat.beq_refl
abbrev KS:=@Bool.and_true
abbrev GH:=@Bool.and_self
abbrev jf:=@Bool.not_eq_true
abbrev CZ:=@List.flatMap_append
abbrev ix:=@List.mem_singleton
abbrev yF:=@Int.toNat_of_nonneg
abbrev bY:=@decide_eq_true
abbrev eI:=@decide_eq_false
abbrev jg:=@List.not_mem_nil
abbrev ri:=@List.flatMap_nil
abbrev wR:=@false_or
abbrev jD:=@or_false
abbrev KT:=@not_false_eq_true
abbrev yG:=@List.nodup_nil
abbrev C0:=@Bool.not_eq_false'
abbrev C1:=@Bool.or_eq_false_iff
abbrev GI:=@Bool.not_eq_eq_eq_not
abbrev wS:=@Bool.not_eq_false
abbrev gY:=@List.take_length
abbrev uO:=@List.take_add_one
abbrev ui:=@List.drop_eq_getElem_cons
abbrev VD:=@Int.tdiv_eq_ediv_of_nonneg
abbrev GJ:=@List.all_append
abbrev GK:=@List.all_eq_false
abbrev iI:=@List.drop_length
abbrev wT:=@Int.eq_ofNat_of_zero_le
abbrev GL:=@Bool.or_eq_true_iff
abbrev C2:=@List.map_nil
abbrev GM:=@List.any_eq_true
abbrev oO:=@List.findIdx?_eq_some_iff_getElem
abbrev Bl:=@List.findIdx?_eq_none_iff
abbrev iY:=@List.getElem_of_mem
abbrev nL:=@List.length_pos_iff
abbrev yH:=@Int.le_refl
abbrev sj:=@List.filter_cons
abbrev pD:=@List.mem_filter
abbrev QO:=@List.getElem_replicate
abbrev jh:=@Option.isSome_iff_exists
abbrev qk:=@List.filter_append
abbrev pE:=@List.Perm.append_left
abbrev oP:=@List.perm_append_comm_assoc
abbrev VE:=@List.replicate_append_replicate
abbrev C3:=@List.filter_eq_self
abbrev Bm:=@List.filter_sublist
abbrev VF:=@List.getElem?_take_of_lt
abbrev rj:=@List.getElem_mem
abbrev gN:=@List.length_set
abbrev GN:=@List.mem_or_eq_of_mem_set
abbrev C4:=@List.Perm.append_right
abbrev GO:=@Nat.mul_comm
abbrev GP:=@Nat.lt_irrefl
abbrev jZ:=@List.pairwise_cons
abbrev Bn:=@List.getD_cons_succ
abbrev uj:=@List.pairwise_iff_getElem
abbrev C5:=@decide_eq_decide
abbrev Bo:=@List.range_succ
abbrev Bp:=@List.countP_append
abbrev lP:=@Classical.byContradiction
abbrev QP:=@List.mem_erase_of_ne
abbrev GQ:=@List.length_pos_of_mem
abbrev QQ:=@List.length_erase_of_mem
abbrev Bq:=@List.nodup_iff_pairwise_ne
abbrev Br:=@List.pairwise_map
abbrev C6:=@List.countP_congr
abbrev iZ:=@Bool.false_ne_true
abbrev QR:=@List.pairwise_singleton
abbrev QS:=@List.Pairwise.nil
abbrev KU:=@List.countP_nil
abbrev Bs:=@Bool.false_and
abbrev yI:=@List.length_filter_le
abbrev Bt:=@List.length_singleton
abbrev QT:=@List.length_reverse
abbrev KV:=@List.getD_cons_zero
abbrev GR:=@List.findIdx?_cons
abbrev KW:=@List.sum_append
abbrev C7:=@List.sum_cons
abbrev C8:=@List.countP_pos_iff
abbrev VG:=@List.getElem?_replicate
abbrev QU:=@Nat.lt_succ_iff_lt_or_eq
abbrev KX:=@List.length_range
abbrev GS:=@List.forIn_cons
abbrev Bu:=@getElem!_pos
end Go
namespace Go.Ev
open Go
section
inductive T (α:Type) where
 |nil
 |node (v:Option α) (l r:T α)
noncomputable section
def bo {α:Type}(b:Bool)(x y:α):α:=Bool.rec y x b
def ob {α β:Type}(o:Option α)(k:α->Option β):Option β:=Option.rec none k o
def dZ {β:Type}(b:Bool)(k:Option β):Option β:=Bool.rec none k b
def T.get {α:Type}(t:T α):Nat->Option α:=
 T.rec (λ_=>none) (λv _ _ gl gr n=>bo (Nat.beq n (nat_lit 0)) v (bo (Nat.beq (Nat.mod n (nat_lit 2)) (nat_lit 1)) (gl (Nat.div n (nat_lit 2))) (gr (Nat.pred (Nat.div n (nat_lit 2)))))) t
def T.now {α β:Type}(t:T α)(k:T α->β):β:=T.rec (k .nil) (λv l r _ _=>k (.node v l r)) t
def T.agE {α:Type}(ih:T α->Nat->T α)(v:Option α)(l r:T α)(n:Nat)(x:Option α):T α:=
 bo (Nat.beq n (nat_lit 0)) (.node x l r) (bo (Nat.beq (Nat.mod n (nat_lit 2)) (nat_lit 1)) ((ih l (Nat.div n (nat_lit 2))).now λl=>.node v l r) ((ih r (Nat.pred (Nat.div n (nat_lit 2)))).now λr=>.node v l r))
def T.set {α:Type}(d:Nat)(t:T α)(n:Nat)(x:Option α):T α:=
 Nat.rec (λt _=>t) (λ_ ih t n=>T.rec (T.agE ih none .nil .nil n x) (λv l r _ _=>T.agE ih v l r n x) t) d t n
def xu {β:Type}(n:Nat)(k:Nat->β):β:=Nat.rec (k (nat_lit 0)) (λm _=>k (Nat.succ m)) n
def adT {β:Type}(n:Int)(k:Int->β):β:=Int.rec (λm=>xu m λm=>k (.ofNat m)) (λm=>xu m λm=>k (.negSucc m)) n
def agF {β:Type}(b:Bool)(k:Bool->β):β:=Bool.rec (k false) (k true) b
def aaf {β:Type}(a:aM)(k:aM->β):β:=match a with
 |none=>k none
 |some ⟨b,o,s⟩=>xu b λb=>xu o λo=>k (some ⟨b,o,s⟩)
def adU {β:Type}(a:aM)(l c:Nat)(k:Value->β):β:=aaf a λa=>xu l λl=>xu c λc=>k (.slice a l c)
def VH {β:Type}(v:Value)(k:Value->β):β:=match v with
 |.bool b=>agF b λb=>k (.bool b)
 |.int j n=>adT n λn=>k (.int j n)
 |.pointer a=>aaf a λa=>k (.pointer a)
 |.slice a l c=>adU a l c k
 |.agg ⟨cs⟩=>k (.agg ⟨cs⟩)
 |.tuple ⟨cs⟩=>k (.tuple ⟨cs⟩)
 |.string ⟨⟨cs⟩⟩=>k (.string ⟨⟨cs⟩⟩)
 |v=>k v
inductive gV where
 |cells (c:a6) (elem:TypeId) (wide:Bool)
 |map (es:List (Value×Value))
 |lQ (z:List UInt8) (p:Nat)
 |uk (m:Nat)
 |yJ (ws:List (Nat×a6))
structure St where
 heap:T gV
 next:Nat
 cU:Nat
 wr:Nat
def ew:Nat:=9223372036854775808
def bit (b:Nat):Nat:=Nat.shiftLeft (nat_lit 1) b
def St.look (s:St)(b:Nat):Option gV:=s.heap.get b
def St.aY (s:St)(b:Nat):St:=match s with
 |⟨h,n,a,r⟩=>xu (Nat.lor a (bit b)) λa=>⟨h,n,a,r⟩
def St.put (s:St)(b:Nat)(o:Option gV):St:=match s with
 |⟨h,n,a,r⟩=>(h.set (Nat.succ b) b o).now λh=>xu (Nat.lor a (bit b)) λa=>xu (Nat.lor r (bit b)) λr=>⟨h,n,a,r⟩
def St.new (s:St)(o:gV):St:=match s with
 |⟨h,n,a,r⟩=>(h.set (Nat.succ n) n (some o)).now λh=>xu (Nat.lor a (bit n)) λa=>xu (Nat.lor r (bit n)) λr=>xu (Nat.succ n) λn=>⟨h,n,a,r⟩
def cellsOf (o:gV):Option (a6×TypeId×Bool):=match o with
 |.cells c e w=>some (c,e,w)
 |_=>none
def mapOf (o:gV):Option (List (Value×Value)):=match o with
 |.map es=>some es
 |_=>none
def St.row {β:Type}(s:St)(b:Nat)(k:a6->TypeId->Bool->St->Option β):Option β:=
 ob (s.look b) λo=>match o with
  |.cells c e w=>k c e w (s.aY b)
  |_=>none
def Bv:List (Nat×a6)->Nat->Option (Nat×a6)
 |[],_=>none
 |p::l,off=>bo (Nat.ble p.1 off&&Nat.ble (Nat.succ (Nat.sub off p.1)) p.2.length) (some p) (Bv l off)
def St.KY {β:Type}(s:St)(b off:Nat)(k:a6->Nat->St->Option β):Option β:=
 ob (s.look b) λo=>match o with
  |.cells c _ _=>k c off (s.aY b)
  |.yJ ws=>ob (Bv ws off) λp=>k p.2 (Nat.sub off p.1) (s.aY b)
  |_=>none
structure ig where
 fn:T Func
 ty:T TypeInfo
 VI:TypeId
 eqs:List (TypeId×List Nat)
 sk:List (TypeId×String×FuncId)
variable (E:ig)
def mh (t:TypeId)(m:String)(l:List (TypeId×String×FuncId)):Option FuncId:=List.rec none (λp _ ih=>bo (Nat.beq p.1 t&&decide (p.2.1=m)) (some p.2.2) ih) l
def agG (i:TypeInfo):Option TypeDesc:=match i.desc with
 |.named _ u=>ob (E.ty.get u) λi=>some i.desc
 |d=>some d
def ji (t:TypeId):Option TypeDesc:=ob (E.ty.get t) (agG E)
def size (t:TypeId):Option Nat:=ob (E.ty.get t) λi=>some i.size
def Au (d:TypeDesc):Bool:=match d with
 |.struct _=>true
 |.array .. =>true
 |_=>false
def zero (t:TypeId):Option Value:=ob (E.ty.get t) (·.zero)
def ja (n:Nat):a6->Option (a6):=
 Nat.rec (λ_=>some []) (λ_ ih l=>match l with
  |[]=>none
  |x::xs=>ob (ih xs) λr=>some (x::r)) n
def eb (n:Nat):a6->a6:=Nat.rec (λl=>l) (λ_ ih l=>match l with
    |[]=>[]
    |_::xs=>ih xs) n
def pK (vs:a6):a6->Option (a6):=
 List.rec (λl=>some l) (λv _ ih l=>match l with
  |[]=>none
  |_::xs=>ob (ih xs) λr=>some (v::r)) vs
def fT (n:Nat)(vs:a6):a6->Option (a6):=
 Nat.rec (pK vs) (λ_ ih l=>match l with
  |[]=>none
  |x::xs=>ob (ih xs) λr=>some (x::r)) n
def flat (v:Value):Bool:=match v with
 |.agg _=>false
 |.tuple _=>false
 |_=>true
def jE (l:a6):Bool:=List.rec true (λv _ ih=>bo (flat v) ih false) l
def ec {α:Type}(l:List α):Nat:=List.rec (nat_lit 0) (λ_ _ ih=>Nat.succ ih) l
def jj {α:Type}(l:List α):Nat->Option α:=List.rec (λ_=>none) (λx _ ih n=>Nat.rec (some x) (λm _=>ih m) n) l
def cg (v:Value):a6:=match v with
 |.agg ⟨cs⟩=>cs
 |v=>[v]
def mw (s:St)(t:TypeId)(b off:Nat):Option (Value×St):=
 s.KY b off λc off s=>ob (ji E t) λd=>bo (Au d)
   (ob (size E t) λn=>ob (ja n (eb off c)) λcs=>some (.agg ⟨cs⟩,s))
   (ob (jj c off) λv=>some (v,s))
def mV (s:St)(t:TypeId)(b off:Nat)(v:Value):Option (Value×St):=
 s.row b λc e w s=>ob (size E t) λn=>dZ (Nat.beq (ec (cg v)) n)<| dZ (jE (cg v))<|
   ob (fT off (cg v) c) λcs=>some (.tuple ⟨[]⟩,s.put b (some (.cells cs e w)))
def FJ {β:Type}(v:Value)(k:Nat->Nat->Option β):Option β:=match v with
 |.pointer (some ⟨b,o,none⟩)=>k b o
 |_=>none
def Vi (x y:Int):Bool:=match x,y with
 |.ofNat a,.ofNat b=>Nat.ble (Nat.succ a) b
 |.ofNat _,.negSucc _=>false
 |.negSucc _,.ofNat _=>true
 |.negSucc a,.negSucc b=>Nat.ble (Nat.succ b) a
def yK (x y:Int):Bool:=match x,y with
 |.ofNat a,.ofNat b=>Nat.beq a b
 |.negSucc a,.negSucc b=>Nat.beq a b
 |_,_=>false
def half (k:IntKind):Nat:=match k with
 |.i8=>128|.u8=>128
 |.i16=>32768|.u16=>32768
 |.i32=>2147483648|.u32=>2147483648
 |.i64=>9223372036854775808|.u64=>9223372036854775808
def qm (k:IntKind)(n:Int):Int:=match n with
 |.ofNat m=>bo (Nat.ble (Nat.succ m) (half k)) (.ofNat m) (k.wrap (.ofNat m))
 |.negSucc m=>k.wrap (.negSucc m)
def acB (k:IntKind):Nat:=match k with
 |.i8=>nat_lit 0|.u8=>nat_lit 1|.i16=>nat_lit 2|.u16=>nat_lit 3|.i32=>nat_lit 4|.u32=>nat_lit 5|.i64=>nat_lit 6|.u64=>nat_lit 7
def qo (k j:IntKind):Bool:=Nat.beq (acB k) (acB j)
def gB (x:List UInt8):List UInt8->Bool:=List.rec (λy=>match y with
    |[]=>true
    |_::_=>false) (λa _ ih y=>match y with
    |[]=>false
    |b::y=>bo (Nat.beq a.toNat b.toNat) (ih y) false) x
def oG (x:List UInt8):List UInt8->Bool:=List.rec (λy=>match y with
    |[]=>false
    |_::_=>true) (λa _ ih y=>match y with
    |[]=>false
    |b::y=>bo (Nat.ble (Nat.succ a.toNat) b.toNat) true (bo (Nat.beq a.toNat b.toNat) (ih y) false)) x
def eqV (d:TypeDesc)(x y:Value):Option Bool:=match d,x,y with
 |.bool,.bool a,.bool b=>some (a== b)
 |.pointer _,.pointer none,.pointer b=>some (Option.isNone b)
 |.pointer _,.pointer (some _),.pointer none=>some false
 |.pointer t,.pointer (some ⟨b,o,none⟩),.pointer (some ⟨b',o',none⟩)=>ob (size E t) λ_=>dZ (Nat.beq b b'&&Nat.beq o o') (some true)
 |.slice _,.slice none _ _,.slice b _ _=>some (Option.isNone b)
 |.slice _,.slice (some _) _ _,.slice none _ _=>some false
 |.func ..,.nilFunc,.nilFunc=>some true
 |.func ..,.nilFunc,.func .. =>some false
 |.func ..,.func ..,.nilFunc=>some false
 |_,_,_=>none
def aN {β:Type}(v:Value)(s:β):Option (Value×β):=some (v,s)
def agH (k:IntKind)(a b:Int):Option Value:=match k,a,b with
 |.u8,.ofNat a,.ofNat b=>dZ (Nat.ble (Nat.succ a) (nat_lit 256)&&Nat.ble (Nat.succ b) (nat_lit 256)) (some (.int .u8 (.ofNat (Nat.xor a b))))
 |.i64,.ofNat a,.ofNat b=>dZ (Nat.ble (Nat.succ a) (nat_lit 4611686018427387904)&&Nat.ble (Nat.succ b) (nat_lit 4611686018427387904)) (some (.int .i64 (.ofNat (Nat.xor a b))))
 |_,_,_=>none
def KZ (op:BinOp)(k:IntKind)(a b:Int):Option Value:=match op with
 |.add=>some (.int k (qm k (Int.add a b)))
 |.sub=>some (.int k (qm k (Int.sub a b)))
 |.mul=>some (.int k (qm k (Int.mul a b)))
 |.quo=>bo (yK b (.ofNat (nat_lit 0))) none (some (.int k (qm k (a.tdiv b))))
 |.rem=>bo (yK b (.ofNat (nat_lit 0))) none (some (.int k (a.tmod b)))
 |.eql=>some (.bool (yK a b))
 |.neq=>some (.bool !(yK a b))
 |.lss=>some (.bool (Vi a b))
 |.leq=>some (.bool !(Vi b a))
 |.gtr=>some (.bool (Vi b a))
 |.geq=>some (.bool !(Vi a b))
 |.xor=>agH k a b
 |_=>none
def VJ (op:BinOp)(a b:List UInt8):Option Value:=match op with
 |.add=>dZ (Nat.ble (Nat.add (ec a) (ec b)) (nat_lit 1000000000)) (some (.string ⟨⟨a++b⟩⟩))
 |.eql=>some (.bool (gB a b))
 |.neq=>some (.bool !(gB a b))
 |.lss=>some (.bool (oG a b))
 |.geq=>some (.bool !(oG a b))
 |.gtr=>some (.bool !(bo (oG a b) true (gB a b)))
 |.leq=>some (.bool (bo (oG a b) true (gB a b)))
 |_=>none
def C9 (op:BinOp)(r:Option Bool):Option Value:=match op with
 |.eql=>ob r λb=>some (.bool b)
 |.neq=>ob r λb=>some (.bool !b)
 |_=>none
def lS (x y:Value):Option Bool:=match x,y with
 |.int .i64 a,.int .i64 b=>some (yK a b)
 |.string ⟨⟨a⟩⟩,.string ⟨⟨b⟩⟩=>some (gB a b)
 |.bool a,.bool b=>some (bo a b (!b))
 |_,_=>none
def fQ (xs:a6):a6->Option Bool:=List.rec (λys=>match ys with
    |[]=>some true
    |_::_=>none) (λx _ ih ys=>match ys with
    |[]=>none
    |y::ys=>ob (lS x y) λe=>ob (ih ys) λr=>some (bo e r false)) xs
def yL (v:Value):Nat:=match v with
 |.int .i64 _=>nat_lit 0
 |.string _=>nat_lit 1
 |.bool _=>nat_lit 2
 |_=>nat_lit 3
def ff (xs:a6):List Nat->Bool:=List.rec (λks=>match ks with
    |[]=>true
    |_::_=>false) (λv _ ih ks=>match ks with
    |[]=>false
    |k::ks=>bo (Nat.beq (yL v) k) (bo (Nat.ble k (nat_lit 2)) (ih ks) false) false) xs
def yM (t:TypeId)(xs:a6)(l:List (TypeId×List Nat)):Bool:=List.rec false (λp _ ih=>bo (bo (Nat.beq t p.1) (ff xs p.2) false) true ih) l
def isC (x:Operand):Bool:=match x with
 |.const _=>true
 |_=>false
def isIface (d:TypeDesc):Bool:=match d with
 |.interface _=>true
 |_=>false
def Da (a b:Nat):Nat:=bo (Nat.ble a b) a b
def GU (k:IntKind):Nat:=match k with
 |.i8=>nat_lit 8|.u8=>nat_lit 8|.i16=>nat_lit 16|.u16=>nat_lit 16|.i32=>nat_lit 32|.u32=>nat_lit 32|.i64=>nat_lit 64|.u64=>nat_lit 64
def adV (op:BinOp):Bool:=match op with
 |.shl=>true
 |.shr=>true
 |_=>false
def shV (op:BinOp)(k:IntKind)(a b:Int):Option Value:=match op,a,b with
 |.shr,.ofNat a,.ofNat b=>some (.int k (.ofNat (Nat.shiftRight a (Da b (GU k)))))
 |.shl,.ofNat a,.ofNat b=>some (.int k (qm k (.ofNat (Nat.shiftLeft a (Da b (GU k))))))
 |_,_,_=>none
def SF (op:BinOp)(t:TypeId)(c:Bool)(x y:Value):Option Value:=match x,y with
 |.int k a,.int k' b=>bo (adV op) (shV op k a b) (bo (qo k k') (KZ op k a b) none)
 |.string ⟨⟨a⟩⟩,.string ⟨⟨b⟩⟩=>VJ op a b
 |.nilIface,.nilIface=>dZ c<| ob (ji E t) λd=>dZ (isIface d)<| C9 op (some true)
 |.agg ⟨xs⟩,.agg ⟨ys⟩=>dZ (yM t xs E.eqs)<| C9 op (fQ xs ys)
 |x,y=>ob (ji E t) λd=>C9 op (eqV E d x y)
def pL (v:Value)(y:Nat):Option Nat:=match v with
 |.int _ (.ofNat i)=>bo (Nat.ble i y) (some i) none
 |_=>none
def hiV (len m:Nat)(hi mx:Option Value):Option Nat:=match hi,mx with
 |some v,_=>pL v m
 |none,none=>some len
 |none,some _=>none
def SG (v:Option Value)(y z:Nat):Option Nat:=match v with
 |some v=>pL v y
 |none=>some z
def bounds {β:Type}(len cap:Nat)(lo hi mx:Option Value)(k:Nat->Nat->Nat->Option β):Option β:=
 ob (SG mx cap cap) λm=>ob (hiV len m hi mx) λh=>ob (SG lo h (nat_lit 0)) λl=>k l h m
def VK {α:Type}(n:Nat):List α->List α:=Nat.rec (λ_=>[]) (λ_ ih l=>match l with
    |[]=>[]
    |x::xs=>x::ih xs) n
def VL {α:Type}(n:Nat):List α->List α:=Nat.rec (λl=>l) (λ_ ih l=>match l with
    |[]=>[]
    |_::xs=>ih xs) n
def sq (a:aM)(n:Nat):aM:=match a with
 |none=>none
 |some ⟨b,o,s⟩=>bo (Nat.beq n (nat_lit 0)) (some ⟨b,o,s⟩) (some ⟨b,Nat.add o n,none⟩)
def aag {α:Type}(o:Option α):Bool:=match o with
 |none=>true
 |some _=>false
def Db (z:List UInt8)(lo hi mx:Option Value):Option Value:=
 dZ (aag mx)<| bounds (ec z) (ec z) lo hi none λl h _=>some (.string ⟨⟨VK (Nat.sub h l) (VL l z)⟩⟩)
def ey (sz:Nat)(a:aM)(len cap:Nat)(lo hi mx:Option Value):Option Value:=
 bounds len cap lo hi mx λl h m=>some (.slice (bo (Nat.beq m l) a (sq a (Nat.mul l sz))) (Nat.sub h l) (Nat.sub m l))
def iJ (elem:TypeId)(sz:Nat)(a:aM)(len cap:Nat)(lo hi mx:Option Value)(s:St):Option (Value×St):=match a with
 |some ⟨b,o,none⟩=>s.row b λc e w s=>dZ (bo w true (Nat.beq sz (nat_lit 1))&&Nat.beq e elem&&Nat.beq o (Nat.mul (Nat.sub cap ew) sz)&&Nat.ble (Nat.add o (Nat.mul len sz)) (ec c))<| match mx with
  |none=>bounds len len lo hi none λl h _=>bo (Nat.beq l (nat_lit 0)||Nat.ble (Nat.succ l) h) (aN (.slice (some ⟨b,Nat.add o (Nat.mul l sz),none⟩) (Nat.sub h l) (Nat.add cap l)) s) (aN (.slice (some ⟨b,Nat.add o (Nat.mul l sz),some o⟩) (nat_lit 0) (Nat.add cap l)) s)
  |some mx=>dZ (Nat.ble (Nat.succ len) ew)<| ob (ey sz (some ⟨b,o,none⟩) len len lo hi (some mx)) λv=>aN v s
 |_=>none
def nS (lo hi mx:Option Value):Bool:=match lo,hi,mx with
 |none,some (.int _ (.ofNat 0)),none=>true
 |_,_,_=>false
def nT (a:aM)(cap:Nat)(s:St):Option (Value×St):=match a with
 |some ⟨b,o,none⟩=>aN (.slice (some ⟨b,o,none⟩) (nat_lit 0) cap) s
 |_=>none
def IZ (a:aM):Bool:=match a with
 |some ⟨_,_,some _⟩=>false
 |_=>true
def kv (s:St)(t:TypeId)(x:Value)(lo hi mx:Option Value):Option (Value×St):=
 ob (ji E t) λd=>match d,x with
  |.string,.string ⟨⟨z⟩⟩=>ob (Db z lo hi mx) λv=>aN v s
  |.slice elem,.slice a len cap=>dZ (IZ a)<| ob (size E elem) λsz=>bo (Nat.ble ew cap) (bo (nS lo hi mx) (nT a cap s) (iJ elem sz a len cap lo hi mx s)) (ob (ey sz a len cap lo hi mx) λv=>aN v s)
  |.array n elem,.pointer (some ⟨b,o,none⟩)=>ob (size E elem) λsz=>dZ (Nat.ble (Nat.succ n) ew)<| ob (ey sz (some ⟨b,o,none⟩) n n lo hi mx) λv=>aN v s
  |_,_=>none
def strCells (l:List UInt8):a6:=List.rec [] (λc _ ih=>.int .u8 (.ofNat c.toNat)::ih) l
def K0 {β:Type}(s:St)(sz:Nat)(x:Value)(k:Nat->a6->St->Option β):Option β:=match x with
 |.string ⟨⟨z⟩⟩=>dZ (Nat.beq sz (nat_lit 1))<| k (ec z) (strCells z) s
 |.slice none n _=>dZ (Nat.beq n (nat_lit 0))<| k (nat_lit 0) [] s
 |.slice (some ⟨b,o,none⟩) n _=>s.row b λc _ _ s=>ob (ja (Nat.mul n sz) (eb o c)) λcs=>k n cs s
 |.slice (some ⟨_,_,some _⟩) n _=>dZ (Nat.beq n (nat_lit 0))<| k (nat_lit 0) [] s
 |_=>none
def isInt (d:TypeDesc):Bool:=match d with
 |.int _=>true
 |_=>false
def elemOf {β:Type}(t:Option TypeId)(k:TypeId->Option β):Option β:=ob t λt=>ob (ji E t) λd=>match d with
 |.slice e=>k e
 |_=>none
def bX (s:St)(len:Nat):Value:=.slice (some ⟨s.next,nat_lit 0,none⟩) len ew
def oQ (elem:TypeId)(sz:Nat)(base:aM)(len cap n:Nat)(new:a6)(s:St):Option (Value×St):=match base with
 |none=>dZ (Nat.beq len (nat_lit 0)&&Nat.beq cap (nat_lit 0))<| bo (Nat.beq n (nat_lit 0)) (aN (.slice none (nat_lit 0) (nat_lit 0)) s)<| aN (bX s n) (s.new (.cells new elem true))
 |some ⟨b,o,none⟩=>s.row b λc e w s=>bo (Nat.ble ew cap)
  (dZ (w&&Nat.beq e elem&&Nat.beq cap ew&&Nat.beq o (nat_lit 0))<| bo (Nat.beq (ec c) (Nat.mul len sz)) (bo (Nat.beq n (nat_lit 0)) (aN (.slice (some ⟨b,o,none⟩) len cap) s)<|
    (λs:St=>aN (bX s (Nat.add len n)) (s.new (.cells (c++new) elem true))) (s.put b none))<|
    ob (ja (Nat.mul len sz) c) λold=>(λs:St=>aN (bX s (Nat.add len n)) (s.new (.cells (old++new) elem true))) (s.put b none))
  (bo (Nat.ble (Nat.add len n) cap)
    (bo (Nat.beq n (nat_lit 0)) (aN (.slice (some ⟨b,o,none⟩) len cap) s)<|
      ob (fT (Nat.add o (Nat.mul len sz)) new c) λcs=>aN (.slice (some ⟨b,o,none⟩) (Nat.add len n) cap) (s.put b (some (.cells cs e w))))
    (ob (ja (Nat.mul len sz) (eb o c)) λold=>aN (bX s (Nat.add len n)) (s.new (.cells (old++new) elem true))))
 |_=>none
def vH (s:St)(argTypes:List TypeId)(b x:Value):Option (Value×St):=
 elemOf E (jj argTypes (nat_lit 0)) λelem=>ob (jj argTypes (nat_lit 1)) λxt=>ob (ji E xt) λxd=>dZ (!isInt xd)<| ob (E.ty.get elem) λi=>ob i.zero λz=>
  dZ (Nat.ble (nat_lit 1) i.size&&Nat.ble i.bytes (nat_lit 1000000)&&Nat.beq (ec (cg z)) i.size)<|
  K0 s i.size x λn new s=>dZ (Nat.beq (ec new) (Nat.mul n i.size))<| dZ (jE new)<| match b with
   |.slice base len cap=>dZ (Nat.ble (Nat.add len n) (nat_lit 1000000))<| oQ elem i.size base len cap n new s
   |_=>none
def Bw (l:a6):Option (List UInt8):=List.rec (some []) (λv _ ih=>match v with
    |.int .u8 (.ofNat k)=>dZ (Nat.ble (Nat.succ k) (nat_lit 256))<| ob ih λr=>some (UInt8.ofNat k::r)
    |_=>none) l
def isByte (d:TypeDesc):Bool:=match d with
 |.int .u8=>true
 |_=>false
def OE (s:St)(a:aM)(n:Nat):Option (Value×St):=match a with
 |none=>aN (.string ⟨⟨[]⟩⟩) s
 |some ⟨b,o,none⟩=>s.row b λc _ _ s=>ob (ja n (eb o c)) λl=>ob (Bw l) λbs=>aN (.string ⟨⟨bs⟩⟩) s
 |some ⟨_,_,some _⟩=>dZ (Nat.beq n (nat_lit 0))<| aN (.string ⟨⟨[]⟩⟩) s
def wU (s:St)(src dst:TypeId)(x:Value):Option (Value×St):=
 ob (ji E src) λds=>ob (ji E dst) λdd=>match ds,dd,x with
 |.int _,.int k,.int _ n=>aN (.int k (qm k n)) s
 |.slice e,.string,.slice a n _=>ob (ji E e) λd=>dZ (isByte d)<| OE s a n
 |.pointer t,.unsafePointer,.pointer (some ⟨b,0,none⟩)=>s.row b λc _ w s=>ob (size E t) λsz=>dZ (!w&&Nat.ble (nat_lit 1) (ec c)&&Nat.ble (nat_lit 1) sz)<| aN (.pointer (some ⟨b,0,none⟩)) s
 |.unsafePointer,.pointer u,.pointer (some ⟨b,0,none⟩)=>s.row b λc e w s=>ob (size E u) λ_=>dZ (!w&&Nat.beq (ec c) (nat_lit 2)&&Nat.beq e E.VI&&Nat.beq u E.VI)<| aN (.pointer (some ⟨b,0,none⟩)) s
 |.string,.slice e,.string ⟨⟨z⟩⟩=>ob (ji E e) λd=>dZ (isByte d)<| ob (size E e) λsz=>dZ (Nat.beq sz (nat_lit 1)&&Nat.ble (ec z) (nat_lit 1000000))<| aN (bX s (ec z)) (s.new (.cells (strCells z) e false))
 |.slice _,.slice e,.slice (some ⟨b,o,none⟩) n c=>ob (ji E e) λd=>dZ (isByte d&&Nat.beq src dst)<| s.row b λcs e' _ s=>ob (size E e') λsz=>ob (ji E e') λd'=>dZ (isByte d'&&Nat.beq sz (nat_lit 1))<| aN (.slice (some ⟨b,o,none⟩) n c) (s.put b (some (.cells cs e' false)))
 |_,_,_=>none
def SH (t:TypeId)(x:Value):Option Value:=ob (ji E t) λd=>match d,x with
 |.string,.string ⟨⟨z⟩⟩=>some (.int .i64 (.ofNat (ec z)))
 |.slice _,.slice _ n _=>some (.int .i64 (.ofNat n))
 |_,_=>none
def places (fs:List Field):Option (List (Nat×Nat)):=List.rec (some []) (λf _ ih=>ob (size E f.type) λsz=>ob ih λr=>some ((f.offset,sz)::r)) fs
def tg (ev:Operand->Value)(l:List (Nat×Operand)):List (Nat×Value):=List.rec [] (λp _ ih=>(p.1,ev p.2)::ih) l
def sr (bU:Nat->Option (Nat×Nat))(l:List (Nat×Value)):a6->Option (a6):=
 List.rec (λcells=>some cells) (λp _ ih cells=>ob (bU p.1) λq=>dZ (Nat.beq (ec (cg p.2)) q.2)<| ob (fT q.1 (cg p.2) cells) λcs=>ih cs) l
def lY (zs:a6)(n:Nat):a6:=Nat.rec [] (λ_ ih=>zs++ih) n
def oR (sz:Nat)(i:Nat):Option (Nat×Nat):=some (Nat.mul i sz,sz)
def kE (x y:Value):Option Bool:=match x,y with
 |.agg ⟨xs⟩,.agg ⟨ys⟩=>fQ xs ys
 |.int k a,.int k' b=>dZ (qo k k')<| some (yK a b)
 |.string ⟨⟨a⟩⟩,.string ⟨⟨b⟩⟩=>some (gB a b)
 |_,_=>none
def ss (k:Value)(l:List (Value×Value)):Option (Option Value):=
 List.rec (some none) (λp _ ih=>ob (kE k p.1) λb=>bo b (some (some p.2)) ih) l
def yN (kt:TypeId)(d:TypeDesc)(k:Value):Bool:=match d,k with
 |.struct _,.agg ⟨cs⟩=>yM kt cs E.eqs
 |.array _ _,.agg ⟨cs⟩=>yM kt cs E.eqs
 |.int _,.int _ _=>true
 |.string,.string _=>true
 |_,_=>false
def SI (k:Value)(l:List (Value×Value)):Option (List (Value×Value)):=
 List.rec (some []) (λp r ih=>ob (kE k p.1) λb=>bo b (some r) (ob ih λr=>some (p::r))) l
def OF (k v:Value)(l:List (Value×Value)):Option (List (Value×Value)):=
 List.rec (some []) (λp r ih=>ob (kE k p.1) λb=>bo b (some ((k,v)::r)) (ob ih λr=>some (p::r))) l
def Cs (s:St)(t:TypeId)(b:Nat):Option (Value×St):=ob (ji E t) λd=>match d with
 |.map _ _=>ob (s.look b) λo=>ob (mapOf o) λes=>aN (.int .i64 (.ofNat (ec es))) (s.aY b)
 |_=>none
def agJ (t:TypeId)(x:Value)(s:St):Option (Value×St):=ob (ji E t) λd=>match d,x with
 |.slice _,.slice _ _ c=>dZ (Nat.ble (Nat.succ c) ew)<| aN (.int .i64 (.ofNat c)) s
 |_,_=>none
def QV (s:St)(argTypes:List TypeId)(m k:Value):Option (Value×St):=ob (jj argTypes (nat_lit 0)) λt=>ob (ji E t) λd=>match d,m with
 |.map kt _,.map (some b)=>ob (ji E kt) λkd=>dZ (yN E kt kd k)<| ob (s.look b) λo=>ob (mapOf o) λes=>ob (SI k es) λes=>aN (.tuple ⟨[]⟩) (s.put b (some (.map es)))
 |_,_=>none
def I0 (s:St)(t:TypeId)(x:Value):Option (Value×St):=ob (ji E t) λd=>match d,x with
 |.string,.string ⟨⟨z⟩⟩=>aN (.pointer (some ⟨s.next,nat_lit 0,none⟩)) (s.new (.lQ z (nat_lit 0)))
 |.map _ _,.map (some b)=>ob (s.look b) λo=>ob (mapOf o) λ_=>(λs:St=>aN (.pointer (some ⟨s.next,nat_lit 0,none⟩)) (s.new (.uk b))) (s.aY b)
 |_,_=>none
def GV (s:St)(b:Nat)(z:List UInt8)(p:Nat):Option (Value×St):=match jj z p with
 |none=>aN (.tuple ⟨[.bool false]⟩) (s.aY b)
 |some c=>dZ (Nat.ble (Nat.succ c.toNat) (nat_lit 128))<| aN (.tuple ⟨[.bool true,.int .i64 (.ofNat p),.int .i32 (.ofNat c.toNat)]⟩) (s.put b (some (.lQ z (Nat.succ p))))
def agK (s:St)(b m:Nat):Option (Value×St):=ob (s.look m) λo=>ob (mapOf o) λes=>match es with
 |[]=>aN (.tuple ⟨[.bool false]⟩) ((s.aY b).aY m)
 |_::_=>none
def K1 (s:St)(x:Value)(str:Bool):Option (Value×St):=match x with
 |.pointer (some ⟨b,0,none⟩)=>ob (s.look b) λo=>match o with
  |.lQ z p=>dZ str<| GV s b z p
  |.uk m=>dZ (!str)<| agK s b m
  |_=>none
 |_=>none
def aah (x y:Value)(s:St):Option (Value×St):=match x,y with
 |.int k a,.int k' b=>dZ (qo k k')<| aN (.int k (bo (Vi b a) b a)) s
 |_,_=>none
def aai (x y:Value)(s:St):Option (Value×St):=match x,y with
 |.int k a,.int k' b=>dZ (qo k k')<| aN (.int k (bo (Vi a b) b a)) s
 |_,_=>none
def xv (x:Value)(s:St):Option (Value×St):=match x with
 |.slice (some ⟨b,0,none⟩) _ cap=>dZ (Nat.beq cap ew)<| s.row b λc _ w s=>dZ (w&&Nat.ble (nat_lit 1) (ec c))<| aN (.pointer (some ⟨b,0,none⟩)) s
 |_=>none
def Av (sz:Nat)(b o n k:Nat)(new:a6)(s:St):Option (Value×St):=
 dZ (jE new)<| ob (ja (Nat.mul (Da k n) sz) new) λnew=>s.row b λc e w s=>ob (fT o new c) λcs=>aN (.int .i64 (.ofNat (Da k n))) (s.put b (some (.cells cs e w)))
def copyV (s:St)(argTypes:List TypeId)(x y:Value):Option (Value×St):=match x with
 |.slice (some ⟨b,o,none⟩) n _=>elemOf E (jj argTypes (nat_lit 0)) λe=>ob (size E e) λsz=>K0 s sz y λk new s=>Av sz b o n k new s
 |_=>none
def rO (ts:List TypeId)(x y:Value)(s:St):Option (Value×St):=match ts,x,y with
 |[pt,_],.pointer (some ⟨b,0,none⟩),.int .i64 (.ofNat n)=>s.row b λc e _ s=>ob (ji E pt) λd=>match d with
  |.pointer e'=>ob (size E e') λsz=>dZ (Nat.beq e e'&&Nat.beq sz (nat_lit 1)&&Nat.ble (nat_lit 1) n&&Nat.ble n (nat_lit 1000000))<| ob (ja n c) λl=>ob (Bw l) λbs=>aN (.string ⟨⟨bs⟩⟩) (s.put b none)
  |_=>none
 |_,_,_=>none
def Aw (s:St)(argTypes:List TypeId)(x:Value):Option (Value×St):=match x with
 |.slice none _ _=>elemOf E (jj argTypes (nat_lit 0)) λ_=>aN (.tuple ⟨[]⟩) s
 |.slice (some ⟨b,o,q⟩) n _=>elemOf E (jj argTypes (nat_lit 0)) λe=>bo (Nat.beq n (nat_lit 0)) (aN (.tuple ⟨[]⟩) s) (dZ (aag q)<| s.row b λc e' w s=>
   ob (size E e) λsz=>ob (zero E e) λz=>dZ (Nat.beq (ec (cg z)) sz&&Nat.ble (nat_lit 1) sz&&jE (cg z))<| ob (fT o (lY (cg z) n) c) λcs=>aN (.tuple ⟨[]⟩) (s.put b (some (.cells cs e' w))))
 |_=>none
def su (s:St)(b:Builtin)(argTypes:List TypeId)(x:Value):Option (Value×St):=match b with
 |.len=>ob (jj argTypes (nat_lit 0)) λt=>match x with
  |.map (some b)=>Cs E s t b
  |x=>ob (SH E t x) λv=>aN v s
 |.cap=>ob (jj argTypes (nat_lit 0)) λt=>agJ E t x s
 |.unsafeSliceData=>xv x s
 |.clear=>Aw E s argTypes x
 |_=>none
def K2 (s:St)(b:Builtin)(argTypes:List TypeId)(x y:Value):Option (Value×St):=match b with
 |.append=>vH E s argTypes x y
 |.max=>aai x y s
 |.min=>aah x y s
 |.delete=>QV E s argTypes x y
 |.copy=>copyV E s argTypes x y
 |.unsafeString=>rO E argTypes x y s
 |_=>none
def xw {α β:Type}(f:α->β)(l:List α):List β:=List.rec [] (λx _ ih=>f x::ih) l
def yO (ev:Operand->Value)(s:St)(b:Builtin)(argTypes:List TypeId)(args:List Operand):Option (Value×St):=match args with
 |[x]=>su E s b argTypes (ev x)
 |[x,y]=>K2 E s b argTypes (ev x) (ev y)
 |_=>none
def QW (c:Value)(a b:Value)(s:St):Option (Value×St):=match c with
 |.bool c=>bo c (aN a s) (aN b s)
 |_=>none
def OG (s:St)(l:a6)(t:TypeId):Option (Value×St):=aN (.pointer (some ⟨s.next,nat_lit 0,none⟩)) (s.new (.cells l t false))
def I1 (s:St)(t:TypeId):Option (Value×St):=ob (zero E t) λz=>OG s (cg z) t
def I2 (ev:Operand->Value)(s:St)(t:TypeId)(parts:List (Nat×Operand)):Option (Value×St):=
 ob (zero E t) λz=>ob (ji E t) λd=>match d with
  |.struct ⟨fs⟩=>ob (places E fs) λpl=>ob (sr (jj pl) (tg ev parts) (cg z)) λcs=>aN (.agg ⟨cs⟩) s
  |.array _ e=>ob (size E e) λsz=>ob (sr (oR sz) (tg ev parts) (cg z)) λcs=>aN (.agg ⟨cs⟩) s
  |_=>none
def uP (ev:Operand->Value)(s:St)(t:TypeId)(n:Nat)(parts:List (Nat×Operand)):Option (Value×St):=
 elemOf E (some t) λe=>ob (size E e) λsz=>ob (zero E e) λz=>dZ (Nat.beq (ec (cg z)) sz&&Nat.ble (nat_lit 1) sz&&Nat.ble (Nat.mul n sz) (nat_lit 16777216))<|
  ob (sr (oR sz) (tg ev parts) (lY (cg z) n)) λcs=>aN (.slice (some ⟨s.next,nat_lit 0,none⟩) n n) (s.new (.cells cs e false))
def adW (x:Value)(s:St):Option (Value×St):=match x with
 |.pointer (some a)=>aN (.pointer (some a)) s
 |.func (.func f) a b=>aN (.func (.func f) a b) s
 |_=>none
def GW (x:Value)(s:St):Option (Value×St):=match x with
 |.func (.method m) ⟨[.iface t (.pointer (some a))]⟩ c=>ob (mh t m E.sk) λ_=>aN (.func (.method m) ⟨[.iface t (.pointer (some a))]⟩ c) s
 |x=>adW x s
def OH (t:TypeId)(x:Value)(s:St):Option (Value×St):=ob (ji E t) λd=>dZ (!isIface d)<| aN (.iface t x) s
def unV (op:UnOp)(x:Value)(s:St):Option (Value×St):=match op,x with
 |.not,.bool b=>aN (.bool !b) s
 |_,_=>none
def yP (s:St)(t:TypeId)(m k:Value)(ok:Bool):Option (Value×St):=
 ob (ji E t) λd=>match d,m with
  |.map kt e,.map (some b)=>ob (ji E kt) λkd=>dZ (yN E kt kd k)<| ob (zero E e) λz=>ob (s.look b) λo=>ob (mapOf o) λes=>ob (ss k es) λr=>match r with
   |some v=>aN (bo ok (.tuple ⟨[v,.bool true]⟩) v) (s.aY b)
   |none=>aN (bo ok (.tuple ⟨[z,.bool false]⟩) z) (s.aY b)
  |_,_=>none
def ti (s:St)(t:TypeId)(m k v:Value):Option (Value×St):=
 ob (ji E t) λd=>match d,m with
  |.map kt _,.map (some b)=>ob (ji E kt) λkd=>dZ (yN E kt kd k)<| ob (s.look b) λo=>ob (mapOf o) λes=>ob (ss k es) λr=>match r with
   |some _=>ob (OF k v es) λes=>aN (.tuple ⟨[]⟩) (s.put b (some (.map es)))
   |none=>aN (.tuple ⟨[]⟩) (s.put b (some (.map (es++[(k,v)]))))
  |_,_=>none
def xx (s:St)(t:TypeId)(l c:Value):Option (Value×St):=
 elemOf E (some t) λe=>ob (E.ty.get e) λi=>ob i.zero λz=>match l,c with
  |.int _ (.ofNat l),.int _ (.ofNat c)=>dZ (Nat.ble l c&&Nat.ble c (nat_lit 1000000)&&Nat.ble i.bytes (nat_lit 1000000)&&Nat.beq (ec (cg z)) i.size&&Nat.ble (nat_lit 1) i.size)<|
   aN (.slice (some ⟨s.next,nat_lit 0,none⟩) l c) (s.new (.cells (lY (cg z) c) e false))
  |_,_=>none
def dH (ev:Operand->Value)(x:Option Operand):Option Value:=match x with
 |none=>none
 |some x=>some (ev x)
def nU (s:St)(t:TypeId)(x:Value)(i:Nat):Option (Value×St):=
 ob (ji E t) λd=>match d with
  |.struct ⟨fs⟩=>ob (jj fs i) λf=>ob (size E f.type) λsz=>dZ (Nat.ble (nat_lit 1) sz)<| FJ x λb o=>aN (.pointer (some ⟨b,Nat.add o f.offset,none⟩)) s
  |_=>none
def I3 (s:St)(t:TypeId)(x:Value)(i:Nat):Option (Value×St):=
 ob (ji E t) λd=>match d,x with
  |.struct ⟨fs⟩,.agg ⟨cs⟩=>ob (jj fs i) λf=>ob (ji E f.type) λdf=>dZ (!Au df)<| ob (jj cs f.offset) λv=>aN v s
  |_,_=>none
def nV (s:St)(t:TypeId)(x i:Value):Option (Value×St):=
 ob (ji E t) λd=>match d,x,i with
  |.array n e,.pointer (some ⟨b,o,none⟩),.int _ (.ofNat i)=>dZ (Nat.ble (Nat.succ i) n)<| ob (size E e) λsz=>aN (.pointer (some ⟨b,Nat.add o (Nat.mul i sz),none⟩)) s
  |.slice e,.slice (some ⟨b,o,none⟩) n _,.int _ (.ofNat i)=>dZ (Nat.ble (Nat.succ i) n)<| ob (size E e) λsz=>aN (.pointer (some ⟨b,Nat.add o (Nat.mul i sz),none⟩)) s
  |_,_,_=>none
def I4 (s:St)(t:TypeId)(x i:Value):Option (Value×St):=
 ob (ji E t) λd=>match d,x,i with
  |.string,.string ⟨⟨z⟩⟩,.int _ (.ofNat i)=>ob (jj z i) λc=>aN (.int .u8 (.ofNat c.toNat)) s
  |_,_,_=>none
def yQ (s:St)(x:Value)(i:Nat):Option (Value×St):=match x with
 |.tuple ⟨vs⟩=>ob (jj vs i) λv=>aN v s
 |_=>none
abbrev eX:=FuncId->a6->St->Option (Value×St)
def xy (call:eX)(f:Value)(args:a6)(s:St):Option (Value×St):=match f with
 |.func (.func g) ⟨first⟩ ⟨cap⟩=>call g (first++(args++cap)) s
 |_=>none
def Ct (call:eX)(r:Value)(m:String)(args:a6)(s:St):Option (Value×St):=match r with
 |.iface t (.pointer (some a))=>ob (mh t m E.sk) λf=>call f (.pointer (some a)::args) s
 |_=>none
def OI (call:eX)(ev:Operand->Value)(s:St)(c:Call):Option (Value×St):=match c.callee with
 |.value f=>xy call (ev f) (xw ev c.args.toList) s
 |.builtin b=>yO E ev s b c.argTypes.toList c.args.toList
 |.invoke r m=>Ct E call (ev r) m (xw ev c.args.toList) s
def FK (call:eX)(ev:Operand->Value)(s:St)(o:Op):Option (Value×St):=match o with
 |.move x=>aN (ev x) s
 |.assign x=>aN (ev x) s
 |.pick c a b=>QW (ev c) (ev a) (ev b) s
 |.alloc t=>I1 E s t
 |.box t x=>OG s (cg (ev x)) t
 |.build t ps=>I2 E ev s t ps.toList
 |.buildSlice t n ps=>uP E ev s t n ps.toList
 |.load t a=>FJ (ev a) λb o=>mw E s t b o
 |.store t a x=>FJ (ev a) λb o=>mV E s t b o (ev x)
 |.nilCheck x=>GW E (ev x) s
 |.makeInterface t x=>OH E t (ev x) s
 |.binOp op t x y _=>ob (SF E op t (isC x||isC y) (ev x) (ev y)) λv=>aN v s
 |.unOp op _ x=>unV op (ev x) s
 |.convert a b x=>wU E s a b (ev x)
 |.makeFunc fn f c=>aN (.func fn ⟨xw ev f.toList⟩ ⟨xw ev c.toList⟩) s
 |.makeMap _ none=>aN (.map (some s.next)) (s.new (.map []))
 |.lookup t m k ok=>yP E s t (ev m) (ev k) ok
 |.mapUpdate t m k v=>ti E s t (ev m) (ev k) (ev v)
 |.makeSlice t l c=>xx E s t (ev l) (ev c)
 |.slice t x lo hi mx=>kv E s t (ev x) (dH ev lo) (dH ev hi) (dH ev mx)
 |.fieldAddr t x i=>nU E s t (ev x) i
 |.field t x i=>I3 E s t (ev x) i
 |.indexAddr t x i=>nV E s t (ev x) (ev i)
 |.index t x i=>I4 E s t (ev x) (ev i)
 |.extract x i=>yQ s (ev x) i
 |.range t x=>I0 E s t (ev x)
 |.next x str=>K1 s (ev x) str
 |.call c=>OI E call ev s c
 |_=>none
inductive Ex where|normal|exit (id:Nat)|ret
abbrev Tm:=T Value
def lZ (o:Option Value):Value:=Option.rec (.tuple ⟨[]⟩) (λv=>v) o
def aO (tm:Tm)(x:Operand):Value:=match x with
 |.tmp t=>lZ (tm.get t)
 |.const v=>v
 |.global g=>.pointer (some ⟨g,nat_lit 0,none⟩)
 |.func f=>.func (.func f) #[] #[]
def Tm.put {β:Type}(tm:Tm)(d:Option Tmp)(v:Value)(k:Tm->β):β:=match d with
 |some d=>VH v λv=>(tm.set (Nat.succ d) d (some v)).now k
 |none=>k tm
def uQ (v:Option Value)(want:Bool):Bool:=match v with
 |some (.bool b)=>bo b want (!want)
 |_=>false
def mz (aE:List Oper)(j:Nat):Option Tmp:=ob (jj aE j) (·.dst)
def ir (aE:List Oper)(tm:Tm)(g:Option (Nat×Bool)):Bool:=match g with
 |none=>true
 |some (j,want)=>uQ (ob (mz aE j) λd=>tm.get d) want
abbrev R3:=Option (Tm×St)
def K3 (call:eX)(aE:List Oper)(l:List Oper):Tm->St->Option (Tm×St):=
 List.rec (λtm s=>some (tm,s)) (λo _ ih tm s=>
  bo (ir aE tm o.guard) (ob (FK E call (aO tm) s o.op) λp=>match p with
      |(v,s)=>tm.put o.dst v λtm=>ih tm s)
   (tm.put o.dst (.tuple ⟨[]⟩) λtm=>ih tm s)) l
structure Seen where
 i:Nat
 cU:Nat
 wr:Nat
def Ax (b a r:Nat)(l:List Seen):Bool:=List.rec true (λx _ ih=>bo (bo (Nat.beq (Nat.land x.wr a) (nat_lit 0)) (Nat.beq (Nat.land x.cU r) (nat_lit 0)) false||Nat.testBit b x.i) ih false) l
def uR (aE:List Oper)(j:Nat)(s s':St)(seen:List Seen)(k:St->List Seen->R3):R3:=match s,s' with
 |⟨_,_,a0,r0⟩,⟨h,n,a,r⟩=>bo (Nat.beq a (nat_lit 0)) (k ⟨h,n,a0,r0⟩ seen)
  (bo (Ax ((Region.before ⟨aE⟩).getD j 0) a r seen) (xu (Nat.lor a0 a) λa0=>xu (Nat.lor r0 r) λr0=>k ⟨h,n,a0,r0⟩ (⟨j,a,r⟩::seen)) none)
def eJ (s:St):St:=match s with
 |⟨h,n,_,_⟩=>⟨h,n,nat_lit 0,nat_lit 0⟩
def uS (call:eX)(aE:List Oper)(l:List Oper):Nat->Tm->St->List Seen->Option (Tm×St):=
 List.rec (λ_ tm s _=>some (tm,s)) (λo _ ih j tm s seen=>
  bo (ir aE tm o.guard) (ob (FK E call (aO tm) (eJ s) o.op) λp=>match p with
      |(v,s')=>uR aE j s s' seen λs seen=>tm.put o.dst v λtm=>ih (Nat.succ j) tm s seen)
   (tm.put o.dst (.tuple ⟨[]⟩) λtm=>ih (Nat.succ j) tm s seen)) l
abbrev R4:=Option (Ex×Tm×St)
def GX (r:R4)(k:Tm->St->R4):R4:=ob r λp=>match p with
 |(.normal,tm,s)=>k tm s
 |p=>some p
def Dc (body:Tm->St->R4)(n:Nat):Tm->St->R4:=Nat.rec (λ_ _=>none) (λ_ ih tm s=>GX (body tm s) ih) n
def adX (id:Nat)(r:R4):R4:=ob r λp=>match p with
 |(.exit i,tm,s)=>bo (Nat.beq i id) (some (.normal,tm,s)) (some (.exit i,tm,s))
 |p=>some p
def GY (r:R3):R4:=ob r λp=>some (.normal,p)
def QX (c:Value)(a b:R4):R4:=match c with
 |.bool c=>bo c a b
 |_=>none
def QY (call:eX)(aE:List Oper)(draw:Bool)(tm:Tm)(s:St):R4:=
 bo draw (GY (uS E call aE aE (nat_lit 0) tm s [])) (GY (K3 E call aE aE tm s))
def lR (call:eX)(lf:Nat)(c:Code):Tm->St->R4:=
 Code.rec (motive:=λ_=>Tm->St->R4) (λtm s=>some (.normal,tm,s)) (λ_ aE draw tm s=>QY E call aE.toList draw tm s) (λ_ _ a b tm s=>GX (a tm s) b) (λc _ _ a b tm s=>QX (aO tm c) (a tm s) (b tm s))
  (λid _ a tm s=>adX id (a tm s)) (λ_ a tm s=>Dc a lf tm s) (λ_ _ _ _ _ _ _ _=>none) (λid tm s=>some (.exit id,tm,s)) (λ_ _ _ _=>none) (λ_ _ _=>none) (λ_ _ _=>none)
  (λtm s=>some (.ret,tm,s)) (λ_ _ _=>none) c
def kF (l:a6):Nat->Tm->Tm:=List.rec (λ_ tm=>tm) (λv _ ih i tm=>VH v λv=>(tm.set (Nat.succ i) i (some v)).now λtm=>ih (Nat.succ i) tm) l
def Dd (tm:Tm)(l:List ResultVar):St->Option (a6×St):=
 List.rec (λs=>some ([],s)) (λr _ ih s=>match r with
  |.tmp t=>ob (ih s) λp=>some (lZ (tm.get t)::p.1,p.2)
  |.cell a t=>FJ (lZ (tm.get a)) λb o=>ob (mw E s t b o) λq=>ob (ih q.2) λp=>some (q.1::p.1,p.2)) l
def gL (l:a6):Value:=match l with
 |[v]=>v
 |vs=>.tuple ⟨vs⟩
def FW (c:Nat)(l:List UInt8):Nat->Int:=List.rec (λ_=>.negSucc (nat_lit 0)) (λb _ ih i=>bo (Nat.beq b.toNat c) (.ofNat i) (ih (Nat.succ i))) l
abbrev yR:=a6->St->Option (Value×St)
structure fR where
 sw:Nat
 indexByte:Nat
 tj:Nat
 look:Nat
 byte:Nat
 wV:List (Nat×yR)
def xz (X:fR)(f:FuncId):Bool:=List.rec false (λp _ ih=>bo (Nat.beq p.1 f) true ih) X.wV
def uT (X:fR)(f:FuncId)(args:a6)(s:St)(k:Option (Value×St)):Option (Value×St):=List.rec k (λp _ ih=>bo (Nat.beq p.1 f) (p.2 args s) ih) X.wV
def id1 (args:a6):Option Value:=match args with
 |[x]=>some x
 |_=>none
def VM (args:a6):Option Value:=match args with
 |[.string ⟨⟨z⟩⟩,.int .u8 (.ofNat c)]=>dZ (Nat.ble (Nat.succ c) (nat_lit 256))<| some (.int .i64 (FW c z (nat_lit 0)))
 |_=>none
def zeroV (X:fR)(args:a6)(s:St):Option (Value×St):=match args with
 |[.int .i64 (.ofNat n)]=>dZ (Nat.ble (nat_lit 1) n&&Nat.ble n (nat_lit 1000000))<| aN (bX s n) (s.new (.cells [] X.byte true))
 |_=>none
def De (args:a6)(s:St):Option (Value×St):=match args with
 |[.agg ⟨[.slice (some ⟨b,o,none⟩) n _,.slice _ 0 _,_]⟩,.int .i64 (.ofNat i)]=>dZ (Nat.ble (Nat.succ i) n)<| s.row b λcs _ _ s=>ob (jj cs (Nat.add o i)) λv=>match v with
  |.string ⟨⟨z⟩⟩=>aN (.string ⟨⟨z⟩⟩) s
  |_=>none
 |_=>none
def K4 (X:fR)(f:FuncId)(args:a6)(s:St):Option (Value×St):=
 bo (Nat.beq f X.sw) (ob (id1 args) λv=>aN v s) (bo (Nat.beq f X.indexByte) (ob (VM args) λv=>aN v s) (bo (Nat.beq f X.tj) (zeroV X args s) none))
def K5 (fn:Func)(r:R4):Option (Value×St):=ob r λp=>match p with
 |(.exit _,_,_)=>none
 |(_,tm,s)=>ob (Dd E tm fn.results.toList s) λp=>some (gL p.1,p.2)
end
end
variable {α β:Type}
@[simp] theorem gC (x y:α):bo true x y=x:=rfl
@[simp] theorem eL (x y:α):bo false x y=y:=rfl
theorem dW (b:Bool)(x y:α):bo b x y=if b then x else y:=by cases b<;>rfl
@[simp] theorem cu (a:α)(k:α->Option β):ob (some a) k=k a:=rfl
@[simp] theorem akc (k:α->Option β):ob (none:Option α) k=none:=rfl
theorem aD {o:Option α}{k:α->Option β}{r:β}(h:ob o k=some r):∃a,o=some a/\k a=some r:=by
 cases o with
 |none=>cases h
 |some a=>exact⟨a,rfl,h⟩
theorem bz {b:Bool}{k:Option β}{r:β}(h:dZ b k=some r):b=true/\k=some r:=by
 cases b with
 |false=>cases h
 |true=>exact⟨rfl,h⟩
theorem I5 {b:Bool}{x:Option β}{r:β}(h:bo b x none=some r):b=true/\x=some r:=by
 cases b with
 |false=>cases h
 |true=>exact⟨rfl,h⟩
@[simp] theorem T.OJ (t:T α)(k:T α->β):t.now k=k t:=by cases t<;>rfl
@[simp] theorem QZ (n:Nat)(k:Nat->β):xu n k=k n:=by cases n<;>rfl
@[simp] theorem akd (n:Int)(k:Int->β):adT n k=k n:=by cases n<;>simp[adT]
@[simp] theorem ake (n:Bool)(k:Bool->β):agF n k=k n:=by cases n<;>rfl
@[simp] theorem akf (a:aM)(k:aM->β):aaf a k=k a:=by
  unfold aaf;split<;>simp
@[simp] theorem akg (a:aM)(l c:Nat)(k:Value->β):adU a l c k=k (.slice a l c):=by simp[adU]
@[simp] theorem aaj (v:Value)(k:Value->β):VH v k=k v:=by unfold VH;split<;>simp
theorem T.get_nil (n:Nat):(T.nil:T α).get n=none:=rfl
theorem T.oS (v:Option α)(l r:T α)(n:Nat):(T.node v l r).get n=if n=0 then v else if n% 2=1 then l.get (n/ 2) else r.get (n/ 2-1):=by have h:(T.node v l r).get n=bo (Nat.beq n 0) v (bo (Nat.beq (n% 2) 1) (l.get (n/ 2)) (r.get (Nat.pred (n/ 2)))):=rfl;rw[h,dW,dW];simp only[B7,Nat.pred_eq_sub_one]
theorem T.K6 (d:Nat)(t:T α)(n:Nat)(x:Option α):
  T.set (d+1) t n x=match t with
    |.nil=>if n=0 then .node x .nil .nil else if n% 2=1 then .node none (T.set d .nil (n/ 2) x) .nil else .node none .nil (T.set d .nil (n/ 2-1) x)
    |.node v l r=>if n=0 then .node x l r else if n% 2=1 then .node v (T.set d l (n/ 2) x) r else .node v l (T.set d r (n/ 2-1) x):=by
 cases t with
 |nil=>
  have h:T.set (d+1) (T.nil:T α) n x=bo (Nat.beq n 0) (.node x .nil .nil) (bo (Nat.beq (n% 2) 1) ((T.set d .nil (n/ 2) x).now λl=>.node none l .nil) ((T.set d .nil (Nat.pred (n/ 2)) x).now λr=>.node none .nil r)):=rfl;rw[h,dW,dW];simp only[B7,Nat.pred_eq_sub_one,T.OJ]
 |node v l r=>
  have h:T.set (d+1) (T.node v l r) n x=bo (Nat.beq n 0) (.node x l r) (bo (Nat.beq (n% 2) 1) ((T.set d l (n/ 2) x).now λl=>.node v l r) ((T.set d r (Nat.pred (n/ 2)) x).now λr=>.node v l r)):=rfl;rw[h,dW,dW];simp only[B7,Nat.pred_eq_sub_one,T.OJ]
theorem T.Q0 (d:Nat):∀(t:T α)(n m:Nat)(x:Option α),n+1<2^ d->(T.set d t n x).get m=if m=n then x else t.get m:=by
 induction d with
 |zero=>intro t n m x h;simp at h
 |succ d ih=>
  intro t n m x h;have hl:n% 2=1->n/ 2+1<2^ d:=λ_=>by rw[Vy] at h;omega
  have hr:¬n=0->¬n% 2=1->n/ 2-1+1<2^ d:=λ_ _=>by rw[Vy] at h;omega
  rw[T.K6];cases t with
  |nil=>
   simp only;by_cases h0:n=0
   .simp only[h0,if_true,T.oS,T.get_nil];split<;>simp
   .simp only[h0,pB];by_cases h1:n% 2=1
    .simp only[h1,if_true,T.oS,T.get_nil];rw[ih _ _ _ _ (hl h1)];simp only[T.get_nil];repeat' split
     all_goals first|rfl|omega
    .simp only[h1,pB,T.oS,T.get_nil];rw[ih _ _ _ _ (hr h0 h1)];simp only[T.get_nil];repeat' split
     all_goals first|rfl|omega
  |node v l r=>
   simp only;by_cases h0:n=0
   .simp only[h0,if_true,T.oS];repeat' split
    all_goals first|rfl|omega
   .simp only[h0,pB];by_cases h1:n% 2=1
    .simp only[h1,if_true,T.oS];rw[ih _ _ _ _ (hl h1)];repeat' split
     all_goals first|rfl|omega
    .simp only[h1,pB,T.oS];rw[ih _ _ _ _ (hr h0 h1)];repeat' split
     all_goals first|rfl|omega
@[simp] theorem dm (l:List α):ec l=l.length:=by
  induction l with
  |nil=>rfl
  |cons x xs ih=>exact ep Nat.succ ih
@[simp] theorem dR (l:List α):∀n,jj l n=l[n]?:=by
  induction l with
  |nil=>intro n;simp[jj]
  |cons x xs ih=>
   intro n;cases n with
   |zero=>rfl
   |succ n=>exact(ih n).trans ay
@[simp] theorem agL (n:Nat):∀l:List α,VK n l=l.take n:=by
  induction n with
  |zero=>intro l;show([]:List α)=l.take 0;simp
  |succ n ih=>intro l;cases l with
   |nil=>rfl
   |cons x xs=>exact ep (x::·) (ih xs)
@[simp] theorem agM (n:Nat):∀l:List α,VL n l=l.drop n:=by
  refine' zbb
@[simp] theorem rk (f:α->β)(l:List α):xw f l=l.map f:=by
  induction l with
  |nil=>rfl
  |cons x xs ih=>exact ep (f x::·) ih
@[simp] theorem qp (n:Nat):∀l:a6,eb n l=l.drop n:=by
  refine' zbb
theorem yS (n:Nat):∀l:a6,ja n l=if n<=l.length then some (l.take n) else none:=by
 induction n with
 |zero=>intro l;show some []=_;simp
 |succ n ih=>intro l;cases l with
  |nil=>simp[ja]
  |cons x xs=>
   (have h:ja (n+1) (x::xs)=ob (ja n xs) λr=>some (x::r):=rfl);rw[h,ih xs];by_cases hn:n<=xs.length<;>simp[hn]
theorem kQ {n:Nat}{l r:a6}(h:ja n l=some r):n<=l.length/\r=l.take n:=by
 rw[yS] at h;split at h
 .exact⟨‹_›,by simpa using h.symm⟩
 .cases h
theorem Q2 (vs:a6):∀l:a6,pK vs l=if vs.length<=l.length then some (vs++l.drop vs.length) else none:=by
 induction vs with
 |nil=>intro l;show some l=_;simp
 |cons v vs ih=>intro l;cases l with
  |nil=>simp[pK]
  |cons x xs=>
   (have h:pK (v::vs) (x::xs)=ob (pK vs xs) λr=>some (v::r):=rfl);rw[h,ih xs];by_cases hn:vs.length<=xs.length<;>simp[hn]
theorem nW (n:Nat)(vs:a6):∀{l r:a6},fT n vs l=some r->n+vs.length<=l.length/\r=l.take n++vs++l.drop (n+vs.length):=by
 induction n with
 |zero=>
  intro l r h;have h':pK vs l=some r:=h;rw[Q2] at h';split at h'
  .have h2:=ke h';subst h2;exact⟨ag,ay⟩
  .cases h'
 |succ n ih=>
  intro l r h;cases l with
  |nil=>cases h
  |cons x xs=>
   have h':ob (fT n vs xs) (λr=>some (x::r))=some r:=h;obtain⟨a,ha,hr⟩:=aD h';obtain⟨h1,h2⟩:=ih ha;simp at hr;refine⟨by simp;omega,?_⟩;(have e:n+1+vs.length=(n+vs.length)+1:=by omega);rw[<-hr,h2,e,x_5,List.drop_succ_cons,yv,yv]
theorem hU (v:Value):cg v=v.cells.toList:=by unfold cg Value.cells;split<;>simp_all
theorem mA (l:a6):jE l=true↔∀v∈l,flat v=true:=by
 induction l with
 |nil=>simp[jE]
 |cons x xs ih=>
  have h:jE (x::xs)=bo (flat x) (jE xs) false:=rfl;rw[h,dW];by_cases hx:flat x=true<;>simp[hx,ih]
variable {A B:Nat->Prop}{v v':Value}{l l':a6}
abbrev iD:=Nat->Nat×Nat
def dq (q:Nat×Nat)(c:Nat):Nat:=if ew<=c then q.2-(c-ew) else c
mutual
def cw (ρ:iD):Value->Value
 |.agg ⟨cs⟩=>.agg ⟨Bx ρ cs⟩
 |.tuple ⟨cs⟩=>.tuple ⟨Bx ρ cs⟩
 |.func fn ⟨f⟩ ⟨c⟩=>.func fn ⟨Bx ρ f⟩ ⟨Bx ρ c⟩
 |.iface t v=>.iface t (cw ρ v)
 |.pointer (some ⟨b,o,s⟩)=>.pointer (some ⟨(ρ b).1,o,s⟩)
 |.slice (some ⟨b,o,none⟩) l c=>.slice (some ⟨(ρ b).1,o,none⟩) l (dq (ρ b) c)
 |.slice (some ⟨b,o,some q⟩) l c=>.slice (some ⟨(ρ b).1,if dq (ρ b) c=0 then q else o,none⟩) l (dq (ρ b) c)
 |.map (some r)=>.map (some (ρ r).1)
 |.bool b=>.bool b
 |.int k n=>.int k n
 |.float k n=>.float k n
 |.complex k a b=>.complex k a b
 |.string s=>.string s
 |.pointer none=>.pointer none
 |.slice none l c=>.slice none l c
 |.map none=>.map none
 |.chan r=>.chan r
 |.nilFunc=>.nilFunc
 |.nilIface=>.nilIface
def Bx (ρ:iD):a6->a6
 |[]=>[]
 |v::vs=>cw ρ v::Bx ρ vs
end
theorem yT (ρ:iD)(l:a6):Bx ρ l=l.map (cw ρ):=by
 induction l with
 |nil=>simp[Bx]
 |cons v vs ih=>simp[Bx,ih]
@[simp] theorem VN (ρ:iD)(cs:a6):cw ρ (.agg ⟨cs⟩)= .agg ⟨cs.map (cw ρ)⟩:=by simp[cw,yT]
@[simp] theorem OK (ρ:iD)(cs:a6):cw ρ (.tuple ⟨cs⟩)= .tuple ⟨cs.map (cw ρ)⟩:=by simp[cw,yT]
@[simp] theorem SJ (ρ:iD)(fn:Fn)(f c:a6):cw ρ (.func fn ⟨f⟩ ⟨c⟩)= .func fn ⟨f.map (cw ρ)⟩ ⟨c.map (cw ρ)⟩:=by simp[cw,yT]
theorem mW (ρ:iD)(b o:Nat)(s:Option Nat):cw ρ (.pointer (some ⟨b,o,s⟩))= .pointer (some ⟨(ρ b).1,o,s⟩):=by simp[cw]
theorem eH (ρ:iD)(b o l c:Nat):cw ρ (.slice (some ⟨b,o,none⟩) l c)= .slice (some ⟨(ρ b).1,o,none⟩) l (dq (ρ b) c):=by simp[cw]
theorem K7 (ρ:iD)(b o q l c:Nat):cw ρ (.slice (some ⟨b,o,some q⟩) l c)= .slice (some ⟨(ρ b).1,if dq (ρ b) c=0 then q else o,none⟩) l (dq (ρ b) c):=by simp[cw]
theorem sx (ρ:iD)(a:Addr)(l c:Nat):∃a',cw ρ (.slice (some a) l c)= .slice (some a') l (dq (ρ a.block) c):=by
 obtain⟨b,o,_|q⟩:=a
 .exact⟨_,eH ρ b o l c⟩
 .exact⟨_,K7 ρ b o q l c⟩
theorem GZ (ρ:iD)(b:Nat):cw ρ (.map (some b))= .map (some (ρ b).1):=by simp[cw]
@[simp] theorem ago (ρ:iD)(b:Bool):cw ρ (.bool b)= .bool b:=by simp[cw]
@[simp] theorem yU (ρ:iD)(k:IntKind)(n:Int):cw ρ (.int k n)= .int k n:=by simp[cw]
@[simp] theorem acC (ρ:iD)(s:ByteArray):cw ρ (.string s)= .string s:=by simp[cw]
@[simp] theorem G1 (ρ:iD):cw ρ (.pointer none)= .pointer none:=by simp[cw]
@[simp] theorem acD (ρ:iD)(l c:Nat):cw ρ (.slice none l c)= .slice none l c:=by simp[cw]
@[simp] theorem tk (ρ:iD):cw ρ .nilFunc= .nilFunc:=by simp[cw]
@[simp] theorem FY (ρ:iD):cw ρ .nilIface= .nilIface:=by simp[cw]
theorem xA (ρ:iD)(v:Value):(cw ρ v).cells.toList=v.cells.toList.map (cw ρ):=by
 cases v<;>try(simp[cw,Value.cells];done)
 .rename_i a;cases a<;>simp[cw,Value.cells]
 .rename_i a l c;cases a with
  |none=>simp[cw,Value.cells]
  |some a=>
   obtain⟨a',h⟩:=sx ρ a l c;rw[h];simp[Value.cells,h]
 .rename_i a;cases a<;>simp[cw,Value.cells]
 .rename_i cs;obtain⟨cs⟩:=cs;simp[cw,yT,Value.cells]
theorem SK (ρ:iD)(v:Value):flat (cw ρ v)=flat v:=by
 cases v<;>try(simp[cw,flat];done)
 .rename_i a;cases a<;>simp[cw,flat]
 .rename_i a l c;cases a with
  |none=>simp[cw,flat]
  |some a=>
   obtain⟨a',h⟩:=sx ρ a l c;rw[h];simp[flat]
 .rename_i a;cases a<;>simp[cw,flat]
def G2 (A:Nat->Prop)(ρ eK:iD):Prop:=∀i,A i->eK i=ρ i
def VR (A:Nat->Prop)(ρ:iD)(v v':Value):Prop:=∀eK,G2 A ρ eK->cw eK v=v'
def LR (A:Nat->Prop)(ρ:iD)(l l':a6):Prop:=∀eK,G2 A ρ eK->l.map (cw eK)=l'
section
variable {ρ FL:iD}
theorem G2.refl (A:Nat->Prop)(ρ:iD):G2 A ρ ρ:=λ_ _=>rfl
theorem VR.self (h:VR A ρ v v'):cw ρ v=v':=h ρ (G2.refl A ρ)
theorem LR.self (h:LR A ρ l l'):l.map (cw ρ)=l':=h ρ (G2.refl A ρ)
theorem VR.mono (h:VR A ρ v v')(hA:∀i,A i->B i)(Ay:∀i,A i->FL i=ρ i):VR B FL v v':=λeK h'=>h eK λi hi=>(h' i (hA i hi)).trans (Ay i hi)
theorem LR.mono (h:LR A ρ l l')(hA:∀i,A i->B i)(Ay:∀i,A i->FL i=ρ i):LR B FL l l':=λeK h'=>h eK λi hi=>(h' i (hA i hi)).trans (Ay i hi)
theorem LR.length (h:LR A ρ l l'):l'.length=l.length:=by rw[<-h.self,td]
theorem LR.nil:LR A ρ [] []:=λ_ _=>rfl
theorem LR.cons (h:VR A ρ v v')(k:LR A ρ l l'):LR A ρ (v::l) (v'::l'):=λeK e=>by simp[h eK e,k eK e]
theorem LR.iQ (h:LR A ρ (v::l) l'):∃u us,l'=u::us/\VR A ρ v u/\LR A ρ l us:=by
 refine⟨cw ρ v,l.map (cw ρ),by rw[<-h.self];rfl,λeK e=>?_,λeK e=>?_⟩
 .have:=(h eK e).trans h.self.symm;simp at this;exact this.1
 .have:=(h eK e).trans h.self.symm;simp only[wO,List.cons.injEq] at this;exact this.2
theorem LR.get {i:Nat}{u:Value}(h:LR A ρ l l')(hu:l[i]?=some u):∃u',l'[i]?=some u'/\VR A ρ u u':=by refine⟨cw ρ u,by rw[<-h.self];simp[hu],λeK e=>?_⟩;have:=ep (·[i]?) ((h eK e).trans h.self.symm);simpa[hu] using this
theorem LR.take (n:Nat)(h:LR A ρ l l'):LR A ρ (l.take n) (l'.take n):=λeK e=>by rw[<-h eK e,List.map_take]
theorem LR.drop (n:Nat)(h:LR A ρ l l'):LR A ρ (l.drop n) (l'.drop n):=λeK e=>by rw[<-h eK e,List.map_drop]
theorem LR.append {m m':a6}(h:LR A ρ l l')(k:LR A ρ m m'):LR A ρ (l++m) (l'++m'):=λeK e=>by rw[<-h eK e,<-k eK e,KI]
theorem VR.agg (h:LR A ρ l l'):VR A ρ (.agg ⟨l⟩) (.agg ⟨l'⟩):=λeK e=>by simp[h eK e]
theorem VR.tuple (h:LR A ρ l l'):VR A ρ (.tuple ⟨l⟩) (.tuple ⟨l'⟩):=λeK e=>by simp[h eK e]
theorem VR.Q3 (h:VR A ρ (.agg ⟨l⟩) v'):∃l',v'= .agg ⟨l'⟩/\LR A ρ l l':=by refine' zbi
theorem VR.aak (h:VR A ρ (.tuple ⟨l⟩) v'):∃l',v'= .tuple ⟨l'⟩/\LR A ρ l l':=by refine' zbi
theorem VR.Df {fn:Fn}{f c:a6}(h:VR A ρ (.func fn ⟨f⟩ ⟨c⟩) v'):∃f' c',v'= .func fn ⟨f'⟩ ⟨c'⟩/\LR A ρ f f'/\LR A ρ c c':=by
 refine⟨f.map (cw ρ),c.map (cw ρ),by rw[<-h.self];simp,λeK e=>?_,λeK e=>?_⟩<;>
 .have:=(h eK e).trans h.self.symm;simp at this;first|exact CW (λx hx=>this.1 x hx)|exact CW (λx hx=>this.2 x hx)
theorem VR.func {fn:Fn}{f c f' c':a6}(h:LR A ρ f f')(k:LR A ρ c c'):VR A ρ (.func fn ⟨f⟩ ⟨c⟩) (.func fn ⟨f'⟩ ⟨c'⟩):=λeK e=>by simp[h eK e,k eK e]
theorem VR.cells (h:VR A ρ v v'):LR A ρ v.cells.toList v'.cells.toList:=λeK e=>by rw[<-xA,h eK e]
theorem LR.jE (h:LR A ρ l l')(hf:∀v∈l,flat v=true):∀v∈l',flat v=true:=by rw[<-h.self];intro v hv;obtain⟨u,hu,rfl⟩:=jK.1 hv;rw[SK];exact hf u hu
theorem VR.ground (h:∀ρ,cw ρ v=v):VR A ρ v v:=λeK _=>h eK
theorem VR.bool (b:Bool):VR A ρ (.bool b) (.bool b):=VR.ground ay
theorem VR.int (k:IntKind)(n:Int):VR A ρ (.int k n) (.int k n):=VR.ground ay
theorem VR.str (s:ByteArray):VR A ρ (.string s) (.string s):=VR.ground ay
theorem VR.undef:VR A ρ (.tuple ⟨[]⟩) (.tuple ⟨[]⟩):=VR.ground ay
theorem VR.ptr {b o:Nat}{s:Option Nat}(h:A b):VR A ρ (.pointer (some ⟨b,o,s⟩)) (.pointer (some ⟨(ρ b).1,o,s⟩)):=λeK e=>by rw[mW,e b h]
theorem VR.slice {b o l c:Nat}(h:A b):VR A ρ (.slice (some ⟨b,o,none⟩) l c) (.slice (some ⟨(ρ b).1,o,none⟩) l (dq (ρ b) c)):=λeK e=>by rw[eH,e b h]
theorem VR.akw {b:Nat}(h:A b):VR A ρ (.map (some b)) (.map (some (ρ b).1)):=λeK e=>by rw[GZ,e b h]
theorem VR.mB {k:IntKind}{n:Int}(h:VR A ρ (.int k n) v'):v'= .int k n:=by rw[<-h.self];simp
theorem VR.tn {b:Bool}(h:VR A ρ (.bool b) v'):v'= .bool b:=by rw[<-h.self];simp
theorem VR.uU {s:ByteArray}(h:VR A ρ (.string s) v'):v'= .string s:=by rw[<-h.self];simp
end
def dv (A:Nat->Prop)(n m:Nat):Nat->Prop:=λi=>A i\/(n<=i/\i<m)
def FZ (P:Program)(A:Nat->Prop)(ρ:iD)(q:Nat×Nat):gV->Obj->Prop
 |.cells c e w,x=>∃(c' aS:a6)(fr:Nat×Nat),x= .cells ⟨c'++aS⟩ e fr/\LR A ρ c c'/\
    (w=true->fr=(0,0)/\c.length+aS.length=q.2*P.cellsOf e/\0<P.cellsOf e/\q.2<=maxLen)/\
    (w=false->((aS=[]/\fr=(0,0))\/(P.underlying e=some (.int .u8)/\P.cellsOf e=1/\c.length+aS.length<=fr.1))/\c.length<=q.2)
 |.map es,x=>∃(xs:List MapEntry)(k:Nat),x= .map ⟨xs⟩ k/\LR A ρ (es.map (·.1)) (xs.map (·.key))/\LR A ρ (es.map (·.2)) (xs.map (·.val))
 |.lQ z p,x=>x= .stringIter ⟨⟨z⟩⟩ p
 |.yJ ws,x=>∃(cs:a6)(t:TypeId)(fr:Nat×Nat),x= .cells ⟨cs⟩ t fr/\∀p∈ws,∃pre c' aS,cs=pre++(c'++aS)/\pre.length=p.1/\LR A ρ p.2 c'
 |.uk m,x=>A m/\∃since dw,x= .mapIter (some (ρ m).1) since #[] dw
theorem FZ.mono {P:Program}{A B:Nat->Prop}{ρ FL:iD}{q:Nat×Nat}{o:gV}{x:Obj}(h:FZ P A ρ q o x)(hA:∀i,A i->B i)(Ay:∀i,A i->FL i=ρ i):FZ P B FL q o x:=by
 cases o with
 |cells c e w=>obtain⟨c',aS,fr,h1,h2,h3,h4⟩:=h;exact⟨c',aS,fr,h1,h2.mono hA Ay,h3,h4⟩
 |map es=>obtain⟨xs,k,h1,h2,h3⟩:=h;exact⟨xs,k,h1,h2.mono hA Ay,h3.mono hA Ay⟩
 |lQ z p=>exact h
 |yJ ws=>
  obtain⟨cs,t,fr,h1,h2⟩:=h;exact⟨cs,t,fr,h1,λp hp=>by
   obtain⟨pre,c',aS,e1,e2,e3⟩:=h2 p hp;exact⟨pre,c',aS,e1,e2,e3.mono hA Ay⟩⟩
 |uk m=>obtain⟨h1,since,dw,h2⟩:=h;exact⟨hA m h1,since,dw,by rw[Ay m h1];exact h2⟩
structure fp (P:Program)(X A:Nat->Prop)(ρ:iD)(g:Nat->Option gV)(w:World):Prop where
 lz:∀b o,X b->g b=some o->A b/\∃x,w.heap[(ρ b).1]?=some x/\FZ P A ρ (ρ b) o x
 inj:∀b b' o o',X b->X b'->g b=some o->g b'=some o'->(ρ b).1=(ρ b').1->b=b'
structure Fr (w w':World)(agO:Nat->Prop):Prop where
 os:w'.os=w.os
 tape:w'.tape=w.tape
 output:w'.output=w.output
 size:w.heap.size<=w'.heap.size
 block:∀r,r<w.heap.size->¬agO r->w'.heap[r]?=w.heap[r]?
theorem Fr.refl (w:World)(t:Nat->Prop):Fr w w t:=⟨rfl,rfl,rfl,cG _,λ_ _ _=>rfl⟩
abbrev In (m b:Nat):Prop:=m.testBit b=true
structure Good (P:Program)(X A:Nat->Prop)(ρ:iD)(s s':St)(w w':World)(eK:iD):Prop where
 next:s.next<=s'.next
 same:∀i,¬(s.next<=i/\i<s'.next)->eK i=ρ i
 state:fp P X (dv A s.next s'.next) eK s'.heap.get w'
 fU:Fr w w' λr=>∃b o,In s'.wr b/\X b/\s.heap.get b=some o/\(ρ b).1=r
 old:∀b,b<s.next->s'.heap.get b≠none->s.heap.get b≠none
 bI:∀b,s.next<=b->b<s'.next->s'.heap.get b≠none->w.heap.size<=(eK b).1\/∃c o,In s'.wr c/\X c/\s.heap.get c=some o/\(eK b).1=(ρ c).1
 kept:∀b,b<s.next->¬In s'.wr b->s'.heap.get b=s.heap.get b
 eg:∀b,s'.next<=b->s'.heap.get b=none
structure aG (s s':St):Prop where
 next:s.next<=s'.next
 cU:∀b,In s.cU b->In s'.cU b
 wr:∀b,In s.wr b->In s'.wr b
 made:∀b,s.next<=b->b<s'.next->In s'.wr b
 sub:(∀b,In s.wr b->In s.cU b)->∀b,In s'.wr b->In s'.cU b
 kept:∀b,b<s.next->¬In s'.wr b->s'.heap.get b=s.heap.get b
 eg:(∀b,s.next<=b->s.heap.get b=none)->∀b,s'.next<=b->s'.heap.get b=none
variable {P:Program}{X:Nat->Prop}{ρ Ca FL:iD}{s s1 s2:St}{w w1 w2:World}
theorem adY (n:Nat):n+1+1<2^ (n+1+1):=@Nat.lt_two_pow_self (n+1+1)
theorem T.vI {α:Type}(t:T α)(n m:Nat)(x:Option α):(T.set (Nat.succ n) t n x).get m=if m=n then x else t.get m:=by
 cases n with
 |zero=>
  rw[show Nat.succ 0=0+1 from rfl,T.K6];cases t<;>simp only[T.oS,T.get_nil,if_true]<;>(repeat' split)<;>first|rfl|omega|simp_all
 |succ n=>exact T.Q0 _ _ _ _ _ (adY n)
theorem gO (a b c:Nat):In (a||| bit b) c↔In a c\/c=b:=by
 have h:(a||| bit b)=a||| (1<<< b):=rfl;simp only[In,h,Nat.testBit_or,Nat.testBit_shiftLeft,mf,bO,bQ];constructor
 .rintro(h|⟨h1,h2⟩)
  .exact .inl h
  .right
   have:c-b=0:=by
    rcases wD (c-b) with h|h
    .exact h
    .rw[Nat.testBit_one_eq_true_iff_self_eq_zero] at h2;exact h2
   omega
 .rintro(h|rfl)
  .exact .inl h
  .right;simp
theorem rP (a b c:Nat):In (a||| b) c↔In a c\/In b c:=by simp only[In,Nat.testBit_or,mf]
section
variable (s:St)(b:Nat)
@[simp] theorem iE:(s.aY b).heap=s.heap:=by cases s;simp[St.aY]
@[simp] theorem cz:(s.aY b).next=s.next:=by cases s;simp[St.aY]
@[simp] theorem Cu:(s.aY b).wr=s.wr:=by cases s;simp[St.aY]
@[simp] theorem sy:(s.aY b).cU=s.cU||| bit b:=by cases s;simp[St.aY]
@[simp] theorem rl (o:Option gV)(c:Nat):(s.put b o).heap.get c=if c=b then o else s.heap.get c:=by cases s;simp[St.put,T.vI]
@[simp] theorem eh (o:Option gV):(s.put b o).next=s.next:=by cases s;simp[St.put]
@[simp] theorem tp (o:Option gV):(s.put b o).wr=s.wr||| bit b:=by cases s;simp[St.put]
@[simp] theorem rm (o:Option gV):(s.put b o).cU=s.cU||| bit b:=by cases s;simp[St.put]
@[simp] theorem Cv (o:gV)(c:Nat):(s.new o).heap.get c=if c=s.next then some o else s.heap.get c:=by cases s;simp[St.new,T.vI]
@[simp] theorem l3 (o:gV):(s.new o).next=s.next+1:=by cases s;simp[St.new]
@[simp] theorem xB (o:gV):(s.new o).wr=s.wr||| bit s.next:=by cases s;simp[St.new]
@[simp] theorem yV (o:gV):(s.new o).cU=s.cU||| bit s.next:=by cases s;simp[St.new]
end
theorem aG.refl (s:St):aG s s:=⟨cG _,λ_ h=>h,λ_ h=>h,λb h1 h2=>by omega,λh=>h,λ_ _ _=>rfl,λh=>h⟩
theorem aG.trans {a b c:St}(h:aG a b)(k:aG b c):aG a c:=
 ⟨gK h.next k.next,λi hi=>k.cU i (h.cU i hi),λi hi=>k.wr i (h.wr i hi),λi h1 h2=>by
  rcases lA i b.next with h3|h3
  .exact k.wr i (h.made i h1 h3)
  .exact k.made i h3 h2,λhs=>k.sub (h.sub hs),λi hi hw=>by
   rw[k.kept i (xn hi h.next) hw,h.kept i hi λh'=>hw (k.wr i h')],λha=>k.eg (h.eg ha)⟩
theorem aG.aY (s:St)(b:Nat):aG s (s.aY b):=
 ⟨ay,λi hi=>by simp only[sy,gO];exact Or.inl hi,λi hi=>by simpa using hi,λi h1 h2=>by simp at h2;omega,λhs i hi=>by simp only[sy,Cu,gO] at hi⊢;exact Or.inl (hs i hi),λi _ _=>by simp,λh=>by simpa using h⟩
theorem aG.put (s:St)(b:Nat)(o:Option gV)(hb:s.heap.get b≠none):aG s (s.put b o):=
 ⟨ay,λi hi=>by simp only[rm,gO];exact Or.inl hi,λi hi=>by simp only[tp,gO];exact Or.inl hi,λi h1 h2=>by simp at h2;omega,λhs i hi=>by simp only[rm,tp,gO] at hi⊢;exact hi.imp (hs i) id,
  λi hi hw=>by rw[rl,if_neg];rintro rfl;exact hw (by rw[tp];exact(gO _ _ _).2 (.inr rfl)),
  λh i hi=>by
     rw[eh] at hi;rw[rl,if_neg];.exact h i hi
     .rintro rfl;exact hb (h _ hi)⟩
theorem aG.jL (s:St)(o:gV):aG s (s.new o):=
 ⟨ay,λi hi=>by simp only[yV,gO];exact Or.inl hi,λi hi=>by simp only[xB,gO];exact Or.inl hi,λi h1 h2=>by simp only[l3,xB,gO] at h2⊢;exact Or.inr ag,λhs i hi=>by simp only[yV,xB,gO] at hi⊢;exact hi.imp (hs i) id,
  λi hi hw=>by rw[Cv,if_neg ag],
  λh i hi=>by rw[l3] at hi;rw[Cv,if_neg ag];exact h i ag⟩
theorem fp.mono {g:Nat->Option gV}{B:Nat->Prop}(h:fp P X A ρ g w)(hA:∀i,A i->B i)(Ay:∀i,A i->FL i=ρ i):fp P X B FL g w:=by
 refine⟨λb o hx hg=>?_,λb b' o o' hx sd hg hg' e=>?_⟩
 .obtain⟨h1,x,h2,h3⟩:=h.lz b o hx hg;refine⟨hA b h1,x,by rw[Ay b h1];exact h2,?_⟩;rw[Ay b h1];exact h3.mono hA Ay
 .rw[Ay b (h.lz b o hx hg).1,Ay b' (h.lz b' o' sd hg').1] at e;exact h.inj b b' o o' hx sd hg hg' e
theorem fp.sub {g:Nat->Option gV}{Y:Nat->Prop}(h:fp P X A ρ g w)(hY:∀i,Y i->X i):fp P Y A ρ g w:=
 ⟨λb o hx hg=>h.lz b o (hY b hx) hg,λb b' o o' hx sd hg hg' e=>h.inj b b' o o' (hY b hx) (hY b' sd) hg hg' e⟩
theorem fp.lt {g:Nat->Option gV}(h:fp P X A ρ g w){b:Nat}{o:gV}(hx:X b)(hg:g b=some o):(ρ b).1<w.heap.size:=by obtain⟨_,x,h2,_⟩:=h.lz b o hx hg;exact(xp.1 h2).1
theorem Good.VO (iK:fp P X A ρ s.heap.get w)(Az:∀b,s.next<=b->s.heap.get b=none)(hn:s1.next=s.next)(hg:s1.heap=s.heap)(hw:w1.heap=w.heap)(ho:w1.os=w.os)(ht:w1.tape=w.tape)(hp:w1.output=w.output):Good P X A ρ s s1 w w1 ρ:=by refine⟨ag,λ_ _=>rfl,?_,⟨ho,ht,hp,by rw[hw];exact cG _,λr _ _=>by rw[hw]⟩,λb _ h=>by rw[hg] at h;exact h,λb h1 h2=>by omega,λb _ _=>by rw[hg],λb hb=>by rw[hg];exact Az b ag⟩;rw[hg];refine⟨λb o hx hb=>?_,iK.inj⟩;obtain⟨h1,x,h2,h3⟩:=iK.lz b o hx hb;exact⟨.inl h1,x,by rw[hw];exact h2,h3.mono (λi hi=>.inl hi) (λ_ _=>rfl)⟩
theorem Good.refl (iK:fp P X A ρ s.heap.get w)(Az:∀b,s.next<=b->s.heap.get b=none):Good P X A ρ s s w w ρ:=Good.VO iK Az rfl rfl rfl rfl rfl rfl
theorem Good.trans (hX:∀b,In s2.cU b->X b)(Cb:aG s s1)(Cw:aG s1 s2)(hA:∀i,A i->i<s.next)(h:Good P X A ρ s s1 w w1 Ca)(k:Good P X (dv A s.next s1.next) Ca s1 s2 w1 w2 FL):Good P X A ρ s s2 w w2 FL:=by
 have oT:∀i,dv (dv A s.next s1.next) s1.next s2.next i->dv A s.next s2.next i:=by
  rintro i ((h1|⟨h1,h2⟩)|⟨h1,h2⟩)
  .exact .inl h1
  .exact .inr ⟨h1,xn h2 Cw.next⟩
  .exact .inr ⟨gK Cb.next h1,h2⟩
 refine⟨gK Cb.next Cw.next,λi hi=>?_,k.state.mono oT (λ_ _=>rfl),?_,λb hb h2=>?_,λb h1 h2 h3=>?_,λb hb hw=>?_,k.eg⟩
 .rw[k.same i λh'=>hi ⟨gK Cb.next h'.1,h'.2⟩,h.same i λh'=>hi ⟨h'.1,xn h'.2 Cw.next⟩]
 .refine⟨k.fU.os.trans h.fU.os,k.fU.tape.trans h.fU.tape,k.fU.output.trans h.fU.output,gK h.fU.size k.fU.size,λr hr ht=>?_⟩;rw[k.fU.block r (xn hr h.fU.size) ?_,h.fU.block r hr ?_]
  .rintro⟨b,o,hb,hx,ho,e⟩;exact ht ⟨b,o,Cw.wr b hb,hx,ho,e⟩
  .rintro⟨b,o,hb,hx,ho,e⟩;rcases lA b s.next with dG|hge
   .have h3:=h.old b dG (by rw[ho];simp);obtain⟨o',By⟩:=KJ.1 h3;exact ht ⟨b,o',hb,hx,By,by rw[<-e,h.same b ag]⟩
   .rcases lA b s1.next with F0|adZ
    .rcases h.bI b hge F0 (by rw[ho];simp) with h3|⟨c,o',hc,hxc,hoc,h3⟩
     .omega
     .exact ht ⟨c,o',Cw.wr c hc,hxc,hoc,by rw[<-e,h3]⟩
    .rw[h.eg b adZ] at ho;cases ho
 .rcases KJ.1 (k.old b (xn hb Cb.next) h2) with⟨o,ho⟩
  exact h.old b hb (by rw[ho];simp)
 .rcases lA b s1.next with dG|hge
  .have h4:=k.old b dG h3;rw[k.same b ag];rcases h.bI b h1 dG h4 with h5|⟨c,o,hc,hxc,hoc,h5⟩
   .exact .inl h5
   .exact .inr ⟨c,o,Cw.wr c hc,hxc,hoc,h5⟩
  .rcases k.bI b hge h2 h3 with h5|⟨c,o,hc,hxc,hoc,h5⟩
   .exact .inl (gK h.fU.size h5)
   .rcases lA c s.next with dG|akx
    .obtain⟨o',By⟩:=KJ.1 (h.old c dG (by rw[hoc];simp));exact .inr ⟨c,o',hc,hxc,By,by rw[h5,h.same c ag]⟩
    .rcases lA c s1.next with F0|adZ
     .rcases h.bI c akx F0 (by rw[hoc];simp) with h6|⟨c',o',ux,aky,akz,h6⟩
      .exact .inl (by rw[h5];exact h6)
      .exact .inr ⟨c',o',Cw.wr c' ux,aky,akz,by rw[h5,h6]⟩
     .rw[h.eg c adZ] at hoc;cases hoc
 .rw[k.kept b (xn hb Cb.next) hw,h.kept b hb λh'=>hw (Cw.wr b h')]
variable {E:ig}{s':St}
structure c8 (E:ig)(P:Program):Prop where
 ty:∀t i,E.ty.get t=some i->P.info? t=some i
 fn:∀f x,E.fn.get f=some x->P.funcs[f]?=some x
 VI:liesAt P P.depth E.VI (2/ P.cellsOf E.VI) 0 E.VI 1=true
 agP:P.underlying E.VI≠some (.int .u8)
 eqs:∀t xs,yM t xs E.eqs=true->∀(ys:a6)(r:Bool),fQ xs ys=some r->∀w,(Op.equal t (.agg ⟨xs⟩) (.agg ⟨ys⟩)).run P w= .ok r w/\∀op ox oy,(eqGuard op t ox oy (.agg ⟨xs⟩) (.agg ⟨ys⟩)).run P w= .ok () w
 keys:∀t xs,yM t xs E.eqs=true->∀b w,(Instr.checkKey b 10000 t (.agg ⟨xs⟩)).run P w= .ok () w
 zs:∀t i z,E.ty.get t=some i->i.zero=some z->∀ρ,cw ρ z=z
 agQ:∀t m f,mh t m E.sk=some f->∀(a:Addr)(args:Array Value) w,(callMethod (.iface t (.pointer (some a))) m args).run P w=(callFunc f (#[.pointer (some a)]++args)).run P w
 agR:∀t m f,mh t m E.sk=some f->∀(a:Addr) w,(nilAhead (P.types.size+Made.depth) t (.pointer (some a)) m).run P w= .ok (some false) w
theorem dY (hE:c8 E P){t:TypeId}{d:TypeDesc}(h:ji E t=some d):P.underlying t=some d:=by
 obtain⟨i,hi,h⟩:=aD h;have h1:=hE.ty t i hi;unfold Program.underlying;rw[h1];unfold agG at h;split at h
 .rename_i n u hd;obtain⟨j,hj,h⟩:=aD h;have h2:=hE.ty u j hj;obtain⟨desc,_,_,_,_,_,_,_,_,_⟩:=i;simp only at hd;subst hd;simpa[h2] using h
 .rename_i hd;obtain⟨desc,_,_,_,_,_,_,_,_,_⟩:=i;simp only at hd h⊢;cases desc<;>simp_all
theorem Cx (hE:c8 E P){t:TypeId}{n:Nat}(h:size E t=some n):∃i,P.info? t=some i/\i.size=n:=by obtain⟨i,hi,h⟩:=aD h;exact⟨i,hE.ty t i hi,by simpa using h⟩
theorem aal (hE:c8 E P){t:TypeId}{z:Value}(h:zero E t=some z):∃i,P.info? t=some i/\i.zero=some z:=by obtain⟨i,hi,h⟩:=aD h;exact⟨i,hE.ty t i hi,h⟩
theorem mD (hE:c8 E P){t:TypeId}{z:Value}(h:zero E t=some z)(ρ:iD):cw ρ z=z:=by obtain⟨i,hi,h⟩:=aD h;exact hE.zs t i z hi h ρ
theorem vJ (hE:c8 E P){t:TypeId}{d:TypeDesc}(h:ji E t=some d)(w:World):(isAgg t).run P w= .ok (Au d) w:=by unfold isAgg;simp only[Sem.run_bind,run_underlying (dY hE h) w,Result.andThen_ok];cases d<;>rfl
theorem run_sizeOf (hE:c8 E P){t:TypeId}{n:Nat}(h:size E t=some n)(w:World):(sizeOf t).run P w= .ok n w:=by obtain⟨i,h1,h2⟩:=Cx hE h;simp[sizeOf,typeInfo,h1,h2]
theorem kg (hE:c8 E P){t:TypeId}{z:Value}(h:zero E t=some z)(w:World):(zeroValue t).run P w= .ok z w:=by obtain⟨i,h1,h2⟩:=aal hE h;simp[zeroValue,typeInfo,h1,h2]
theorem nX (hE:c8 E P){t:TypeId}{n:Nat}(h:size E t=some n):P.cellsOf t=n:=by obtain⟨i,h1,h2⟩:=Cx hE h;simp[Program.cellsOf,h1,h2]
theorem K8 (v:Value):flat v=v.oneCell':=by cases v<;>rfl
theorem add_lit (b o i:Nat):(⟨b,o,none⟩:Addr).add i=⟨b,o+i,none⟩:=by unfold Addr.add;split<;>simp_all
theorem vK {w:World}{g:Nat}{cs:a6}{e:TypeId}{fr:Nat×Nat}(hg:w.heap[g]?=some (.cells ⟨cs⟩ e fr))(j:Nat):w.cell? ⟨g,j,none⟩=cs[j]?:=by simp[World.cell?,hg]
theorem jk (P:Program){w:World}{g:Nat}{cs:a6}{e:TypeId}{fr:Nat×Nat}(hg:w.heap[g]?=some (.cells ⟨cs⟩ e fr))(o n:Nat)(h:o+n<=cs.length):
  (loadCells ⟨g,o,none⟩ n).run P w= .ok ((cs.drop o).take n).toArray w:=by
 have hl:((cs.drop o).take n).length=n:=by simp;omega
 have:=run_loadCells_list (P:=P) w ⟨g,o,none⟩ ((cs.drop o).take n) (λj v hv=>by
  rw[add_lit,vK hg];rw[IV] at hv;split at hv
  .simpa using hv
  .cases hv)
 rwa [hl] at this
theorem rQ (v:Value):∀(l:a6)(k:Nat),k<l.length->(l.set k v).take (k+1)=l.take k++[v]
 |[],k,h=>by simp at h
 |x::xs,0,_=>by simp
 |x::xs,k+1,h=>by simpa using rQ v xs k (by simpa using h)
theorem wW (v:Value)(l:a6)(k m:Nat):(l.set k v).drop (k+1+m)=l.drop (k+1+m):=by rw[List.drop_set_of_lt ag]
theorem mj (P:Program)(g o:Nat)(t:TypeId)(fz:Nat×Nat):∀(vs:a6)(i:Nat)(cur:Array Value)(w:World),w.heap[g]?=some (.cells cur t fz)->(fz=(0,0)\/cur.size<=fz.1)->o+i+vs.length<=cur.size->(∀v∈vs,v.oneCell'=true)->
  (storeCells ⟨g,o,none⟩ vs i).run P w= .ok () (w.setRow g (cur.toList.take (o+i)++vs++cur.toList.drop (o+i+vs.length)).toArray)
 |[],i,cur,w,hg,_,_,_=>by
  simp only[storeCells,gg,lW,xq,yD,Array.toArray_toList];rw[setRow_self w g cur t fz hg];rfl
 |v::aS,i,cur,w,hg,hfz,hl,h1=>by
  have hi:o+i<cur.size:=by simp at hl;omega
  have Cc:(⟨g,o,none⟩:Addr).add i=⟨g,o+i,none⟩:=add_lit g o i;have qq:w.cell? ⟨g,o+i,none⟩=some cur[o+i]:=by simp[World.cell?,hg,hi]
  have akA:w.frozen? ⟨g,o+i,none⟩=false:=by
   obtain⟨lo,fF⟩:=fz;simp only[World.frozen?,hg,An,mg];rcases hfz with h|h
   .simp at h;omega
   .simp only at h;omega
  have iK:(store ((⟨g,o,none⟩:Addr).add i) v).run P w= .ok () (w.setRow g (cur.setIfInBounds (o+i) v)):=by
   rw[Cc,run_store P w _ v _ (h1 v ay),qq];simp[akA,setCell_eq_setRow w g (o+i) cur t fz v hg]
  have ih:=mj P g o t fz aS (i+1) (cur.setIfInBounds (o+i) v) (w.setRow g (cur.setIfInBounds (o+i) v)) (setRow_heap w g cur _ t _ hg) (by simpa using hfz) (by simp at hl⊢;omega) (λx hx=>h1 x (by simp[hx]));simp only[storeCells,Sem.run_bind,iK,Result.andThen_ok,ih,setRow_setRow]
  congr 3
  rw[Array.toList_setIfInBounds,show o+(i+1)=o+i+1 by omega,rQ _ _ _ (by simpa using hi),wW,cY,show o+i+1+aS.length=o+i+(aS.length+1) by omega];simp
theorem ml {β:Type}{k:a6->TypeId->Bool->St->Option β}{b:Nat}{r:β}(h:s.row b k=some r):∃c e u,s.heap.get b=some (.cells c e u)/\k c e u (s.aY b)=some r:=by
 obtain⟨o,h1,h2⟩:=aD h;cases o with
 |cells c e u=>exact⟨c,e,u,h1,h2⟩
 |map es=>cases h2
 |lQ z p=>cases h2
 |uk m=>cases h2
 |yJ ws=>cases h2
theorem fp.row (h:fp P X A ρ s.heap.get w){b:Nat}{c:a6}{e:TypeId}{u:Bool}(hx:X b)(hg:s.heap.get b=some (.cells c e u)):
  A b/\∃(c' aS:a6)(fr:Nat×Nat),w.heap[(ρ b).1]?=some (.cells ⟨c'++aS⟩ e fr)/\LR A ρ c c'/\c'.length=c.length/\(fr=(0,0)\/(c'++aS).length<=fr.1)/\
    (u=true->fr=(0,0)/\c.length+aS.length=(ρ b).2*P.cellsOf e/\0<P.cellsOf e/\(ρ b).2<=maxLen)/\
    (u=false->((aS=[]/\fr=(0,0))\/(P.underlying e=some (.int .u8)/\P.cellsOf e=1/\c.length+aS.length<=fr.1))/\c.length<=(ρ b).2):=by
 obtain⟨h1,x,h2,c',aS,fr,rfl,h3,h4,h5⟩:=h.lz b _ hx hg;refine⟨h1,c',aS,fr,h2,h3,h3.length,?_,h4,h5⟩;cases u with
 |true=>exact .inl (h4 rfl).1
 |false=>rcases(h5 rfl).1 with h6|h6
         .exact .inl h6.2
         .exact .inr (by rw[bL,h3.length];exact h6.2.2)
theorem G3:∀(ws:List (Nat×a6))(off:Nat){p:Nat×a6},Bv ws off=some p->p∈ws/\p.1<=off
 |[],off,p,h=>by cases h
 |q::l,off,p,h=>by
  have h:bo (Nat.ble q.1 off&&Nat.ble (Nat.succ (Nat.sub off q.1)) q.2.length) (some q) (Bv l off)=some p:=h;rw[dW] at h;split at h
  .rename_i hb;cases h
   rw[bO] at hb;exact⟨gh,mT hb.1⟩
  .obtain⟨h1,h2⟩:=G3 l off h;exact⟨jA _ h1,h2⟩
theorem aam {β:Type}{k:a6->Nat->St->Option β}{b off:Nat}{r:β}(h:s.KY b off k=some r):∃c m,((m=0/\∃e u,s.heap.get b=some (.cells c e u))\/∃ws,s.heap.get b=some (.yJ ws)/\(m,c)∈ws)/\m<=off/\k c (off-m) (s.aY b)=some r:=by
 obtain⟨o,h1,h2⟩:=aD h;cases o with
 |cells c e u=>exact⟨c,0,.inl ⟨rfl,e,u,h1⟩,iG _,h2⟩
 |map es=>cases h2
 |lQ z p=>cases h2
 |uk m=>cases h2
 |yJ ws=>
  obtain⟨p,hp,h4⟩:=aD h2;obtain⟨h5,h6⟩:=G3 ws off hp;exact⟨p.2,p.1,.inr ⟨ws,h1,h5⟩,h6,h4⟩
theorem fp.KY (h:fp P X A ρ s.heap.get w){b m:Nat}{c:a6}(hx:X b)(hg:(m=0/\∃e u,s.heap.get b=some (.cells c e u))\/∃ws,s.heap.get b=some (.yJ ws)/\(m,c)∈ws):
  A b/\∃(pre c' aS:a6)(e:TypeId)(fr:Nat×Nat),w.heap[(ρ b).1]?=some (.cells ⟨pre++(c'++aS)⟩ e fr)/\pre.length=m/\LR A ρ c c'/\c'.length=c.length:=by
 rcases hg with⟨rfl,e,u,hg⟩|⟨ws,hg,hm⟩
 .obtain⟨h1,c',aS,fr,h2,h3,h4,_⟩:=h.row hx hg;exact⟨h1,[],c',aS,e,fr,h2,rfl,h3,h4⟩
 .obtain⟨h1,x,h2,cs,t,fr,rfl,h0⟩:=h.lz b _ hx hg;obtain⟨pre,c',aS,rfl,h4,h3⟩:=h0 _ hm;exact⟨h1,pre,c',aS,t,fr,h2,h4,h3,h3.length⟩
theorem K9 (hE:c8 E P){t:TypeId}{b off:Nat}{v:Value}(h:mw E s t b off=some (v,s')):
  s'=s.aY b/\∀X A ρ w,X b->fp P X A ρ s.heap.get w->∃v',(loadVar t ⟨(ρ b).1,off,none⟩).run P w= .ok v' w/\VR A ρ v v':=by
 obtain⟨c,m,hg,hm,h⟩:=aam h;obtain⟨d,hd,h⟩:=aD h;cases ha:Au d with
 |true=>
  rw[ha] at h;obtain⟨n,hn,h⟩:=aD h;obtain⟨cs,pj,h⟩:=aD h;simp only[sg,cH] at h;obtain⟨rfl,rfl⟩:=h;refine⟨rfl,λX A ρ w hx iK=>?_⟩;obtain⟨h1,pre,c',aS,e,fr,h2,h0,h3,h4⟩:=iK.KY hx hg;rw[qp] at pj;obtain⟨h5,rfl⟩:=kQ pj;rw[eW] at h5;rcases wD n with rfl|yw
  .refine⟨.agg #[],?_,?_⟩
   .unfold loadVar;simp only[Sem.run_bind,vJ hE hd,ha,Result.andThen_ok,if_true,run_sizeOf hE hn];rfl
   .simpa using VR.agg (LR.nil (A:=A) (ρ:=ρ))
  .refine⟨.agg ⟨(c'.drop (off-m)).take n⟩,?_,?_⟩
   .unfold loadVar;simp only[Sem.run_bind,vJ hE hd,ha,Result.andThen_ok,if_true,run_sizeOf hE hn];rw[jk P h2 off n (by simp;omega)];have:((pre++(c'++aS)).drop off).take n=(c'.drop (off-m)).take n:=by
     rw[List.drop_append,yE ag,pn,h0,Sz ag,B8 (by simp;omega)]
    rw[this];rfl
   .exact VR.agg ((h3.drop (off-m)).take n)
 |false=>
  rw[ha] at h;obtain⟨v0,hv,h⟩:=aD h;simp only[sg,cH] at h;obtain⟨rfl,rfl⟩:=h;refine⟨rfl,λX A ρ w hx iK=>?_⟩;obtain⟨h1,pre,c',aS,e,fr,h2,h0,h3,h4⟩:=iK.KY hx hg;rw[dR] at hv;obtain⟨v',hv',hr⟩:=h3.get hv;refine⟨v',?_,hr⟩;have hc:w.cell? ⟨(ρ b).1,off,none⟩=some v':=by
   rw[vK h2,Ao ag,h0,wE (by
    have:=(te.1 hv').1;omega)]
   exact hv'
  unfold loadVar;simp only[Sem.run_bind,vJ hE hd,ha,Result.andThen_ok,pB,jY];simp[load,Sem.run,hc]
variable {w':World}
def iD.at (ρ:iD)(n:Nat)(q:Nat×Nat):iD:=λi=>if i=n then q else ρ i
@[simp] theorem iD.rn (ρ:iD)(n:Nat)(q:Nat×Nat):ρ.at n q n=q:=by simp[iD.at]
theorem iD.um (ρ:iD){n i:Nat}(q:Nat×Nat)(h:i≠n):ρ.at n q i=ρ i:=by simp[iD.at,h]
theorem Good.bk {b:Nat}{o o':gV}{x':Obj}(iK:fp P X A ρ s.heap.get w)(lV:∀b,s.next<=b->s.heap.get b=none)(hx:X b)(hg:s.heap.get b=some o)
  (fN:∀c,s'.heap.get c=if c=b then some o' else s.heap.get c)(VP:s'.next=s.next)(nY:In s'.wr b)
  (sd:w'.heap[(ρ b).1]?=some x')(ho:FZ P A ρ (ρ b) o' x')(hf:Fr w w' λr=>r=(ρ b).1):Good P X A ρ s s' w w' ρ:=by
 have hbn:b<s.next:=by
  rcases lA b s.next with h|h
  .exact h
  .rw[lV b h] at hg;cases hg
 have key:∀c o2,X c->s'.heap.get c=some o2->∃o3,s.heap.get c=some o3:=by
  intro c o2 _ h;rw[fN] at h;split at h
  .subst c;exact⟨o,hg⟩
  .exact⟨o2,h⟩
 refine⟨ag,λ_ _=>rfl,⟨λc o2 hc h=>?_,λc c' o2 o3 hc ux h h' e=>?_⟩,⟨hf.os,hf.tape,hf.output,hf.size,λr hr ht=>hf.block r hr λe=>ht ⟨b,o,nY,hx,hg,e.symm⟩⟩,λc hc h=>?_,λc h1 h2=>by omega,λc hc hw=>?_,λc hc=>?_⟩
 .rw[fN] at h;split at h
  .subst c;cases h
   exact⟨.inl (iK.lz b o hx hg).1,x',sd,ho.mono (λi hi=>.inl hi) (λ_ _=>rfl)⟩
  .rename_i fY;obtain⟨h1,x,h2,h3⟩:=iK.lz c o2 hc h;refine⟨.inl h1,x,?_,h3.mono (λi hi=>.inl hi) (λ_ _=>rfl)⟩;rw[hf.block _ (xp.1 h2).1 (λe=>fY (iK.inj c b o2 o hc hx h hg e))];exact h2
 .obtain⟨o4,h4⟩:=key c o2 hc h;obtain⟨o5,h5⟩:=key c' o3 ux h';exact iK.inj c c' o4 o5 hc ux h4 h5 e
 .rw[fN] at h;split at h
  .subst c;rw[hg];simp
  .exact h
 .rw[fN,if_neg];rintro rfl;exact hw nY
 .rw[fN,if_neg ag];exact lV c ag
theorem Good.alloc {o:gV}{x:Obj}{q:Nat×Nat}(iK:fp P X A ρ s.heap.get w)(lV:∀b,s.next<=b->s.heap.get b=none)(hA:∀i,A i->i<s.next)
  (fN:∀c,s'.heap.get c=if c=s.next then some o else s.heap.get c)(VP:s'.next=s.next+1)(nY:In s'.wr s.next)
  (hq:w.heap.size<=q.1)(hx:w'.heap[q.1]?=some x)(ho:FZ P A ρ q o x)(hf:Fr w w' λ_=>False):Good P X A ρ s s' w w' (ρ.at s.next q):=by
 have Ay:∀i,A i->ρ.at s.next q i=ρ i:=λi hi=>iD.um ρ q (by have:=hA i hi;omega)
 have dG:∀c o2,X c->s.heap.get c=some o2->(ρ c).1<w.heap.size:=λc o2 hc h=>iK.lt hc h
 refine' zbl;refine⟨ag,λi hi=>iD.um ρ q ag,⟨λc o2 hc h=>?_,λc c' o2 o3 hc ux h h' e=>?_⟩,⟨hf.os,hf.tape,hf.output,hf.size,λr hr ht=>hf.block r hr λe=>e⟩,λc hc h=>?_,λc h1 h2 h3=>?_,λc hc hw=>?_,λc hc=>?_⟩
 .rw[fN] at h;split at h
  .subst c;cases h
   rw[iD.rn];exact⟨.inr ⟨cG _,ag⟩,x,hx,ho.mono (λi hi=>.inl hi) Ay⟩
  .obtain⟨h1,y,h2,h3⟩:=iK.lz c o2 hc h;rw[Ay c h1];refine⟨.inl h1,y,?_,h3.mono (λi hi=>.inl hi) Ay⟩;rw[hf.block _ (xp.1 h2).1 (λe=>e)];exact h2
 .rw[fN] at h h';split at h<;>split at h'
  .omega
  .subst c;rw[iD.rn,iD.um ρ q (fY c' o3 h')] at e;have:=dG c' o3 ux h';omega
  .subst c';rw[iD.rn,iD.um ρ q (fY c o2 h)] at e;have:=dG c o2 hc h;omega
  .rw[iD.um ρ q (fY c o2 h),iD.um ρ q (fY c' o3 h')] at e;exact iK.inj c c' o2 o3 hc ux h h' e
 .rw[fN,if_neg ag] at h;exact h
 .have:c=s.next:=by omega
  subst c;rw[iD.rn];exact .inl hq
 .rw[fN,if_neg ag]
 .rw[fN,if_neg ag];exact lV c ag
theorem Good.renew {b:Nat}{o o':gV}{x':Obj}(iK:fp P X A ρ s.heap.get w)(lV:∀b,s.next<=b->s.heap.get b=none)(hA:∀i,A i->i<s.next)(hx:X b)(hg:s.heap.get b=some o)
  (fN:∀c,s'.heap.get c=if c=s.next then some o' else if c=b then none else s.heap.get c)(VP:s'.next=s.next+1)(nY:In s'.wr b)(hwn:In s'.wr s.next)
  (sd:w'.heap[(ρ b).1]?=some x')(ho:FZ P A ρ (ρ b) o' x')(hf:Fr w w' λr=>r=(ρ b).1):Good P X A ρ s s' w w' (ρ.at s.next (ρ b)):=by
 have Ay:∀i,A i->ρ.at s.next (ρ b) i=ρ i:=λi hi=>iD.um ρ (ρ b) (by have:=hA i hi;omega)
 refine' zbl;refine⟨ag,λi hi=>iD.um ρ _ ag,⟨λc o2 hc h=>?_,λc c' o2 o3 hc ux h h' e=>?_⟩,⟨hf.os,hf.tape,hf.output,hf.size,λr hr ht=>hf.block r hr λe=>ht ⟨b,o,nY,hx,hg,e.symm⟩⟩,λc hc h=>?_,λc h1 h2 h3=>?_,λc hc hw=>?_,λc hc=>?_⟩
 .rw[fN] at h;split at h
  .subst c;cases h
   rw[iD.rn];exact⟨.inr ⟨cG _,ag⟩,x',sd,ho.mono (λi hi=>.inl hi) Ay⟩
  .split at h
   .cases h
   .rename_i hcb;obtain⟨h1,y,h2,h3⟩:=iK.lz c o2 hc h;rw[Ay c h1];refine⟨.inl h1,y,?_,h3.mono (λi hi=>.inl hi) Ay⟩;rw[hf.block _ (xp.1 h2).1 (λe=>hcb (iK.inj c b o2 o hc hx h hg e))];exact h2
 .rw[fN] at h h';split at h<;>split at h'
  .omega
  .subst c;split at h'
   .cases h'
   .rename_i hcb;rw[iD.rn,iD.um ρ _ (fY c' o3 h')] at e;exact absurd (iK.inj c' b o3 o ux hx h' hg e.symm) hcb
  .subst c';split at h
   .cases h
   .rename_i hcb;rw[iD.rn,iD.um ρ _ (fY c o2 h)] at e;exact absurd (iK.inj c b o2 o hc hx h hg e) hcb
  .split at h
   .cases h
   .split at h'
    .cases h'
    .rw[iD.um ρ _ (fY c o2 h),iD.um ρ _ (fY c' o3 h')] at e;exact iK.inj c c' o2 o3 hc ux h h' e
 .rw[fN,if_neg ag] at h;split at h
  .exact absurd rfl h
  .exact h
 .have:c=s.next:=by omega
  subst c;rw[iD.rn];exact .inr ⟨b,o,nY,hx,hg,rfl⟩
 .rw[fN,if_neg ag,if_neg];rintro rfl;exact hw nY
 .rw[fN,if_neg ag];split
  .rfl
  .exact lV c ag
theorem Good.drop {b:Nat}(iK:fp P X A ρ s.heap.get w)(lV:∀b,s.next<=b->s.heap.get b=none)
  (fN:∀c,s'.heap.get c=if c=b then none else s.heap.get c)(VP:s'.next=s.next)(nY:In s'.wr b){o:gV}(hx:X b)(hg:s.heap.get b=some o)
  (hf:Fr w w' λr=>r=(ρ b).1):Good P X A ρ s s' w w' ρ:=by
 refine⟨ag,λi hi=>rfl,⟨λc o2 hc h=>?_,λc c' o2 o3 hc ux h h' e=>?_⟩,⟨hf.os,hf.tape,hf.output,hf.size,λr hr ht=>hf.block r hr λe=>ht ⟨b,o,nY,hx,hg,e.symm⟩⟩,λc hc h=>?_,λc h1 h2 h3=>by omega,λc hc hw=>?_,λc hc=>?_⟩
 .rw[fN] at h;split at h
  .cases h
  .rename_i hcb;obtain⟨h1,y,h2,h3⟩:=iK.lz c o2 hc h;refine⟨.inl h1,y,?_,h3.mono (λi hi=>.inl hi) (λ_ _=>rfl)⟩;rw[hf.block _ (xp.1 h2).1 (λe=>hcb (iK.inj c b o2 o hc hx h hg e))];exact h2
 .rw[fN] at h h';split at h
  .cases h
  .split at h'
   .cases h'
   .exact iK.inj c c' o2 o3 hc ux h h' e
 .rw[fN] at h;split at h
  .exact absurd rfl h
  .exact h
 .rw[fN,if_neg];rintro rfl;exact hw nY
 .rw[fN];split
  .rfl
  .exact lV c ag
theorem Fr.alloc (w:World)(o:Obj):Fr w (w.alloc o) λ_=>False:=⟨rfl,rfl,rfl,ay,λr hr _=>by first|exact heap_alloc_old w o r hr|exact heap_alloc_old w o hr⟩
theorem Fr.G4 (w:World)(o:Obj):Fr w (w.drew.alloc o) λ_=>False:=⟨rfl,rfl,rfl,ay,λr hr _=>by first|exact heap_alloc_old w.drew o r hr|exact heap_alloc_old w.drew o hr⟩
theorem Fr.setRow (w:World)(g:Nat)(cs:Array Value):Fr w (w.setRow g cs) λr=>r=g:=⟨rfl,rfl,rfl,ay,λr _ h=>setRow_other w g r cs h⟩
variable {m:Sem Value}
def Gl (A:Nat->Prop)(ρ:iD):Prop:=∀g,g<16->A g/\(ρ g).1=g
structure pq (P:Program)(X A:Nat->Prop)(ρ:iD)(s s':St)(w:World):Prop where
 lt:∀i,A i->i<s.next
 eg:∀b,s.next<=b->s.heap.get b=none
 cU:∀b,In s'.cU b->X b
 st:fp P X A ρ s.heap.get w
def cK (P:Program)(X A:Nat->Prop)(ρ:iD)(s s':St)(w:World)(v:Value)(m:Sem Value):Prop:=
 ∃v' w' eK,m.run P w= .ok v' w'/\VR (dv A s.next s'.next) eK v v'/\Good P X A ρ s s' w w' eK
theorem cK.same (h:pq P X A ρ s s' w)(hn:s'.next=s.next)(hg:s'.heap=s.heap)(hr:m.run P w= .ok v' w)(hv:VR A ρ v v'):cK P X A ρ s s' w v m:=
 ⟨v',w,ρ,hr,hv.mono (λi hi=>.inl hi) (λ_ _=>rfl),Good.VO h.st h.eg hn hg rfl rfl rfl rfl⟩
theorem cK.pure (h:pq P X A ρ s s w)(hr:m.run P w= .ok v' w)(hv:VR A ρ v v'):cK P X A ρ s s w v m:=cK.same h rfl rfl hr hv
theorem gi (s:St)(b:Nat):In (s.aY b).cU b:=by rw[sy];exact(gO _ _ _).2 (.inr rfl)
theorem fq (s:St)(b:Nat)(o:Option gV):In (s.put b o).cU b:=by rw[rm];exact(gO _ _ _).2 (.inr rfl)
theorem jl (s:St)(b:Nat)(o:Option gV):In (s.put b o).wr b:=by rw[tp];exact(gO _ _ _).2 (.inr rfl)
theorem kh (s:St)(o:gV):In (s.new o).wr s.next:=by rw[xB];exact(gO _ _ _).2 (.inr rfl)
theorem qt (e:TypeId)(cs:Array Value)(w:World):(newRow e cs).run P w= .ok ⟨w.heap.size,0,none⟩ (w.alloc (.cells cs e)):=rfl
theorem Q4 {c:a6}{t:TypeId}(h:OG s c t=some (v,s')):aG s s'/\∀X A ρ w c',pq P X A ρ s s' w->LR A ρ c c'->cK P X A ρ s s' w v (do pure (.pointer (some (<-newRow t ⟨c'⟩)))):=by
 simp only[OG,aN,sg,cH] at h;obtain⟨rfl,rfl⟩:=h;refine⟨aG.jL s _,λX A ρ w c' hp hc=>⟨.pointer (some ⟨w.heap.size,0,none⟩),w.alloc (.cells ⟨c'⟩ t),ρ.at s.next (w.heap.size,c.length),?_,?_,?_⟩⟩
 .simp only[Sem.run_bind,qt,Result.andThen_ok];rfl
 .have:=VR.ptr (A:=dv A s.next (s.new (.cells c t false)).next) (ρ:=ρ.at s.next (w.heap.size,c.length)) (b:=s.next) (o:=0) (s:=none) (.inr ⟨cG _,ay⟩);simpa using this
 .refine Good.alloc (o:=.cells c t false) (x:=.cells ⟨c'⟩ t) hp.st hp.eg hp.lt (λc=>by simp) ay (kh s _) (cG _) (heap_alloc_new w _) ?_ (Fr.alloc w _);exact⟨c',[],(0,0),ay,hc,(λh=>by cases h),λ_=>⟨.inl ⟨rfl,rfl⟩,cG _⟩⟩
theorem SL (hE:c8 E P){t:TypeId}(h:I1 E s t=some (v,s')):aG s s'/\∀X A ρ w,pq P X A ρ s s' w->cK P X A ρ s s' w v (Instr.alloc t true (.tuple #[])):=by
 obtain⟨z,hz,h⟩:=aD h;obtain⟨hg,hk⟩:=Q4 (P:=P) h;refine⟨hg,λX A ρ w hp=>?_⟩;have hc:LR A ρ (cg z) z.cells.toList:=by rw[hU];exact(VR.ground (mD hE hz)).cells
 obtain⟨v',w',eK,h1,h2,h3⟩:=hk X A ρ w _ hp hc;refine⟨v',w',eK,?_,h2,h3⟩;rw[<-h1];unfold Instr.alloc;simp only[Sem.run_bind,kg hE hz,Result.andThen_ok];rfl
theorem I6 {β:Type}{x:Value}{k:Nat->Nat->Option β}{r:β}(h:FJ x k=some r):∃b o,x= .pointer (some ⟨b,o,none⟩)/\k b o=some r:=by
 unfold FJ at h;split at h
 .exact⟨_,_,rfl,h⟩
 .cases h
theorem VR.nM {b o:Nat}{t:Option Nat}(h:VR A ρ (.pointer (some ⟨b,o,t⟩)) v'):v'= .pointer (some ⟨(ρ b).1,o,t⟩):=by rw[<-h.self,mW]
theorem VR.fS {b o l c:Nat}(h:VR A ρ (.slice (some ⟨b,o,none⟩) l c) v'):v'= .slice (some ⟨(ρ b).1,o,none⟩) l (dq (ρ b) c):=by rw[<-h.self,eH]
theorem VR.tq {a:Addr}{l c:Nat}(h:VR A ρ (.slice (some a) l c) v'):∃a',v'= .slice (some a') l (dq (ρ a.block) c):=by obtain⟨a',h1⟩:=sx ρ a l c;exact⟨a',by rw[<-h.self,h1]⟩
theorem VR.jm {l c:Nat}(h:VR A ρ (.slice none l c) v'):v'= .slice none l c:=by rw[<-h.self];simp
theorem aan (hE:c8 E P){t:TypeId}{a:Value}(h:(FJ a λb o=>mw E s t b o)=some (v,s')):aG s s'/\∀X A ρ w a',pq P X A ρ s s' w->VR A ρ a a'->cK P X A ρ s s' w v (Instr.loadAt t a'):=by obtain⟨b,o,rfl,h'⟩:=I6 h;clear h;replace h:=h';clear h';obtain⟨rfl,hk⟩:=K9 hE h;refine⟨aG.aY s b,λX A ρ w a' hp ha=>?_⟩;obtain⟨v',h1,h2⟩:=hk X A ρ w (hp.cU b (gi s b)) hp.st;refine cK.same hp ay ay ?_ h2;rw[ha.nM];exact h1
theorem VQ (hE:c8 E P){t:TypeId}{a x:Value}(h:(FJ a λb o=>mV E s t b o x)=some (v,s')):aG s s'/\∀X A ρ w a' x',pq P X A ρ s s' w->VR A ρ a a'->VR A ρ x x'->
  v= .tuple ⟨[]⟩/\∃w' eK,(Instr.storeAt t a' x').run P w= .ok () w'/\Good P X A ρ s s' w w' eK:=by
 obtain⟨b,o,rfl,h'⟩:=I6 h;clear h;replace h:=h';clear h';obtain⟨c,e,u,hg,h⟩:=ml h;obtain⟨n,hn,h⟩:=aD h;obtain⟨hl,h⟩:=bz h;obtain⟨hf,h⟩:=bz h;obtain⟨cs,pj,h⟩:=aD h;simp only[sg,cH] at h;obtain⟨rfl,rfl⟩:=h;refine⟨(aG.aY s b).trans (aG.put _ b _ (by rw[iE,hg];simp)),λX A ρ w a' x' hp ha hx=>⟨rfl,?_⟩⟩;have hX:X b:=hp.cU b (fq _ b _);obtain⟨hA,c',aS,fr,h2,h3,h4,h5,h6,h7⟩:=hp.st.row hX hg;rw[hU] at pj hl hf;rw[dm] at hl;obtain⟨h8,h9⟩:=nW _ _ pj;have hxc:=hx.cells;have Cy:=hxc.length;have jM:x'.cells.toList.length=n:=by rw[Cy];simpa using hl
 rw[ha.nM];refine⟨w.setRow (ρ b).1 (⟨(c'++aS).take o++x'.cells.toList++(c'++aS).drop (o+x'.cells.toList.length)⟩),ρ,?_,?_⟩
 .unfold Instr.storeAt Instr.sureAddr storeVar;have jd:x'.cells.size=n:=by simpa using jM
  have nZ:=mj P (ρ b).1 o e fr x'.cells.toList 0 ⟨c'++aS⟩ w h2 (by simpa using h5) (by simp at h8 Cy⊢;omega) (λy hy=>by rw[<-K8];exact hxc.jE ((mA _).1 hf) y hy);simp only[Sem.run_bind,Sem.run_pure,Result.andThen_ok,run_sizeOf hE hn,jd,ne_eq,not_true,pB,ite_false];simpa using nZ
 .have cX:(c'++aS).take o++x'.cells.toList++(c'++aS).drop (o+x'.cells.toList.length)=(c'.take o++x'.cells.toList++c'.drop (o+x'.cells.toList.length))++aS:=by
   rw[B8 ag,Sz ag];simp
  refine Good.bk (o:=.cells c e u) (o':=.cells cs e u) hp.st hp.eg hX hg (λc=>by simp) ay (jl _ b _) (setRow_heap w _ _ _ _ _ h2) ?_ (Fr.setRow w _ _);have h8':o+x.cells.size<=c.length:=by simpa using h8
  have uV:cs.length=c.length:=by rw[h9];simp;omega
  refine⟨c'.take o++x'.cells.toList++c'.drop (o+x'.cells.toList.length),aS,fr,by rw[cX],?_,?_,?_⟩
  .rw[h9,Cy];exact((h3.take o).append hxc).append (h3.drop _)
  .rw[uV];exact h6
  .rw[uV];exact h7
variable {x y x' y':Value}
theorem rR (a b:Int):Vi a b=decide (a<b):=by
 unfold Vi;split
 .rename_i x y;rw[po];simp[SB]
 .rename_i x y;simp only[Bool.false_eq,mg,Int.ofNat_eq_natCast];omega
 .rename_i x y;simp only[Bool.true_eq,bQ,Int.ofNat_eq_natCast];omega
 .rename_i x y;rw[po];simp only[nG,bQ];omega
theorem jN (a b:Int):yK a b=(a== b):=by
 unfold yK;split
 .rename_i x y;rw[po];simp only[B7,Ap,Int.ofNat_eq_natCast];omega
 .rename_i x y;rw[po];simp
 .rename_i h1 h2;rw[po];simp only[jY,Ap,false_iff];rintro rfl;cases a with
  |ofNat x=>exact h1 x x rfl rfl
  |negSucc x=>exact h2 x x rfl rfl
theorem j2 (k:IntKind)(n:Int):qm k n=k.wrap n:=by
 unfold qm;split
 .rename_i m;rw[dW];split
  .rename_i h;simp only[nG] at h;cases k<;>simp[half,IntKind.wrap,IntKind.bits,IntKind.signed] at h⊢<;>omega
  .rfl
 .rfl
theorem vL {k j:IntKind}(h:qo k j=true):k=j:=by cases k<;>cases j<;>first|rfl|(exact absurd h bJ)
theorem eY (x:List UInt8):∀y,gB x y=(x== y):=by
 induction x with
 |nil=>intro y;cases y<;>rfl
 |cons a x ih=>intro y;cases y with
  |nil=>rfl
  |cons b y=>
   have h:gB (a::x) (b::y)=bo (Nat.beq a.toNat b.toNat) (gB x y) false:=rfl;rw[h,ih,dW,po];simp[uJ]
theorem tt (x:List UInt8):∀y,oG x y=Op.bytesLess x y:=by
 induction x with
 |nil=>intro y;cases y<;>simp[Op.bytesLess]<;>rfl
 |cons a x ih=>intro y;cases y with
  |nil=>simp[Op.bytesLess];rfl
  |cons b y=>
   have h:oG (a::x) (b::y)=bo (Nat.ble (Nat.succ a.toNat) b.toNat) true (bo (Nat.beq a.toNat b.toNat) (oG x y) false):=rfl;rw[h,ih,dW,dW];simp only[Op.bytesLess,nG,B7,SB,<-SC,uJ];rw[po];by_cases h1:a<b<;>by_cases h2:a=b<;>simp[h1,h2]
theorem toList_data (s:ByteArray):s.toList=s.data.toList:=ByteArray.toList_eq s
theorem VS {β:Type}{b:Bool}{x:Option β}{r:β}(h:bo b none x=some r):b=false/\x=some r:=by
 cases b with
 |true=>cases h
 |false=>exact⟨rfl,h⟩
theorem VT {op:BinOp}{k:IntKind}{a b:Int}(h:KZ op k a b=some v)(t:TypeId)(w:World):(binOp op t (.int k a) (.int k b)).run P w= .ok v w/\∀ρ,cw ρ v=v:=by
 cases op<;>simp only[KZ,sg,reduceCtorEq] at h
 case quo=>
  refine' zaV
 case rem=>
  refine' zaV
 case xor=>
  unfold agH at h;split at h
  .rename_i m n;obtain⟨h0,h⟩:=bz h;simp only[sg] at h;subst h;simp only[bO,nG] at h0;refine⟨?_,λρ=>by simp⟩;have hm:m<2^ 8:=by omega
   have hn:n<2^ 8:=by omega
   have hx:(BitVec.ofInt 8 (Int.ofNat m)^^^ BitVec.ofInt 8 (Int.ofNat n)).toNat=m^^^ n:=by
    rw[BitVec.toNat_xor];have e1:(BitVec.ofInt 8 (Int.ofNat m)).toNat=m:=by
     rw[show(Int.ofNat m)=((m:Nat):Int) from rfl,aaa,aab,IW hm]
    have e2:(BitVec.ofInt 8 (Int.ofNat n)).toNat=n:=by
     rw[show(Int.ofNat n)=((n:Nat):Int) from rfl,aaa,aab,IW hn]
    rw[e1,e2]
   have dG:m^^^ n<2^ 8:=Nat.xor_lt_two_pow hm hn;simp only[binOp,Op.intBits,IntKind.bits,Sem.run_pure,Result.ok.injEq,Value.int.injEq,KK,Aq,ne_eq,not_true_eq_false,pB,ite_false];show IntKind.u8.wrap ((((BitVec.ofInt 8 (Int.ofNat m))^^^ (BitVec.ofInt 8 (Int.ofNat n)):BitVec 8).toNat:Nat):Int)=((m^^^ n:Nat):Int);rw[hx];generalize m^^^ n=z at dG⊢;simp[IntKind.wrap,IntKind.bits,IntKind.signed];omega
  .rename_i m n;obtain⟨h0,h⟩:=bz h;simp only[sg] at h;subst h;simp only[bO,nG] at h0;refine⟨?_,λρ=>by simp⟩;have hm:m<2^ 62:=by omega
   (have hm':m<2^ 64:=by omega);(have hn:n<2^ 62:=by omega);have hn':n<2^ 64:=by omega
   have hx:(BitVec.ofInt 64 (Int.ofNat m)^^^ BitVec.ofInt 64 (Int.ofNat n)).toNat=m^^^ n:=by
    rw[BitVec.toNat_xor];have e1:(BitVec.ofInt 64 (Int.ofNat m)).toNat=m:=by
     rw[show(Int.ofNat m)=((m:Nat):Int) from rfl,aaa,aab,IW hm']
    have e2:(BitVec.ofInt 64 (Int.ofNat n)).toNat=n:=by
     rw[show(Int.ofNat n)=((n:Nat):Int) from rfl,aaa,aab,IW hn']
    rw[e1,e2]
   have dG:m^^^ n<2^ 62:=Nat.xor_lt_two_pow hm hn;simp only[binOp,Op.intBits,IntKind.bits,Sem.run_pure,Result.ok.injEq,Value.int.injEq,KK,Aq,ne_eq,not_true_eq_false,pB,ite_false];show IntKind.i64.wrap ((((BitVec.ofInt 64 (Int.ofNat m))^^^ (BitVec.ofInt 64 (Int.ofNat n)):BitVec 64).toNat:Nat):Int)=((m^^^ n:Nat):Int);rw[hx];generalize m^^^ n=z at dG⊢;simp[IntKind.wrap,IntKind.bits,IntKind.signed];omega
  .cases h
 all_goals
  subst h;refine⟨?_,λρ=>by simp⟩;first
                                  |(simp[binOp,Op.intArith,Op.intCmp,j2];done)
                                  |(simp[binOp,Op.intArith,Op.intCmp,rR,jN];done)
                                  |(simp only[binOp,Op.intCmp,rR,jN,ne_eq,not_true,pB,ite_false,Sem.run_pure,Result.ok.injEq,Aq,Value.bool.injEq];rw[po];simp;done)
                                  |(simp[binOp,Op.intArith,Op.intCmp,j2];rfl)
theorem VU {op:BinOp}{a b:List UInt8}(h:VJ op a b=some v)(t:TypeId)(w:World):(binOp op t (.string ⟨⟨a⟩⟩) (.string ⟨⟨b⟩⟩)).run P w= .ok v w/\∀ρ,cw ρ v=v:=by
 cases op<;>simp only[VJ,sg,reduceCtorEq] at h
 case add=>
  obtain⟨h0,h⟩:=bz h;simp only[sg] at h;subst h;refine⟨?_,λρ=>by simp⟩;have jd:¬(IntKind.max .i64<(((⟨⟨a⟩⟩:ByteArray).size+(⟨⟨b⟩⟩:ByteArray).size:Nat):Int)):=by
   (have h1:a.length+b.length<=1000000000:=by simpa using h0);have h2:(⟨⟨a⟩⟩:ByteArray).size=a.length:=rfl;have h3:(⟨⟨b⟩⟩:ByteArray).size=b.length:=rfl;simp only[IntKind.max,IntKind.signed,IntKind.bits,h2,h3];simp;omega
  have akB:((⟨⟨a⟩⟩:ByteArray)++(⟨⟨b⟩⟩:ByteArray))=⟨⟨a++b⟩⟩:=by
   rw[ByteArray.mk_append_mk];try rfl
  simp only[binOp,Op.stringOp,gt_iff_lt,if_neg jd,akB,Sem.run_pure]
 all_goals
  subst h;refine⟨?_,λρ=>by simp⟩;simp[binOp,Op.stringOp,toList_data,eY,tt,dW]
theorem I7 {op:BinOp}{r:Option Bool}(h:C9 op r=some v):∃b,r=some b/\((op= .eql/\v= .bool b)\/(op= .neq/\v= .bool !b)):=by
 unfold C9 at h;split at h
 .obtain⟨b,h1,h2⟩:=aD h;exact⟨b,h1,.inl ⟨rfl,by simpa using h2.symm⟩⟩
 .obtain⟨b,h1,h2⟩:=aD h;exact⟨b,h1,.inr ⟨rfl,by simpa using h2.symm⟩⟩
 .cases h
theorem lB (x y:Value)(xs ys:a6):fQ (x::xs) (y::ys)=ob (lS x y) λe=>ob (fQ xs ys) λr=>some (bo e r false):=rfl
theorem uW:fQ [] []=some true:=rfl
theorem F1 {b:Bool}(h:lS x y=some b):(∀ρ,cw ρ x=x)/\(∀ρ,cw ρ y=y):=by
 unfold lS at h;split at h
 .exact⟨λρ=>by simp,λρ=>by simp⟩
 .exact⟨λρ=>by simp,λρ=>by simp⟩
 .exact⟨λρ=>by simp,λρ=>by simp⟩
 .cases h
theorem uX (xs:a6):∀(ys:a6)(r:Bool),fQ xs ys=some r->(∀ρ,xs.map (cw ρ)=xs)/\(∀ρ,ys.map (cw ρ)=ys):=by
 induction xs with
 |nil=>intro ys r h;cases ys with
  |nil=>simp
  |cons y ys=>cases h
 |cons x xs ih=>
  intro ys r h;cases ys with
  |nil=>cases h
  |cons y ys=>
   rw[lB] at h;obtain⟨e,he,h1⟩:=aD h;obtain⟨r',h2,h3⟩:=aD h1;obtain⟨g1,g2⟩:=F1 he;obtain⟨g3,g4⟩:=ih _ _ h2;exact⟨λρ=>by rw[wO,g1,g3],λρ=>by rw[wO,g2,g4]⟩
theorem I8 (v:Value)(xs:a6)(k:Nat)(ks:List Nat):ff (v::xs) (k::ks)=bo (Nat.beq (yL v) k) (bo (Nat.ble k 2) (ff xs ks) false) false:=rfl
theorem mX {v:Value}{xs:a6}{k:Nat}{ks:List Nat}(h:ff (v::xs) (k::ks)=true):yL v=k/\k<=2/\ff xs ks=true:=by
 rw[I8,dW,dW] at h;split at h
 .rename_i h1;split at h
  .rename_i h2;exact⟨by simpa using h1,by simpa using h2,h⟩
  .cases h
 .cases h
theorem AA {v:Value}(h:yL v=0):∃n,v= .int .i64 n:=by
 unfold yL at h;split at h
 .exact⟨_,rfl⟩
 all_goals cases h
theorem AB {v:Value}(h:yL v=1):∃z,v= .string ⟨⟨z⟩⟩:=by
 unfold yL at h;split at h
 .cases h
 .rename_i s;obtain⟨⟨z⟩⟩:=s;exact⟨z,rfl⟩
 all_goals cases h
theorem xC {v:Value}(h:yL v=2):∃b,v= .bool b:=by
 unfold yL at h;split at h
 .cases h
 .cases h
 .exact⟨_,rfl⟩
 .cases h
theorem uY:∀(xs:a6)(ks:List Nat),ff xs ks=true->∀ρ,xs.map (cw ρ)=xs
 |[],_,_,ρ=>rfl
 |v::xs,[],h,ρ=>by cases h
 |v::xs,k::ks,h,ρ=>by
  obtain⟨h1,h2,h3⟩:=mX h;rw[wO,uY xs ks h3 ρ];have:k=0\/k=1\/k=2:=by omega
  rcases this with h|h|h
  .obtain⟨n,rfl⟩:=AA (h1.trans h);simp
  .obtain⟨n,rfl⟩:=AB (h1.trans h);simp
  .obtain⟨n,rfl⟩:=xC (h1.trans h);simp
theorem uZ (t:Nat)(xs:a6):∀l:List (TypeId×List Nat),yM t xs l=true->∃ks,(t,ks)∈l/\ff xs ks=true
 |[],h=>by cases h
 |p::r,h=>by
  have h2:bo (bo (Nat.beq t p.1) (ff xs p.2) false) true (yM t xs r)=true:=h;rw[dW] at h2;split at h2
  .rename_i h3;rw[dW] at h3;split at h3
   .rename_i h4;have:t=p.1:=by simpa using h4
    exact⟨p.2,by rw[this];exact gh ..,h3⟩
   .cases h3
  .obtain⟨ks,h5,h6⟩:=uZ t xs r h2;exact⟨ks,jA _ h5,h6⟩
theorem La {t:Nat}{xs:a6}{l:List (TypeId×List Nat)}(h:yM t xs l=true):∀ρ,xs.map (cw ρ)=xs:=by obtain⟨ks,_,h2⟩:=uZ t xs l h;exact uY xs ks h2
theorem binOp_eql {t:TypeId}{x y:Value}{b:Bool}(hx:∀k n,x≠ .int k n)(hf:∀k n,x≠ .float k n)(hc:∀k m n,x≠ .complex k m n)(hs:∀s,x≠ .string s)(h:(Op.equal t x y).run P w= .ok b w):
  (binOp .eql t x y).run P w= .ok (.bool b) w/\(binOp .neq t x y).run P w= .ok (.bool !b) w:=by
 unfold binOp;constructor<;>split<;>simp_all
theorem pM (op:BinOp)(t:TypeId)(ox oy:Operand){x y:Value}(hn:¬(x= .nilIface/\y= .nilIface))(ha:∀a b,¬(x= .agg a/\y= .agg b)):(eqGuard op t ox oy x y).run P w= .ok () w:=by
 unfold eqGuard;cases op<;>simp only[OB,IX,jY,pB,if_true,ite_false,ite_true]<;>first|rfl|skip
 all_goals
  split
  .exact absurd ⟨rfl,rfl⟩ hn
  .exact absurd ⟨rfl,rfl⟩ (ha _ _)
  .rfl
theorem VV (hE:c8 E P){t:TypeId}{d:TypeDesc}{b:Bool}(hd:ji E t=some d)(h:eqV E d x y=some b)(hx:VR A ρ x x')(hy:VR A ρ y y')(w:World):(Op.equal t x' y').run P w= .ok b w:=by
 have hu:=dY hE hd;unfold Op.equal Op.maxDepth;unfold Op.equalIn;simp only[Sem.run_bind,run_underlying hu,Result.andThen_ok];unfold eqV at h;split at h
 .rw[hx.tn,hy.tn];simpa using h
 .have:=hx.self;simp only[G1] at this;subst this;rename_i a;have xD:=hy.self;rw[<-xD];cases a with
  |none=>simpa using h
  |some a=>obtain⟨b,o,s⟩:=a;simp only[mW];simpa using h
 .rename_i a;obtain⟨b,o,s⟩:=a;rw[hx.nM];have xD:=hy.self;simp only[G1] at xD;subst xD;simpa using h
 .obtain⟨n,hn,h⟩:=aD h;obtain⟨h1,h3⟩:=bz h;clear h;have hb:=ke h3;clear h3;rw[bO] at h1;obtain⟨h1,h2⟩:=h1;have e1:=nR h1;have e2:=nR h2;subst e1 e2 hb;rw[hx.nM,hy.nM];simp only[Sem.run_bind,run_sizeOf hE hn,Result.andThen_ok];split
  .simp[sameAddr]
  .simp
 .have:=hx.jm;subst this;rename_i a l2 c2;cases a with
  |none=>have:=hy.jm;subst this;simpa using h
  |some a=>obtain⟨a',xD⟩:=hy.tq;rw[xD];simpa using h
 .rename_i a l1 c1 l2 c2;obtain⟨a',sd⟩:=hx.tq;rw[sd,hy.jm];simpa using h
 .have h1:=hx.self;have h2:=hy.self;simp only[tk] at h1 h2;subst h1 h2;simpa using h
 .have h1:=hx.self;simp only[tk] at h1;subst h1;rename_i fn f c;obtain⟨f⟩:=f;obtain⟨c⟩:=c;obtain⟨f',c',rfl,_,_⟩:=hy.Df;simpa using h
 .have h1:=hy.self;simp only[tk] at h1;subst h1;rename_i fn f c;obtain⟨f⟩:=f;obtain⟨c⟩:=c;obtain⟨f',c',rfl,_,_⟩:=hx.Df;simpa using h
 .cases h
theorem F2 (op:BinOp)(t:TypeId){ox oy:Operand}(hc:(isC ox||isC oy)=true)(w:World):(eqGuard op t ox oy .nilIface .nilIface).run P w= .ok () w:=by
 cases ox<;>cases oy<;>first
  |(cases op<;>(simp[eqGuard];done))
  |(simp[isC] at hc;done)
def odd (x:Value):Bool:=match x with
 |.bool _=>true
 |.pointer _=>true
 |.slice .. =>true
 |.func .. =>true
 |.nilFunc=>true
 |_=>false
theorem VW (ρ:iD)(v:Value):odd (cw ρ v)=odd v:=by
 cases v<;>try(simp[cw,odd];done)
 .rename_i a;cases a<;>simp[cw,odd]
 .rename_i a l c;cases a with
  |none=>simp[cw,odd]
  |some a=>
   obtain⟨a',h⟩:=sx ρ a l c;rw[h];simp[odd]
 .rename_i a;cases a<;>simp[cw,odd]
theorem aao {d:TypeDesc}{b:Bool}(h:eqV E d x y=some b):odd x=true:=by unfold eqV at h;split at h<;>first|rfl|(cases h;done)
theorem aap (hE:c8 E P){op:BinOp}{t:TypeId}{ox oy:Operand}(h:SF E op t (isC ox||isC oy) x y=some v)(hx:VR A ρ x x')(hy:VR A ρ y y')(w:World):
  ∃v',(do eqGuard op t ox oy x' y';binOp op t x' y').run P w= .ok v' w/\VR A ρ v v':=by
 simp only[Sem.run_bind];unfold SF at h;split at h
 .rename_i k a k' b;rw[dW] at h;split at h
  .rw[hx.mB,hy.mB,pM op t ox oy ay ay];have hb:GU k=k.bits:=by cases k<;>rfl
   have SM:∀m:Nat,Da m (GU k)=min m k.bits:=λm=>by
    unfold Da;rw[dW,hb];simp only[nG];split<;>omega
   unfold shV at h;split at h
   .rename_i m n _;have:=ke h;subst this;refine⟨_,?_,VR.int _ _⟩;simp only[Result.andThen_ok,binOp,Op.shift];have h0:¬(Int.ofNat n<0):=by simp
    rw[if_neg h0,SM];simp only[Sem.run_pure]
    congr 2
    show Int.fdiv (Int.ofNat m) (2^ (min (Int.toNat (Int.ofNat n)) k.bits))=_;have e1:(2:Int)^ (min (Int.toNat (Int.ofNat n)) k.bits)=((2^ (min n k.bits):Nat):Int):=by
     simp
    rw[e1];show Int.fdiv ((m:Nat):Int) _=((Nat.shiftRight m (min n k.bits):Nat):Int);rw[Int.fdiv_eq_ediv_of_nonneg _ (KL _),<-Int.natCast_ediv]
    congr 1
    exact(Nat.shiftRight_eq_div_pow m _).symm
   .rename_i m n _;have:=ke h;subst this;refine⟨_,?_,VR.int _ _⟩;simp only[Result.andThen_ok,binOp,Op.shift];have h0:¬(Int.ofNat n<0):=by simp
    rw[if_neg h0,SM,j2];simp only[Sem.run_pure]
    congr 3
    have e1:(2:Int)^ (min (Int.toNat (Int.ofNat n)) k.bits)=((2^ (min n k.bits):Nat):Int):=by
     simp
    rw[e1];show((m:Nat):Int)*((2^ (min n k.bits):Nat):Int)=((Nat.shiftLeft m (min n k.bits):Nat):Int);rw[<-Int.natCast_mul]
    congr 1
    exact(Nat.shiftLeft_eq m _).symm
   .cases h
  obtain⟨h1,h0⟩:=I5 h;clear h;have:=vL h1;subst this;rw[hx.mB,hy.mB];obtain⟨h2,h3⟩:=VT (P:=P) h0 t w;rw[pM op t ox oy ay ay];exact⟨v,h2,VR.ground h3⟩
 .rename_i a b;rw[hx.uU,hy.uU];obtain⟨h2,h3⟩:=VU (P:=P) h t w;rw[pM op t ox oy ay ay];exact⟨v,h2,VR.ground h3⟩
 .obtain⟨hc,h⟩:=bz h;obtain⟨d,hd,h⟩:=aD h;obtain⟨hi,h⟩:=bz h;have sd:=hx.self;have xD:=hy.self;simp only[FY] at sd xD;subst sd xD;have hu:=dY hE hd;have hg:=F2 (P:=P) op t hc w;have he:(Op.equal t .nilIface .nilIface).run P w= .ok true w:=by
   unfold Op.equal Op.maxDepth Op.equalIn;simp only[Sem.run_bind,run_underlying hu,Result.andThen_ok];cases d<;>simp_all [isIface]
  rw[hg];obtain⟨b,hb,h⟩:=I7 h;simp only[sg] at hb;subst hb;obtain⟨h1,h2⟩:=binOp_eql (P:=P) (w:=w) (t:=t) (x:=.nilIface) (y:=.nilIface) ay ay ay ay he;rcases h with⟨rfl,rfl⟩|⟨rfl,rfl⟩
  .exact⟨_,h1,VR.bool _⟩
  .exact⟨_,h2,VR.bool _⟩
 .rename_i xs ys;obtain⟨hq,h⟩:=bz h;obtain⟨b,hb,h⟩:=I7 h;obtain⟨h1,h2⟩:=uX _ _ _ hb;obtain⟨xs',rfl,SN⟩:=hx.Q3;obtain⟨ys',rfl,hys⟩:=hy.Q3;have e1:=SN.self;rw[h1] at e1;subst e1;have e2:=hys.self;rw[h2] at e2;subst e2;obtain⟨h4,h5⟩:=hE.eqs _ _ hq ys b hb w;rw[h5 op ox oy];obtain⟨h6,h7⟩:=binOp_eql (P:=P) (w:=w) (t:=t) ay ay ay ay h4;rcases h with⟨rfl,rfl⟩|⟨rfl,rfl⟩
  .exact⟨_,h6,VR.bool _⟩
  .exact⟨_,h7,VR.bool _⟩
 .obtain⟨d,hd,h⟩:=aD h;obtain⟨b,hb,h⟩:=I7 h;have he:=VV hE hd hb hx hy w;have akC:odd x'=true:=by rw[<-hx.self,VW];exact aao hb
  have Cz:(∀k n,x'≠ .int k n)/\(∀k n,x'≠ .float k n)/\(∀k m n,x'≠ .complex k m n)/\(∀s,x'≠ .string s)/\x'≠ .nilIface/\(∀a,x'≠ .agg a):=by
   refine⟨?_,?_,?_,?_,?_,?_⟩<;>intros<;>rintro rfl<;>cases akC
  obtain⟨s1,s2,s3,s4,s5,s6⟩:=Cz;rw[pM op t ox oy (λhh=>s5 hh.1) (λa b hh=>s6 a hh.1)];obtain⟨h6,h7⟩:=binOp_eql (P:=P) (w:=w) (t:=t) s1 s2 s3 s4 he;rcases h with⟨rfl,rfl⟩|⟨rfl,rfl⟩
  .exact⟨_,h6,VR.bool _⟩
  .exact⟨_,h7,VR.bool _⟩
theorem aH {v:Value}{s:St}{r:Value×St}(h:aN v s=some r):r=(v,s):=by simpa[aN] using h.symm
theorem ad0 {op:UnOp}(h:unV op x s=some (v,s')):s'=s/\∀A ρ x',VR A ρ x x'->∃v',(∀w,(Op.unary op x').run P w= .ok v' w)/\VR A ρ v v':=by
 unfold unV at h;split at h
 .rename_i b;have:=aH h;simp only[cH] at this;obtain⟨rfl,rfl⟩:=this;refine⟨rfl,λA ρ x' hx=>⟨.bool !b,λw=>?_,VR.bool _⟩⟩;rw[hx.tn];rfl
 .cases h
theorem Lb {i:Nat}(h:yQ s x i=some (v,s')):s'=s/\∀A ρ x',VR A ρ x x'->∃v',(∀w,(Instr.extract x' i).run P w= .ok v' w)/\VR A ρ v v':=by
 unfold yQ at h;split at h
 .rename_i vs;obtain⟨u,hu,h2⟩:=aD h;have:=aH h2;simp only[cH] at this;obtain⟨rfl,rfl⟩:=this;refine⟨rfl,λA ρ x' hx=>?_⟩;obtain⟨CA,rfl,hl⟩:=hx.aak;rw[dR] at hu;obtain⟨u',Lc,hr⟩:=hl.get hu;refine⟨u',λw=>?_,hr⟩;simp[Instr.extract,Lc]
 .cases h
theorem SO (hE:c8 E P){t:TypeId}(h:I4 E s t x y=some (v,s')):s'=s/\∀A ρ x' y',VR A ρ x x'->VR A ρ y y'->∃v',(∀w,(Instr.index t x' y').run P w= .ok v' w)/\VR A ρ v v':=by
 obtain⟨d,hd,h1⟩:=aD h;clear h;split at h1
 .rename_i z k i;obtain⟨c,hc,h2⟩:=aD h1;have:=aH h2;simp only[cH] at this;obtain⟨rfl,rfl⟩:=this;refine⟨rfl,λA ρ x' y' hx hy=>⟨.int .u8 c.toNat,λw=>?_,VR.int _ _⟩⟩;rw[hx.uU,hy.mB];rw[dR] at hc;have hb:(⟨⟨z⟩⟩:ByteArray)[i]?=some c:=by
   have dG:=(te.1 hc).1;have jd:(⟨⟨z⟩⟩:ByteArray).size=z.length:=rfl;rw[getElem?_pos _ _ (by rw[jd];exact dG)];have:=(te.1 hc).2;rw[<-this];rfl
  unfold Instr.index;simp only[Sem.run_bind,asIntOf,Sem.run_pure,Result.andThen_ok,run_underlying (dY hE hd)];simp[hb]
 .cases h1
theorem SP (hE:c8 E P){t:TypeId}{i:Nat}(h:I3 E s t x i=some (v,s')):s'=s/\∀A ρ x',VR A ρ x x'->∃v',(∀w,(Instr.field t x' i).run P w= .ok v' w)/\VR A ρ v v':=by
 obtain⟨d,hd,h1⟩:=aD h;clear h;split at h1
 .rename_i fs cs;obtain⟨f,hf,h2⟩:=aD h1;obtain⟨df,uy,h3⟩:=aD h2;obtain⟨hb,h4⟩:=bz h3;obtain⟨u,hu,h5⟩:=aD h4;have:=aH h5;simp only[cH] at this;obtain⟨rfl,rfl⟩:=this;refine⟨rfl,λA ρ x' hx=>?_⟩;obtain⟨cs',rfl,hl⟩:=hx.Q3;rw[dR] at hu hf;obtain⟨u',Lc,hr⟩:=hl.get hu;refine⟨u',λw=>?_,hr⟩;have ha:Au df=false:=by simpa using hb
  have hff:(⟨fs⟩:Array Field)[i]?=some f:=by simpa using hf
  have Vj:(⟨cs'⟩:Array Value)[f.offset]?=some u':=by simpa using Lc
  unfold Instr.field part;simp only[Sem.run_bind,run_underlying (dY hE hd),Result.andThen_ok,hff,asAgg,Sem.run_pure,vJ hE uy,ha,Vj,pB,jY]
 .cases h1
theorem F3 (hE:c8 E P){t:TypeId}{i:Nat}(h:nU E s t x i=some (v,s')):s'=s/\∀A ρ x',(∀v v',VR A ρ v v'->True)->VR A ρ x x'->∃v',(∀w,(Instr.fieldAt t x' i).run P w= .ok v' w)/\VR A ρ v v':=by
 obtain⟨d,hd,h1⟩:=aD h;clear h;split at h1
 .rename_i fs;obtain⟨f,hf,h2⟩:=aD h1;obtain⟨n,hn,h3⟩:=aD h2;obtain⟨hb,h4⟩:=bz h3;obtain⟨b,o,rfl,h5⟩:=I6 h4;have:=aH h5;simp only[cH] at this;obtain⟨rfl,rfl⟩:=this;refine⟨rfl,λA ρ x' _ hx=>⟨.pointer (some ⟨(ρ b).1,o+f.offset,none⟩),λw=>?_,λeK e=>?_⟩⟩
  .rw[hx.nM];rw[dR] at hf;have yw:n≠0:=by simp at hb;omega
   unfold Instr.fieldAt;simp only[Sem.run_bind,run_underlying (dY hE hd),Result.andThen_ok];(have hf':(⟨fs⟩:Array Field)[i]?=some f:=by simpa using hf);simp only[hf',Instr.sureAddr,Sem.run_bind,Sem.run_pure,Result.andThen_ok,fieldPlace,run_sizeOf hE hn,yw,pB,ite_false,add_lit]
  .have h1:=(hx eK e).trans hx.self.symm;simp only[mW,Value.pointer.injEq,sg,Addr.mk.injEq,Aq] at h1;rw[mW,h1];rfl
 .cases h1
theorem F4 (hE:c8 E P){t:TypeId}(h:nV E s t x y=some (v,s')):s'=s/\∀A ρ x' y',VR A ρ x x'->VR A ρ y y'->∃v',(∀w,(Instr.indexAt t x' y').run P w= .ok v' w)/\VR A ρ v v':=by
 obtain⟨d,hd,h1⟩:=aD h;clear h;split at h1
 .rename_i n e b o k i;obtain⟨hb,h2⟩:=bz h1;obtain⟨sz,jd,h3⟩:=aD h2;have:=aH h3;simp only[cH] at this;obtain⟨rfl,rfl⟩:=this;refine⟨rfl,λA ρ x' y' hx hy=>⟨.pointer (some ⟨(ρ b).1,o+i*sz,none⟩),λw=>?_,λeK e=>?_⟩⟩
  .rw[hx.nM,hy.mB];have hi:i<n:=by simpa[SB] using hb
   unfold Instr.indexAt;simp only[Sem.run_bind,asIntOf,Sem.run_pure,Result.andThen_ok,run_underlying (dY hE hd),Instr.sureAddr];(have hc:(0:Int)<=Int.ofNat i/\Int.ofNat i<(n:Int):=by constructor<;>simp<;>omega);simp[hc,hi,run_sizeOf hE jd,add_lit]
  .have h1:=(hx eK e).trans hx.self.symm;simp only[mW,Value.pointer.injEq,sg,Addr.mk.injEq,Aq] at h1;rw[mW,h1];rfl
 .rename_i e b o n cap k i;obtain⟨hb,h2⟩:=bz h1;obtain⟨sz,jd,h3⟩:=aD h2;have:=aH h3;simp only[cH] at this;obtain⟨rfl,rfl⟩:=this;refine⟨rfl,λA ρ x' y' hx hy=>⟨.pointer (some ⟨(ρ b).1,o+i*sz,none⟩),λw=>?_,λeK e=>?_⟩⟩
  .rw[hx.fS,hy.mB];have hi:i<n:=by simpa[SB] using hb
   unfold Instr.indexAt;simp only[Sem.run_bind,asIntOf,Sem.run_pure,Result.andThen_ok,run_underlying (dY hE hd)];simp[hi,run_sizeOf hE jd,add_lit]
  .have h1:=(hx eK e).trans hx.self.symm;simp only[eH,Value.slice.injEq,sg,Addr.mk.injEq,Aq] at h1;rw[mW,h1.1];rfl
 .cases h1
theorem aaq (hE:c8 E P){t ty:TypeId}(h:SH E t x=some v):∀A ρ x' ts,VR A ρ x x'->ts[0]?=some t->∃v',(∀w,(Builtin.len_ ts ty #[x']).run P w= .ok v' w)/\VR A ρ v v':=by
 obtain⟨d,hd,h1⟩:=aD h;clear h;split at h1
 .rename_i z;have:=ke h1;subst this;refine λA ρ x' ts hx hts=>⟨.int .i64 (.ofNat z.length),λw=>?_,by simpa using VR.int _ _⟩
  rw[hx.uU];simp[Builtin.len_,hts,run_underlying (dY hE hd),goInt];rfl
 .rename_i e a n c;have:=ke h1;subst this;refine λA ρ x' ts hx hts=>⟨.int .i64 (.ofNat n),λw=>?_,VR.int _ _⟩
  cases a with
  |none=>rw[hx.jm];simp[Builtin.len_,hts,run_underlying (dY hE hd),goInt]
  |some a=>obtain⟨a',sd⟩:=hx.tq;rw[sd];simp[Builtin.len_,hts,run_underlying (dY hE hd),goInt]
 .cases h1
theorem aar (h:aai x y s=some (v,s')):s'=s/\∀A ρ x' y' ts ty,VR A ρ x x'->VR A ρ y y'->∃v',(∀w,(Builtin.max_ ts ty #[x',y']).run P w= .ok v' w)/\VR A ρ v v':=by
 unfold aai at h;split at h
 .rename_i k a k' b;obtain⟨hk,h2⟩:=bz h;have:=aH h2;simp only[cH] at this;obtain⟨rfl,rfl⟩:=this;refine⟨rfl,λA ρ x' y' ts ty hx hy=>⟨_,λw=>?_,VR.int _ _⟩⟩;rw[hx.mB,hy.mB];simp only[Builtin.max_,List.foldlM,Builtin.max2];simp[dW,rR]
 .cases h
def OL (A:Nat->Prop)(ρ:iD):Option Value->Option Value->Prop
 |none,none=>True
 |some v,some v'=>VR A ρ v v'
 |_,_=>False
theorem OL.none {o:Option Value}(h:OL A ρ none o):o=none:=by cases o<;>simp_all [OL]
theorem OL.some {v:Value}{o:Option Value}(h:OL A ρ (some v) o):∃v',o=some v'/\VR A ρ v v':=by
 cases o with
 |none=>simp[OL] at h
 |some v'=>exact⟨v',rfl,h⟩
theorem tu {y i:Nat}(h:pL v y=some i):i<=y/\∃k,v= .int k (.ofNat i):=by
 unfold pL at h;split at h
 .rename_i k j;obtain⟨h1,h2⟩:=I5 h;have:=ke h2;subst this;exact⟨by simpa using h1,k,rfl⟩
 .cases h
theorem run_sliceBound {y i:Nat}(h:pL v y=some i)(hv:VR A ρ v v')(z:Nat)(hz:y<=z)(code:BoundsCode)(w:World):(Instr.sliceBound v' z code).run P w= .ok i w:=by
 obtain⟨h1,k,rfl⟩:=tu h;rw[hv.mB];unfold Instr.sliceBound;simp only[Sem.run_bind,asIntOf,Sem.run_pure,Result.andThen_ok];have:(0:Int)<=Int.ofNat i/\Int.ofNat i<=(z:Int):=by constructor<;>simp<;>omega
 simp[this];omega
theorem sA {β:Type}{len cap:Nat}{lo hi mx:Option Value}{k:Nat->Nat->Nat->Option β}{r:β}(h:bounds len cap lo hi mx k=some r):
  ∃l h m,k l h m=some r/\(m<=cap/\(mx=none->m=cap))/\l<=h/\(len<=cap->mx=none->h<=cap)/\
   ∀A ρ G5 fF I9,OL A ρ lo G5->OL A ρ hi fF->OL A ρ mx I9->∀(P:Program)(sl:Bool) w Dg,cap<=Dg->(Instr.sliceBounds sl len Dg G5 fF I9).run P w= .ok (l,h,if mx=none then Dg else m) w:=by
 obtain⟨m,hm,h1⟩:=aD h;obtain⟨hh,Z5,h2⟩:=aD h1;obtain⟨l,hl,h3⟩:=aD h2;clear h h1 h2;have hm':m<=cap/\(mx=none->m=cap):=by
  cases mx with
  |none=>have:=ke hm;exact⟨ag,λ_=>this.symm⟩
  |some v=>exact⟨(tu hm).1,λh=>by cases h⟩
 have jM:l<=hh:=by
  cases lo with
  |none=>have:=ke hl;subst this;exact iG _
  |some v=>exact(tu hl).1
 refine⟨l,hh,m,h3,hm',jM,λhc hmx=>?_,λA ρ G5 fF I9 o1 o2 o3 P sl w Dg Vj=>?_⟩
 .subst hmx;cases hi with
  |none=>have:=ke Z5;omega
  |some v=>have:=(tu Z5).1;have:=hm'.1;omega
 .unfold Instr.sliceBounds;cases mx with
  |none=>
   have:=ke hm;subst this;rw[o3.none];cases hi with
   |none=>
    have:=ke Z5;subst this;rw[o2.none];cases lo with
    |none=>have:=ke hl;subst this;rw[o1.none];simp
    |some v=>obtain⟨v',rfl,hv⟩:=o1.some;simp[run_sliceBound (P:=P) hl hv _ (cG _)]
   |some u=>
    obtain⟨u',rfl,hu⟩:=o2.some;cases lo with
    |none=>have:=ke hl;subst this;rw[o1.none];simp[run_sliceBound (P:=P) Z5 hu Dg Vj]
    |some v=>obtain⟨v',rfl,hv⟩:=o1.some;simp[run_sliceBound (P:=P) Z5 hu Dg Vj,run_sliceBound (P:=P) hl hv _ (cG _)]
  |some q=>
   obtain⟨q',rfl,hq⟩:=o3.some;cases hi with
   |none=>cases Z5
   |some u=>
    obtain⟨u',rfl,hu⟩:=o2.some;cases lo with
    |none=>have:=ke hl;subst this;rw[o1.none];simp[run_sliceBound (P:=P) hm hq Dg Vj,run_sliceBound (P:=P) Z5 hu _ (cG _)]
    |some v=>obtain⟨v',rfl,hv⟩:=o1.some;simp[run_sliceBound (P:=P) hm hq Dg Vj,run_sliceBound (P:=P) Z5 hu _ (cG _),run_sliceBound (P:=P) hl hv _ (cG _)]
theorem extract_mk (z:List UInt8)(l h:Nat):(⟨⟨z⟩⟩:ByteArray).extract l h=⟨⟨(z.drop l).take (h-l)⟩⟩:=by apply ByteArray.ext;rw[ByteArray.data_extract];apply wF;simp[List.take_drop]
theorem fG {q:Nat×Nat}{c:Nat}(h:c<ew):dq q c=c:=by unfold dq;rw[if_neg ag]
theorem Dh (a:Addr)(n:Nat):sq (some a) n=some (a.add n):=by obtain⟨b,o,s⟩:=a;simp only[sq,dW,B7,Addr.add];split<;>rfl
theorem Q5 {α:Type}{o:Option α}(h:aag o=true):o=none:=by cases o<;>simp_all [aag]
theorem SQ (hE:c8 E P){t:TypeId}{lo hi mx:Option Value}(h:kv E s t x lo hi mx=some (v,s')):aG s s'/\∀X A ρ w x' G5 fF I9,pq P X A ρ s s' w->VR A ρ x x'->OL A ρ lo G5->OL A ρ hi fF->OL A ρ mx I9->
  cK P X A ρ s s' w v (Instr.sliceAt t x' G5 fF I9):=by
 obtain⟨d,hd,h1⟩:=aD h;clear h;have hu:=dY hE hd;split at h1
 .rename_i z;obtain⟨u,Lc,h2⟩:=aD h1;have:=aH h2;simp only[cH] at this;obtain⟨rfl,rfl⟩:=this;refine⟨aG.refl _,λX A ρ w x' G5 fF I9 hp hx o1 o2 o3=>?_⟩;obtain⟨nN,h3⟩:=bz Lc;have:=Q5 nN;subst this;rw[o3.none];obtain⟨l,hh,m,h4,h5,h6,h7,h8⟩:=sA h3;have:=ke h4;subst this;refine cK.pure hp ?_ (VR.str _);rw[hx.uU];have hb:=h8 A ρ G5 fF none o1 o2 (by simp[OL]) P false w (ec z) (cG _);unfold Instr.sliceAt;simp only[Sem.run_bind,run_underlying hu,Result.andThen_ok];unfold Instr.slice;simp only[Sem.run_bind,run_underlying hu,Result.andThen_ok,Option.isSome_none,jY,pB];have jd:(⟨⟨z⟩⟩:ByteArray).size=z.length:=rfl;rw[dm] at hb;simp[jd,hb,extract_mk]
 .rename_i elem a len cap
  replace h1:=bz h1
  obtain⟨rS,h1⟩:=h1;obtain⟨sz,jd,h2⟩:=aD h1;cases hk:Nat.ble ew cap with
  |false=>
   rw[hk,eL] at h2;obtain⟨u,Lc,h3⟩:=aD h2;have:=aH h3;simp only[cH] at this;obtain⟨rfl,rfl⟩:=this;refine⟨aG.refl _,λX A ρ w x' G5 fF I9 hp hx o1 o2 o3=>?_⟩;obtain⟨l,hh,m,h4,h5,h6,h7,h8⟩:=sA Lc;have:=ke h4;subst this;have u0:cap<ew:=by
    rcases lA cap ew with h|h
    .exact h
    .rw[gp h] at hk;cases hk
   have hb:=h8 A ρ G5 fF I9 o1 o2 o3 P true w cap (cG _);have hm:(if mx=none then cap else m)=m:=by
    split
    .rename_i hmx;exact(h5.2 hmx).symm
    .rfl
   rw[hm] at hb;have nZ:∀a',(Instr.sliceAt t (.slice a' len cap) G5 fF I9).run P w= .ok (.slice (if m=l then a' else a'.map (·.add (l*sz))) (hh-l) (m-l)) w:=by
    intro a';unfold Instr.sliceAt;simp only[Sem.run_bind,run_underlying hu,Result.andThen_ok];unfold Instr.slice;simp only[Sem.run_bind,run_underlying hu,Result.andThen_ok,hb,run_sizeOf hE jd];rfl
   have Q6:m-l<ew:=by have:=h5.1;omega
   cases a with
   |none=>
    rw[hx.jm];refine cK.pure hp (nZ none) ?_;simp only[sq,dW,Option.map_none,ite_self];exact VR.ground ay
   |some a=>
    obtain⟨b,o,q⟩:=a;cases q with
    |some q=>cases rS
    |none=>
    rw[hx.fS,fG u0];(refine cK.pure hp (nZ _) λeK e=>?_);have h1:=(hx eK e).trans hx.self.symm;simp only[eH,Value.slice.injEq,sg,Addr.mk.injEq,Aq] at h1;rw[dW,Dh];simp only[B7];by_cases Ld:m=l
    .simp only[Ld,if_true,B9];rw[eH,h1.1,show l.sub l=0 from B9 l,fG (show 0<ew by decide)];rfl
    .simp only[Ld,pB,wG,Addr.add];by_cases hz:l*sz=0
     .simp only[show Nat.mul l sz=0 from hz,hz,if_true];rw[eH,h1.1,fG (c:=m.sub l) Q6];rfl
     .simp only[show ¬Nat.mul l sz=0 from hz,hz,pB];rw[eH,h1.1,fG (c:=m.sub l) Q6];rfl
  |true=>
   rw[hk,gC] at h2;have u0:ew<=cap:=mT hk;cases hz:nS lo hi mx with
   |true=>
    rw[hz,gC] at h2;unfold nT at h2;split at h2
    rotate_left
    .cases h2
    rename_i b o;have:=aH h2;simp only[cH] at this;obtain⟨rfl,rfl⟩:=this;unfold nS at hz;split at hz
    rotate_left
    .cases hz
    rename_i k;refine⟨aG.refl _,λX A ρ w x' G5 fF I9 hp hx o1 o2 o3=>?_⟩;rw[hx.fS,o1.none,o3.none];obtain⟨u',rfl,Lc⟩:=o2.some;rw[Lc.mB];refine cK.pure hp (v':=.slice (some ⟨(ρ b).1,o,none⟩) 0 (dq (ρ b) cap)) ?_ λeK e=>?_
    .unfold Instr.sliceAt;simp only[Sem.run_bind,run_underlying hu,Result.andThen_ok];unfold Instr.slice;simp only[Sem.run_bind,run_underlying hu,Result.andThen_ok];have hb:(Instr.sliceBounds true len (dq (ρ b) cap) none (some (.int k (.ofNat 0))) none).run P w= .ok (0,0,dq (ρ b) cap) w:=by
      unfold Instr.sliceBounds;have h0:(Instr.sliceBound (.int k (.ofNat 0)) (dq (ρ b) cap) .sliceAcap).run P w= .ok 0 w:=by
       unfold Instr.sliceBound;simp[asIntOf]
      simp[Instr.sliceBound,asIntOf]
     simp only[hb,Result.andThen_ok,run_sizeOf hE jd,wG,add_lit,IY,xq,Nat.sub_zero,ite_self];try rfl
    .have h1:=(hx eK e).trans hx.self.symm;simp only[eH,Value.slice.injEq,sg,Addr.mk.injEq,Aq,KK] at h1;rw[eH,h1.1,h1.2]
   |false=>
   rw[hz,eL] at h2;unfold iJ at h2;split at h2
   .rename_i b o;obtain⟨c,e,wd,hg,h3⟩:=ml h2;obtain⟨hc,h4⟩:=bz h3;simp only[bO,B7,nG,dm] at hc;obtain⟨⟨⟨hw,he⟩,ho⟩,cX⟩:=hc;subst he;split at h4
    rotate_left
    .rename_i mx0;obtain⟨akD,h4⟩:=bz h4;obtain⟨u,Lc,h3⟩:=aD h4;have:=aH h3;simp only[cH] at this;obtain⟨rfl,rfl⟩:=this;refine⟨aG.aY s b,λX A ρ w x' G5 fF I9 hp hx o1 o2 o3=>?_⟩;obtain⟨hA,c',aS,fr,r1,r2,r3,r4,r5,r6⟩:=hp.st.row (hp.cU b (gi s b)) hg;have u3:(cap-ew)+len<=(ρ b).2:=by
      refine' zah
     (have hcm:dq (ρ b) cap=(ρ b).2-(cap-ew):=by unfold dq;rw[if_pos u0]);have hlu:len<ew:=mT akD;obtain⟨l,hh,m,h4,h5,h6,h7,h8⟩:=sA Lc;have:=ke h4;subst this;have hb:=h8 A ρ G5 fF I9 o1 o2 o3 P true w (dq (ρ b) cap) (by rw[hcm];omega);simp only[reduceCtorEq,pB] at hb;(have Q6:m-l<ew:=by have:=h5.1;omega);refine cK.same hp ay ay (v':=.slice (if m=l then some ⟨(ρ b).1,o,none⟩ else some ((⟨(ρ b).1,o,none⟩:Addr).add (l*sz))) (hh-l) (m-l)) ?_ λeK ee=>?_
     .rw[hx.fS];unfold Instr.sliceAt;simp only[Sem.run_bind,run_underlying hu,Result.andThen_ok];unfold Instr.slice;simp only[Sem.run_bind,run_underlying hu,Result.andThen_ok,hb,run_sizeOf hE jd,wG];rfl
     .rw[dW,Dh];simp only[B7];by_cases Ld:m=l
      .simp only[Ld,if_true,B9];rw[eH,ee b hA,show l.sub l=0 from B9 l,fG (show 0<ew by decide)];rfl
      .simp only[Ld,pB,add_lit];rw[eH,ee b hA,fG (c:=m.sub l) Q6];rfl
    obtain⟨l,hh,m,h5,h6,h7,OM,h8⟩:=sA h4;rw[dW] at h5;split at h5
    rotate_left
    .rename_i hlh;have:=aH h5;simp only[cH] at this;obtain⟨rfl,rfl⟩:=this;refine⟨aG.aY s b,λX A ρ w x' G5 fF I9 hp hx o1 o2 o3=>?_⟩;obtain⟨hA,c',aS,fr,r1,r2,r3,r4,r5,r6⟩:=hp.st.row (hp.cU b (gi s b)) hg;have u3:(cap-ew)+len<=(ρ b).2:=by
      refine' zah
     have hcm:dq (ρ b) cap=(ρ b).2-(cap-ew):=by unfold dq;rw[if_pos u0]
     have hb:=h8 A ρ G5 fF I9 o1 o2 o3 P true w (dq (ρ b) cap) (by rw[hcm];omega);rw[o3.none] at hb⊢;simp only[if_true] at hb;have h77:=OM (cG _) rfl;have hll:hh=l:=by
      simp only[mf,B7,nG,not_or] at hlh;have:Nat.succ l=l+1:=rfl;omega
     refine cK.same hp ay ay ?_ (v':=.slice (some ⟨(ρ b).1,if(ρ b).2-(cap-ew)-l=0 then o else o+l*sz,none⟩) 0 ((ρ b).2-(cap-ew)-l)) λeK ee=>?_
     .rw[hx.fS];unfold Instr.sliceAt;simp only[Sem.run_bind,run_underlying hu,Result.andThen_ok];unfold Instr.slice;simp only[Sem.run_bind,run_underlying hu,Result.andThen_ok,hb,run_sizeOf hE jd,wG,add_lit];rw[hcm,hll];have hle:l<=(ρ b).2-(cap-ew):=by omega
      by_cases hq:(ρ b).2-(cap-ew)=l
      .simp[hq]
      .simp[hq];intro h0;omega
     .rw[K7,ee b hA];have:dq (ρ b) (Nat.add cap l)=(ρ b).2-(cap-ew)-l:=by
       have h3:Nat.add cap l=cap+l:=rfl;unfold dq;rw[h3,if_pos ag];omega
      rw[this];rfl
    rename_i hlh;have h9:=h5;have:=aH h9;simp only[cH] at this;obtain⟨rfl,rfl⟩:=this;refine⟨aG.aY s b,λX A ρ w x' G5 fF I9 hp hx o1 o2 o3=>?_⟩;obtain⟨hA,c',aS,fr,r1,r2,r3,r4,r5,r6⟩:=hp.st.row (hp.cU b (gi s b)) hg;have u3:(cap-ew)+len<=(ρ b).2:=by
     refine' zah
    (have hcm:dq (ρ b) cap=(ρ b).2-(cap-ew):=by unfold dq;rw[if_pos u0]);have hb:=h8 A ρ G5 fF I9 o1 o2 o3 P true w (dq (ρ b) cap) (by rw[hcm];omega);rw[o3.none] at hb⊢;simp only[if_true] at hb;refine cK.same hp ay ay ?_ (v':=.slice (some ⟨(ρ b).1,o+l*sz,none⟩) (hh-l) ((ρ b).2-(cap-ew)-l)) λeK ee=>?_
    .rw[hx.fS];unfold Instr.sliceAt;simp only[Sem.run_bind,run_underlying hu,Result.andThen_ok];unfold Instr.slice;simp only[Sem.run_bind,run_underlying hu,Result.andThen_ok,hb,run_sizeOf hE jd,wG,add_lit];have hll:l=0\/l<hh:=by simpa[SB] using hlh
     have h77:=OM (cG _) rfl;rw[hcm];by_cases hq:(ρ b).2-(cap-ew)=l
     .have:l=0:=by omega
      subst this;simp[hq]
     .simp[hq]
    .rw[eH,ee b hA];have:dq (ρ b) (Nat.add cap l)=(ρ b).2-(cap-ew)-l:=by
      have h3:Nat.add cap l=cap+l:=rfl;unfold dq;rw[h3,if_pos ag];omega
     rw[this];rfl
   .cases h2
 .rename_i n elem b o;obtain⟨sz,jd,h3⟩:=aD h1;obtain⟨hn,h4⟩:=bz h3;have hn:n<ew:=mT hn;obtain⟨u,Lc,h5⟩:=aD h4;have:=aH h5;simp only[cH] at this;obtain⟨rfl,rfl⟩:=this;refine⟨aG.refl _,λX A ρ w x' G5 fF I9 hp hx o1 o2 o3=>?_⟩;obtain⟨l,hh,m,h6,h7,h8,h9,FM⟩:=sA Lc;have:=ke h6;subst this;have hb:=FM A ρ G5 fF I9 o1 o2 o3 P false w n (cG _);have hm:(if mx=none then n else m)=m:=by
   split
   .rename_i hmx;exact(h7.2 hmx).symm
   .rfl
  rw[hm] at hb;have Q6:m-l<ew:=by have:=h7.1;omega
  rw[hx.nM];refine cK.pure hp (v':=.slice (some (if m=l then⟨(ρ b).1,o,none⟩ else(⟨(ρ b).1,o,none⟩:Addr).add (l*sz))) (hh-l) (m-l)) ?_ λeK e=>?_
  .unfold Instr.sliceAt;simp only[Sem.run_bind,run_underlying hu,Result.andThen_ok,Instr.sureAddr,Sem.run_pure,hb,run_sizeOf hE jd]
  .have h1:=(hx eK e).trans hx.self.symm;simp only[mW,Value.pointer.injEq,sg,Addr.mk.injEq,Aq] at h1;rw[dW,Dh];simp only[B7];by_cases Ld:m=l
   .simp only[Ld,if_true,B9];rw[eH,h1,show l.sub l=0 from B9 l,fG (show 0<ew by decide)];rfl
   .simp only[Ld,pB,add_lit];rw[eH,h1,fG (c:=m.sub l) Q6];rfl
 .cases h1
theorem G6 (off:Nat):∀(vs:a6)(i:Nat)(cs:Array Value),off+i+vs.length<=cs.size->
  (vs.zipIdx i).foldl (λcs (x:Value×Nat)=>cs.setIfInBounds (off+x.2) x.1) cs=⟨cs.toList.take (off+i)++vs++cs.toList.drop (off+i+vs.length)⟩
 |[],i,cs,_=>by simp
 |v::vs,i,cs,h=>by
  simp only[cY] at h;rw[List.zipIdx_cons,wH,G6 off vs (i+1) _ (by simp;omega)];rw[Array.toList_setIfInBounds,show off+(i+1)=off+i+1 by omega,rQ _ _ _ (by simp;omega),wW,cY,show off+i+1+vs.length=off+i+(vs.length+1) by omega];simp
theorem ON (bU:Nat->Option (Nat×Nat))(p:Nat×Value)(l:List (Nat×Value))(cells:a6):
  sr bU (p::l) cells=ob (bU p.1) λq=>dZ (Nat.beq (ec (cg p.2)) q.2)<| ob (fT q.1 (cg p.2) cells) λcs=>sr bU l cs:=rfl
def PR (A:Nat->Prop)(ρ:iD):List (Nat×Value)->List (Nat×Value)->Prop
 |[],l=>l=[]
 |p::ps,l=>∃v' r,l=(p.1,v')::r/\VR A ρ p.2 v'/\PR A ρ ps r
theorem yW (bU:Nat->Option (Nat×Nat))(OO:Nat->Option (Nat×Nat)):∀(l:List (Nat×Value))(cells:a6){r:a6},sr bU l cells=some r->(∀i q,bU i=some q->OO i=some q)->
  ∀A ρ l' u4,PR A ρ l l'->LR A ρ cells u4->∃r',Instr.fill OO ⟨u4⟩ l'=some ⟨r'⟩/\LR A ρ r r'
 |[],cells,r,h,_,A,ρ,l',u4,hl,hc=>by
  have:cells=r:=ke h;subst this;have:l'=[]:=hl;subst this;exact⟨u4,rfl,hc⟩
 |p::l,cells,r,h,rS,A,ρ,l',u4,hl,hc=>by
  rw[ON] at h;obtain⟨q,hq,h1⟩:=aD h;obtain⟨hb,h2⟩:=bz h1;obtain⟨cs,pj,h3⟩:=aD h2;obtain⟨v',r',rfl,hv,hr⟩:=hl;rw[hU] at hb pj;obtain⟨h4,h5⟩:=nW _ _ pj;have hvc:=hv.cells;have hvl:=hvc.length;have uV:=hc.length;have cX:p.2.cells.toList.length=q.2:=by simpa using hb
  have agS:v'.cells.size=q.2:=by have:=hvl;simp at this cX;omega
  obtain⟨r2,h6,h7⟩:=yW bU OO l cs h3 rS A ρ r' (u4.take q.1++v'.cells.toList++u4.drop (q.1+v'.cells.toList.length)) hr (by
   rw[h5,hvl];exact((hc.take q.1).append hvc).append (hc.drop _))
  refine⟨r2,?_,h7⟩;unfold Instr.fill;rw[rS _ _ hq];obtain⟨off,sz⟩:=q;simp only at agS h4 cX h6⊢;rw[if_neg (by simp at h4 uV cX⊢;omega)];rw[<-h6]
  congr 1
  have:=G6 off v'.cells.toList 0 ⟨u4⟩ (by simp at h4 uV cX⊢;omega);simp only[xq] at this;rw[<-this];rw[<-Array.foldl_toList,Array.toList_zipIdx]
theorem tw (ev Ol:Operand->Value):∀(l:List (Nat×Operand)),(∀p∈l,VR A ρ (ev p.2) (Ol p.2))->PR A ρ (tg ev l) (l.map λx=>(x.1,Ol x.2))
 |[],_=>rfl
 |p::l,h=>⟨Ol p.2,_,rfl,h p ay,tw ev Ol l λq hq=>h q (by simp[hq])⟩
theorem vM (zs:a6)(n:Nat):lY zs (n+1)=zs++lY zs n:=rfl
theorem Bz (zs:a6)(n:Nat):(lY zs n).length=n*zs.length:=by
 induction n with
 |zero=>show([]:a6).length=_;simp
 |succ n ih=>rw[vM,bL,ih,Nat.succ_mul];omega
theorem VX (zs:a6)(n:Nat):∀k,k<n*zs.length->(lY zs n)[k]?=zs[k% zs.length]?:=by
 induction n with
 |zero=>intro k h;simp at h
 |succ n ih=>
  intro k h;rw[Nat.succ_mul] at h;rw[vM];rcases lA k zs.length with h1|h1
  .rw[wE h1,IW h1]
  .rw[Ao h1,ih _ ag,Nat.mod_eq_sub_mod h1]
theorem yX (z:Value)(n sz:Nat)(hz:z.cells.size=sz)(h0:0<sz):(Array.range (n*sz)).map (z.cells[·% z.cells.size]!)=⟨lY z.cells.toList n⟩:=by
 apply wF;apply VA;intro k;simp only[Array.toList_map,Array.toList_range,Ar];rcases lA k (n*sz) with h|h
 .rw[SD h];simp only[wG];rw[VX _ _ k (by simpa[hz] using h)];have hm:k% z.cells.size<z.cells.size:=SE _ ag;simp[hm]
 .rw[sh (by simpa using h),sh (by rw[Bz];simpa[hz] using h)];rfl
theorem u5 {zs:a6}(h:∀ρ,zs.map (cw ρ)=zs)(n:Nat):LR A ρ (lY zs n) (lY zs n):=by
 intro eK _;induction n with
 |zero=>show([]:a6).map _=[];rfl
 |succ n ih=>rw[vM,KI,h,ih]
theorem pN {z:Value}(h:∀ρ,cw ρ z=z)(ρ:iD):z.cells.toList.map (cw ρ)=z.cells.toList:=by rw[<-xA,h]
theorem pX {β:Type}{t:Option TypeId}{k:TypeId->Option β}{r:β}(h:elemOf E t k=some r):∃t' e,t=some t'/\ji E t'=some (.slice e)/\k e=some r:=by
 obtain⟨t',h1,h2⟩:=aD h;obtain⟨d,h3,h4⟩:=aD h2;split at h4
 .exact⟨t',_,h1,h3,h4⟩
 .cases h4
theorem G7 {c:a6}{e:TypeId}{c':a6}(l k:Nat)(hk:k<ew)(hp:pq P X A ρ s (s.new (.cells c e false)) w)(hc:LR A ρ c c'){m:Sem Value}
  (hm:m.run P w= .ok (.slice (some ⟨w.heap.size,0,none⟩) l k) (w.alloc (.cells ⟨c'⟩ e))):cK P X A ρ s (s.new (.cells c e false)) w (.slice (some ⟨s.next,0,none⟩) l k) m:=by
 refine⟨_,_,ρ.at s.next (w.heap.size,c.length),hm,?_,?_⟩
 .have:=VR.slice (A:=dv A s.next (s.new (.cells c e false)).next) (ρ:=ρ.at s.next (w.heap.size,c.length)) (b:=s.next) (o:=0) (l:=l) (c:=k) (.inr ⟨cG _,ay⟩);rw[fG hk] at this;simpa using this
 .refine Good.alloc (o:=.cells c e false) (x:=.cells ⟨c'⟩ e) hp.st hp.eg hp.lt (λc=>by simp) ay (kh s _) (cG _) (heap_alloc_new w _) ?_ (Fr.alloc w _);exact⟨c',[],(0,0),ay,hc,(λh=>by cases h),λ_=>⟨.inl ⟨rfl,rfl⟩,cG _⟩⟩
theorem G8 (hE:c8 E P)(w:World):∀(fs:List Field){pl:List (Nat×Nat)},places E fs=some pl->(fs.mapM λf=>do pure (f.offset,<-sizeOf f.type):Sem (List (Nat×Nat))).run P w= .ok pl w
 |[],pl,h=>by have:=ke h;subst this;simp
 |f::fs,pl,h=>by
  have h':ob (size E f.type) (λsz=>ob (places E fs) λr=>some ((f.offset,sz)::r))=some pl:=h;obtain⟨sz,h1,h2⟩:=aD h';obtain⟨r,h3,h4⟩:=aD h2;have:=ke h4;subst this;have ih:=G8 hE w fs h3;simp only[FV,Sem.run_bind,run_sizeOf hE h1,Sem.run_pure,Result.andThen_ok,ih]
theorem SR (hE:c8 E P){t:TypeId}{ev:Operand->Value}{ps:List (Nat×Operand)}(h:I2 E ev s t ps=some (v,s')):s'=s/\∀A ρ (Ol:Operand->Value),(∀p∈ps,VR A ρ (ev p.2) (Ol p.2))->
  ∃v',(∀w,(Instr.build t (ps.map λx=>(x.1,Ol x.2)).toArray).run P w= .ok v' w)/\VR A ρ v v':=by
 obtain⟨z,hz,h1⟩:=aD h;obtain⟨d,hd,h2⟩:=aD h1;clear h h1;have hu:=dY hE hd;split at h2
 .rename_i fs;obtain⟨pl,rS,h3⟩:=aD h2;obtain⟨cs,pj,h4⟩:=aD h3;have:=aH h4;simp only[cH] at this;obtain⟨rfl,rfl⟩:=this;refine⟨rfl,λA ρ Ol hev=>?_⟩;obtain⟨r',h5,h6⟩:=yW (jj pl) (pl.toArray[·]?) _ _ pj (λi q hq=>by simpa using hq) A ρ _ z.cells.toList (tw ev Ol ps hev) (by rw[hU];exact λeK _=>pN (mD hE hz) eK);refine⟨.agg ⟨r'⟩,λw=>?_,VR.agg h6⟩;unfold Instr.build;simp only[Sem.run_bind,kg hE hz,Result.andThen_ok,run_underlying hu];have hmm:((⟨fs⟩:Array Field).mapM λf=>do pure (f.offset,<-sizeOf f.type):Sem (Array (Nat×Nat))).run P w= .ok pl.toArray w:=by
   have:=G8 hE w fs rS;rw[Array.mapM_eq_mapM_toList];simp only[map_eq_pure_bind,Sem.run_bind,this,Result.andThen_ok,Sem.run_pure]
  simp only[hmm,Result.andThen_ok];simp only[h5];rfl
 .rename_i n e;obtain⟨sz,jd,h3⟩:=aD h2;obtain⟨cs,pj,h4⟩:=aD h3;have:=aH h4;simp only[cH] at this;obtain⟨rfl,rfl⟩:=this;refine⟨rfl,λA ρ Ol hev=>?_⟩;obtain⟨r',h5,h6⟩:=yW (oR sz) (λi=>some (i*sz,sz)) _ _ pj (λi q hq=>hq) A ρ _ z.cells.toList (tw ev Ol ps hev) (by rw[hU];exact λeK _=>pN (mD hE hz) eK);refine⟨.agg ⟨r'⟩,λw=>?_,VR.agg h6⟩;unfold Instr.build;simp only[Sem.run_bind,kg hE hz,Result.andThen_ok,run_underlying hu,run_sizeOf hE jd];simp only[h5];rfl
 .cases h2
theorem Di (hE:c8 E P){t:TypeId}{n:Nat}{ev:Operand->Value}{ps:List (Nat×Operand)}(h:uP E ev s t n ps=some (v,s')):aG s s'/\∀X A ρ w (Ol:Operand->Value),pq P X A ρ s s' w->(∀p∈ps,VR A ρ (ev p.2) (Ol p.2))->
  cK P X A ρ s s' w v (Instr.buildSlice t n (ps.map λx=>(x.1,Ol x.2)).toArray):=by
 obtain⟨t',e,ht,hd,h1⟩:=pX h;have:=ke ht;subst this;obtain⟨sz,jd,h2⟩:=aD h1;obtain⟨z,hz,h3⟩:=aD h2;obtain⟨hc,h4⟩:=bz h3;obtain⟨cs,pj,h5⟩:=aD h4;have:=aH h5;simp only[cH] at this;obtain⟨rfl,rfl⟩:=this;clear h h1 h2 h3 h4 h5 ht;simp only[bO,B7,nG,dm,hU] at hc;obtain⟨⟨vN,qY⟩,Ja⟩:=hc;have hmul:Nat.mul n sz=n*sz:=rfl;rw[hmul] at Ja;have hu:=dY hE hd;refine⟨aG.jL s _,λX A ρ w Ol hp hev=>?_⟩;rw[hU] at pj;obtain⟨r',h5,h6⟩:=yW (oR sz) (λi=>some (i*sz,sz)) _ _ pj (λi q hq=>hq) A ρ _ _ (tw ev Ol ps hev) (u5 (pN (mD hE hz)) n);refine G7 n n (by simp[ew];have:n<=n*sz:=VB n qY;omega) hp h6 ?_;unfold Instr.buildSlice;simp only[Sem.run_bind,run_underlying hu,Result.andThen_ok,run_sizeOf hE jd];rw[if_neg ag];have hm:=yX z n sz (by simpa using vN) qY;by_cases h0:n*sz=0
 .have hn:n=0:=by
   rcases Nat.mul_eq_zero.1 h0 with h|h
   .exact h
   .omega
  subst hn;simp only[IY,if_true,Sem.run_pure,Result.andThen_ok];have e1:∀f:Nat->Value,(Array.map f (Array.range 0))=⟨lY z.cells.toList 0⟩:=λf=>by
   apply wF;show _=([]:a6);simp
  simp only[Sem.run_bind,Sem.run_pure,Result.andThen_ok,e1,h5,qt]
 .simp only[h0,pB,Sem.run_bind,kg hE hz,Result.andThen_ok,Sem.run_pure];rw[hm,h5];simp only[Sem.run_bind,qt,Result.andThen_ok,Sem.run_pure]
theorem F5 (hE:c8 E P){t:TypeId}(h:xx E s t x y=some (v,s')):aG s s'/\∀X A ρ w x' y',pq P X A ρ s s' w->VR A ρ x x'->VR A ρ y y'->cK P X A ρ s s' w v (Instr.makeSlice t x' y'):=by
 obtain⟨t',e,ht,hd,h1⟩:=pX h;have:=ke ht;subst this;obtain⟨i,hi,h2⟩:=aD h1;obtain⟨z,hz,h3⟩:=aD h2;clear h h1 h2 ht;split at h3
 .rename_i kl l kc c;obtain⟨hc,h4⟩:=bz h3;have:=aH h4;simp only[cH] at this;obtain⟨rfl,rfl⟩:=this;clear h3 h4;simp only[bO,B7,nG,dm,hU] at hc;obtain⟨⟨⟨⟨vN,qY⟩,Ja⟩,Vk⟩,hc5⟩:=hc;have hu:=dY hE hd;have hI:=hE.ty _ _ hi;refine⟨aG.jL s _,λX A ρ w x' y' hp hx hy=>?_⟩;rw[hx.mB,hy.mB];rw[hU] at hp⊢;refine G7 l c (by simp[ew];omega) hp (u5 (pN (hE.zs _ _ _ hi hz)) c) ?_;have hb:(i.bytes:Int)*(c:Int)<=281474976710656:=by
   have:i.bytes*c<=1000000*1000000:=Nat.mul_le_mul Ja qY;have h2:((i.bytes*c:Nat):Int)<=281474976710656:=by omega
   rwa [Int.natCast_mul] at h2
  have:=run_makeSlice (P:=P) w t e i z hu hI hz kl kc (l:Int) (c:Int) ag ag;rw[show(Int.ofNat l)=(l:Int) from rfl,show(Int.ofNat c)=(c:Int) from rfl];rw[run_make w t e i z hu hI hz kl kc (l:Int) (c:Int) ag ag hb ag];simp only[uK];have hm:=yX z c i.size (by simpa using Vk) hc5;rw[show madeCells z.cells (c*i.size)=⟨lY z.cells.toList c⟩ from hm]
 .cases h3
theorem aas (h:adW x s=some (v,s')):s'=s/\v=x/\((∃a,x= .pointer (some a))\/∃f a b,x= .func (.func f) a b):=by
 unfold adW at h;split at h
 .rename_i a;have:=aH h;simp only[cH] at this;exact⟨this.2.symm▸rfl,this.1▸rfl,.inl ⟨a,rfl⟩⟩
 .rename_i f a b;have:=aH h;simp only[cH] at this;exact⟨this.2.symm▸rfl,this.1▸rfl,.inr ⟨f,a,b,rfl⟩⟩
 .cases h
theorem strCells_eq (l:List UInt8):strCells l=l.map λc=>Value.int .u8 (c.toNat:Int):=by
 induction l with
 |nil=>rfl
 |cons c l ih=>exact ep (Value.int .u8 (c.toNat:Int)::·) ih
theorem j3 (l:List UInt8)(ρ:iD):(strCells l).map (cw ρ)=strCells l:=by rw[strCells_eq,List.map_map];apply CW;intro c _;simp
theorem fp.drew {g:Nat->Option gV}(h:fp P X A ρ g w):fp P X A ρ g w.drew:=⟨h.lz,h.inj⟩
theorem Q7 {β:Type}{sz:Nat}{k:Nat->a6->St->Option β}{r:β}(h:K0 s sz x k=some r):∃n new s1,k n new s1=some r/\s1.heap=s.heap/\s1.next=s.next/\s1.wr=s.wr/\aG s s1/\new.length=n*sz/\
  ∀X A ρ w x',(∀b,In s1.cU b->X b)->fp P X A ρ s.heap.get w->VR A ρ x x'->∃fO,LR A ρ new fO/\fO=new.map (cw ρ)/\
   ∀w2,w2.heap=w.heap->(Builtin.lenOf x').run P w2= .ok n w2/\∀m,m<=n->(Builtin.firstCells sz m x').run P w2= .ok ⟨fO.take (m*sz)⟩ w2:=by
 unfold K0 at h;split at h
 .rename_i z;obtain⟨h1,h2⟩:=bz h;have h1:sz=1:=by simpa using h1
  subst h1;refine⟨_,_,s,h2,rfl,rfl,rfl,aG.refl s,by rw[strCells_eq];simp,λX A ρ w x' hX iK hx=>⟨strCells z,λeK _=>j3 z eK,(j3 z ρ).symm,λw2 hw=>⟨?_,λm hm=>?_⟩⟩⟩
  .rw[hx.uU,dm];rfl
  .rw[hx.uU];unfold Builtin.firstCells;simp only[Sem.run_pure,extract_mk,Nat.sub_zero,CX,xr]
   congr 1
   apply wF;simp[strCells_eq,List.map_take]
 .rename_i n c;obtain⟨h1,h2⟩:=bz h;have h1:n=0:=by simpa using h1
  subst h1;refine⟨_,_,s,h2,rfl,rfl,rfl,aG.refl s,ay,λX A ρ w x' hX iK hx=>⟨[],LR.nil,rfl,λw2 hw=>⟨?_,λm hm=>?_⟩⟩⟩
  .rw[hx.jm];rfl
  .rw[hx.jm];simp[Builtin.firstCells]
 .rename_i b o n c;obtain⟨cs,e,u,hg,h1⟩:=ml h;obtain⟨new,hn,h2⟩:=aD h1;rw[qp] at hn;obtain⟨h3,h4⟩:=kQ hn;rw[eW] at h3;have hmul:Nat.mul n sz=n*sz:=rfl;rw[hmul] at h3 h4;refine⟨_,_,s.aY b,h2,ay,ay,ay,aG.aY s b,by rw[h4];simp;omega,λX A ρ w x' hX iK hx=>?_⟩;obtain⟨hA,c',aS,fr,r1,r2,r3,r4,r5,r6⟩:=iK.row (hX b (gi s b)) hg;refine⟨(c'.drop o).take (n*sz),?_,?_,λw2 hw=>⟨?_,λm hm=>?_⟩⟩
  .rw[h4];exact(r2.drop o).take _
  .rw[h4,<-r2.self,List.map_take,List.map_drop]
  .rw[hx.fS];rfl
  .rw[hx.fS];unfold Builtin.firstCells;have hms:m*sz<=n*sz:=KM _ hm;rcases wD (m*sz) with h0|h0
   .simp only[h0,loadCells,loadCellsFrom,List.take_zero];rfl
   .rw[jk P (by rw[hw];exact r1) o (m*sz) (by simp;omega)]
    congr 1
    apply wF;simp only[];rw[Sz ag,B8 (by simp;omega),OC,As hms]
 .rename_i b o q n c;obtain⟨h1,h2⟩:=bz h;have h1:n=0:=by simpa using h1
  subst h1;refine⟨_,_,s,h2,rfl,rfl,rfl,aG.refl s,ay,λX A ρ w x' hX iK hx=>⟨[],LR.nil,rfl,λw2 hw=>⟨?_,λm hm=>?_⟩⟩⟩
  .obtain⟨a',sd⟩:=hx.tq;rw[sd];rfl
  .obtain⟨a',sd⟩:=hx.tq;have FN:m=0:=Nat.eq_zero_of_le_zero hm;subst FN;rw[sd];simp[Builtin.firstCells,loadCells,loadCellsFrom]
 .cases h
theorem OP {e:TypeId}{i:TypeInfo}(hi:P.info? e=some i)(w:World):(typeInfo e).run P w= .ok i w:=by simp[typeInfo,hi]
theorem ia {ts:Array TypeId}{ty t xt e:TypeId}{xd:TypeDesc}{i:TypeInfo}(h0:ts[0]?=some t)(h1:ts[1]?=some xt)(ht:P.underlying t=some (.slice e))(KB:P.underlying xt=some xd)(Jb:isInt xd=false)(hi:P.info? e=some i)
  {len n cap:Nat}{base:aM}{new:a6}(hl:(Builtin.lenOf x').run P w= .ok n w)(hf:(Builtin.firstCells i.size n x').run P w= .ok ⟨new⟩ w)(hr:len+n<=cap)
  (hn:base=none->w'=w)(hs:∀a,base=some a->(storeCells (a.add (len*i.size)) new).run P w= .ok () w'):
  (Builtin.append_ ts ty #[.slice base len cap,x']).run P w= .ok (.slice base (len+n) cap) w':=by
 cases xd<;>first|(cases Jb;done)|skip
 all_goals
  unfold Builtin.append_;simp only[h0,h1,KN,aac,aad,Sem.run_bind,run_underlying ht,run_underlying KB,Result.andThen_ok,sizeOf,OP hi,Sem.run_pure,jY,pB,hl,hr,if_true,IX,hf];cases base with
  |none=>simp[hn rfl]
  |some a=>simp[hs a rfl]
theorem n3 {ts:Array TypeId}{ty t xt e:TypeId}{xd:TypeDesc}{i:TypeInfo}{z:Value}(h0:ts[0]?=some t)(h1:ts[1]?=some xt)(ht:P.underlying t=some (.slice e))(KB:P.underlying xt=some xd)(Jb:isInt xd=false)(hi:P.info? e=some i)(hz:i.zero=some z)
  {len n cap:Nat}{base:aM}{old new:a6}(hl:(Builtin.lenOf x').run P w= .ok n w)(hf:(Builtin.firstCells i.size n x').run P w.drew= .ok ⟨new⟩ w.drew)(ho:(Builtin.firstCells i.size len (.slice base len cap)).run P w.drew= .ok ⟨old⟩ w.drew)(hr:¬len+n<=cap)
  (hsm:len+n<=1000000)(hby:i.bytes<=1000000):
  (Builtin.append_ ts ty #[.slice base len cap,x']).run P w= .ok (.slice (some ⟨w.heap.size,0,none⟩) (len+n) (grownCap w (len+n) cap e)) (w.drew.alloc (.cells (⟨old⟩++⟨new⟩++Builtin.zeroCells z.cells (grownCap w (len+n) cap e-(len+n))) e)):=by
 have hb:(len+n)*i.bytes<=140737488355328:=by
  have:(len+n)*i.bytes<=1000000*1000000:=Nat.mul_le_mul hsm hby;omega
 have hgs:=growslice_fits (need:=len+n) (old:=cap) (bytes:=i.bytes) ag hb;have h48:¬(2^ 48<Builtin.nextslicecap (len+n) cap*i.bytes):=by omega
 have h63:¬(((len+n:Nat):Int)>IntKind.i64.max):=by
  have:IntKind.i64.max=9223372036854775807:=rfl;rw[this];omega
 have hq:(Question.appendCap (len+n) cap e).forced=false:=rfl;have dS:(choose (.appendCap (len+n) cap e)).run P w= .ok (grownCap w (len+n) cap e) w.drew:=by
  rfl
 have har:∀k,(askRoom k).run P w.drew= .ok () w.drew:=by
  intro k;unfold askRoom;split<;>simp[mark,Sem.run]
 cases xd<;>first|(cases Jb;done)|skip
 all_goals
  unfold Builtin.append_;simp only[h0,h1,KN,aac,aad,Sem.run_bind,run_underlying ht,run_underlying KB,Result.andThen_ok,sizeOf,OP hi,Sem.run_pure,jY,pB,hl,hr,IX,if_true,h63,false_and,gt_iff_lt,h48];simp only[dS,har,ho,hf,Result.andThen_ok,zeroValue,Sem.run_bind,OP hi,Sem.run_pure,hz,qt];rfl
theorem Dj (z:Array Value)(n:Nat):(Builtin.zeroCells z n).toList.length=n*z.size:=by simp[Builtin.zeroCells]
theorem Dk {c c':a6}{e:TypeId}{i:TypeInfo}{z:Value}{len cap:Nat}(hp:pq P X A ρ s (s.new (.cells c e true)) w)(hc:LR A ρ c c')(hi:P.info? e=some i)(hzs:z.cells.size=i.size)(h0:0<i.size)(hl:c.length=len*i.size)(cX:len<=1000000){m:Sem Value}
  (hm:m.run P w= .ok (.slice (some ⟨w.heap.size,0,none⟩) len (grownCap w len cap e)) (w.drew.alloc (.cells ⟨c'++(Builtin.zeroCells z.cells (grownCap w len cap e-len)).toList⟩ e))):
  cK P X A ρ s (s.new (.cells c e true)) w (bX s len) m:=by
 have Z6:P.cellsOf e=i.size:=by simp[Program.cellsOf,hi]
 have hge:=grownCap_ge w len cap e;have hle:=grownCap_le_maxLen w len cap e (by unfold maxLen;omega);refine⟨_,_,ρ.at s.next (w.heap.size,grownCap w len cap e),hm,?_,?_⟩
 .have:=VR.slice (A:=dv A s.next (s.new (.cells c e true)).next) (ρ:=ρ.at s.next (w.heap.size,grownCap w len cap e)) (b:=s.next) (o:=0) (l:=len) (c:=ew) (.inr ⟨cG _,ay⟩);simpa[dq,bX] using this
 .refine Good.alloc (o:=.cells c e true) (x:=.cells ⟨c'++(Builtin.zeroCells z.cells (grownCap w len cap e-len)).toList⟩ e) hp.st hp.eg hp.lt (λc=>by simp) ay (kh s _) (cG _) (heap_alloc_new w.drew _) ?_ (Fr.G4 w _);refine⟨c',_,(0,0),rfl,hc,λ_=>⟨rfl,?_,by rw[Z6];exact h0,hle⟩,λh=>by cases h⟩;rw[Dj,hzs,hl,Z6,<-mM]
  congr 1;omega
theorem Good.Jc {s1:St}{eK:iD}(h1:s1.heap=s.heap)(h2:s1.next=s.next)(g:Good P X A ρ s1 s' w w' eK):Good P X A ρ s s' w w' eK:=by obtain⟨a,b,c,d,e,f,g,h⟩:=g;rw[h2] at a b c e f g;rw[h1] at d e f g;exact⟨a,b,c,d,e,f,g,h⟩
theorem cK.Jc {s1:St}{m:Sem Value}(h1:s1.heap=s.heap)(h2:s1.next=s.next)(g:cK P X A ρ s1 s' w v m):cK P X A ρ s s' w v m:=by obtain⟨v',w',eK,a,b,c⟩:=g;exact⟨v',w',eK,a,by rw[<-h2];exact b,c.Jc h1 h2⟩
theorem pq.Jc {s1 s2:St}(h1:s1.heap=s.heap)(h2:s1.next=s.next)(kR:∀b,In s2.cU b->In s'.cU b)(h:pq P X A ρ s s' w):pq P X A ρ s1 s2 w:=
 ⟨by rw[h2];exact h.lt,by rw[h1,h2];exact h.eg,λb hb=>h.cU b (kR b hb),by rw[h1];exact h.st⟩
theorem sB {g:Nat}{cs:a6}{e:TypeId}{fr:Nat×Nat}(hg:w.heap[g]?=some (.cells ⟨cs⟩ e fr))(Az:fr=(0,0)\/cs.length<=fr.1)(o:Nat)(vs:a6)(hl:o+vs.length<=cs.length)(hf:∀v∈vs,flat v=true):
  (storeCells ⟨g,o,none⟩ vs).run P w= .ok () (w.setRow g ⟨cs.take o++vs++cs.drop (o+vs.length)⟩):=by
 have:=mj P g o e fr vs 0 ⟨cs⟩ w hg (by simpa using Az) (by simpa using hl) (λv hv=>by rw[<-K8];exact hf v hv);simpa using this
theorem aat (c' aS fO:a6)(k:Nat)(h:c'.length=k):(c'++aS).take k++fO++(c'++aS).drop (k+fO.length)=(c'++fO)++aS.drop fO.length:=by subst h;rw[List.take_left,List.drop_append,yE ag];simp
theorem CB (c' aS fO:a6)(k:Nat)(h:k+fO.length<=c'.length):(c'++aS).take k++fO++(c'++aS).drop (k+fO.length)=(c'.take k++fO++c'.drop (k+fO.length))++aS:=by rw[B8 ag,Sz ag];simp
theorem ad1 (a b:a6)(c:Array Value):((⟨a⟩:Array Value)++(⟨b⟩:Array Value)++c)=⟨a++b++c.toList⟩:=by apply wF;simp
theorem Lf (hE:c8 E P){elem t xt:TypeId}{xd:TypeDesc}{i:TypeInfo}{z:Value}{base:aM}{len cap n:Nat}{new:a6}{s1:St}
  (h:oQ elem i.size base len cap n new s1=some (v,s'))(hi:P.info? elem=some i)(hz:i.zero=some z)(hzs:z.cells.size=i.size)(jd:0<i.size)(hby:i.bytes<=1000000)(nB:new.length=n*i.size)(OQ:∀v∈new,flat v=true)(cX:len+n<=1000000)
  (ht:P.underlying t=some (.slice elem))(KB:P.underlying xt=some xd)(Jb:isInt xd=false):
  aG s1 s'/\∀X A ρ w b' x' fO (ts:Array TypeId) ty,pq P X A ρ s1 s' w->VR A ρ (.slice base len cap) b'->LR A ρ new fO->ts[0]?=some t->ts[1]?=some xt->
   (∀w2,w2.heap=w.heap->(Builtin.lenOf x').run P w2= .ok n w2/\(Builtin.firstCells i.size n x').run P w2= .ok ⟨fO⟩ w2)->cK P X A ρ s1 s' w v (Builtin.append_ ts ty #[b',x']):=by
 have Z6:P.cellsOf elem=i.size:=by simp[Program.cellsOf,hi]
 unfold oQ at h;split at h
 .obtain⟨hc,h2⟩:=bz h;simp only[bO,B7] at hc;obtain⟨rfl,rfl⟩:=hc;cases hn:Nat.beq n 0 with
  |true=>
   rw[hn,gC] at h2;(have yw:n=0:=by simpa using hn);subst yw;have:=aH h2;simp only[cH] at this;obtain⟨rfl,rfl⟩:=this;refine⟨aG.refl _,λX A ρ w b' x' fO ts ty hp hb lC h0 h1 hx=>?_⟩;rw[hb.jm];have hr:=ia (ty:=ty) (w':=w) h0 h1 ht KB Jb hi (hx w rfl).1 (hx w rfl).2 (len:=0) (cap:=0) (base:=none) ag (λ_=>rfl) (λa h=>by cases h);exact cK.pure hp hr (VR.ground ay)
  |false=>
   rw[hn,eL] at h2;(have yw:n≠0:=by intro e;subst e;cases hn);have:=aH h2;simp only[cH] at this;obtain⟨rfl,rfl⟩:=this;refine⟨aG.jL s1 _,λX A ρ w b' x' fO ts ty hp hb lC h0 h1 hx=>?_⟩;rw[hb.jm];have hr:=n3 (ty:=ty) h0 h1 ht KB Jb hi hz (hx w rfl).1 (hx w.drew rfl).2 (len:=0) (cap:=0) (base:=none) (old:=[]) (by simp[Builtin.firstCells]) ag ag hby;simp only[mU] at hr;refine Dk (cap:=0) hp lC hi hzs jd nB ag (hr.trans ?_);rw[ad1,pn]
 .rename_i b o;obtain⟨c,e,wd,hg,h3⟩:=ml h;cases hk:Nat.ble ew cap with
  |true=>
   rw[hk,gC] at h3;obtain⟨hc,h4⟩:=bz h3;simp only[bO,B7,dm] at hc;obtain⟨⟨⟨hw,he⟩,u0⟩,ho⟩:=hc;subst hw he u0 ho;have hmul:Nat.mul len i.size=len*i.size:=rfl;have Q8:∀ρ:iD,dq (ρ b) ew=(ρ b).2:=λρ=>by simp[dq]
   cases hbq:Nat.beq (ec c) (Nat.mul len i.size) with
   |false=>
    rw[hbq,eL] at h4;obtain⟨old,apf,h4⟩:=aD h4;obtain⟨h5,h6⟩:=kQ apf;rw[hmul] at h5 h6;have:=aH h4;simp only[cH] at this;obtain⟨rfl,rfl⟩:=this;have Z7:aG s1 (((s1.aY b).put b none).new (.cells (old++new) e true)):=((aG.aY s1 b).trans (aG.put _ b _ (by rw[iE,hg];simp))).trans (aG.jL _ _);refine⟨Z7,λX A ρ w b' x' fO ts ty hp hb lC h0 h1 hx=>?_⟩;have hX:X b:=hp.cU b ((aG.jL _ _).cU b (fq _ b _));obtain⟨hA,c',aS,fr,r1,r2,r3,r4,r5,r6⟩:=hp.st.row hX hg;obtain⟨r7,r8,r9,r10⟩:=r5 rfl;rw[Z6] at r8;subst r7;rw[hb.fS,Q8];have VY:=lC.length;(have FP:(c'.take (len*i.size)).length=len*i.size:=by rw[cW];omega);(have Lh:LR A ρ (old++new) (c'.take (len*i.size)++fO):=by rw[h6];exact(r2.take _).append lC);by_cases wX:len+n<=(ρ b).2
    .have ad2:len*i.size+n*i.size<=c.length+aS.length:=by rw[r8,<-mM];exact KM _ wX
     have iK:=sB (P:=P) r1 r4 (len*i.size) fO (by simp;omega) (lC.jE OQ);have hr:=ia (ty:=ty) (w':=w.setRow (ρ b).1 ⟨(c'++aS).take (len*i.size)++fO++(c'++aS).drop (len*i.size+fO.length)⟩) h0 h1 ht KB Jb hi (hx w rfl).1 (hx w rfl).2 (len:=len) (cap:=(ρ b).2) (base:=some ⟨(ρ b).1,0,none⟩) wX (λh=>by cases h) (λa h=>by
      have:=ke h;subst this;rw[add_lit,mU];exact iK)
     refine⟨_,_,ρ.at s1.next (ρ b),hr,?_,?_⟩
     .have:=VR.slice (A:=dv A s1.next (((s1.aY b).put b none).new (.cells (old++new) e true)).next) (ρ:=ρ.at s1.next (ρ b)) (b:=s1.next) (o:=0) (l:=len+n) (c:=ew) (.inr ⟨cG _,ay⟩);simpa[dq,bX] using this
     .refine Good.renew (o:=.cells c e true) (o':=.cells (old++new) e true) hp.st hp.eg hp.lt hX hg (λc=>by simp) ay ((aG.jL _ _).wr b (jl _ b _)) ?_ (setRow_heap w _ _ _ _ _ r1) ?_ (Fr.setRow w _ _)
      .have:=kh ((s1.aY b).put b none) (.cells (old++new) e true);simpa using this
      .refine⟨c'.take (len*i.size)++fO,(c'.drop (len*i.size)++aS).drop fO.length,(0,0),?_,Lh,λ_=>⟨rfl,?_,r9,r10⟩,λh=>by cases h⟩
       .rw[show c'++aS=c'.take (len*i.size)++(c'.drop (len*i.size)++aS) by rw[<-ku,yD],aat _ _ fO _ FP]
       .rw[Z6,bL,eW,bL,eW,h6,cW,As h5];omega
    .have hold:(Builtin.firstCells i.size len (.slice (some ⟨(ρ b).1,0,none⟩) len (ρ b).2)).run P w.drew= .ok ⟨c'.take (len*i.size)⟩ w.drew:=by
      unfold Builtin.firstCells;rw[jk P (w:=w.drew) r1 0 (len*i.size) (by simp;omega)];rw[CX,B8 ag]
     have hr:=n3 (ty:=ty) h0 h1 ht KB Jb hi hz (hx w rfl).1 (hx w.drew rfl).2 (len:=len) (cap:=(ρ b).2) (base:=some ⟨(ρ b).1,0,none⟩) hold wX cX hby;have Cb:Good P X A ρ s1 ((s1.aY b).put b none) w w ρ:=Good.drop (o:=.cells c e true) hp.st hp.eg (λc=>by simp) ay (jl _ b _) hX hg (Fr.refl w _);have hp2:pq P X (dv A s1.next ((s1.aY b).put b none).next) ρ ((s1.aY b).put b none) (((s1.aY b).put b none).new (.cells (old++new) e true)) w:=
      ⟨λj hj=>by
         rcases hj with hj|hj
         .have:=hp.lt j hj;simp;exact this
         .simp at hj;omega,λc hc=>Cb.eg c hc,hp.cU,Cb.state⟩
     obtain⟨v',w',eK,g1,g2,g3⟩:=Dk (cap:=(ρ b).2) (m:=Builtin.append_ ts ty #[.slice (some ⟨(ρ b).1,0,none⟩) len (ρ b).2,x']) hp2 (Lh.mono (λi hi=>.inl hi) (λ_ _=>rfl)) hi hzs jd (len:=len+n) (by rw[bL,h6,cW,As h5,nB,mM]) cX (hr.trans (by rw[ad1]));refine⟨v',w',eK,g1,?_,?_⟩
     .have:bX ((s1.aY b).put b none) (len+n)=bX s1 (len+n):=by simp[bX]
      refine VR.mono (g2) (λj hj=>?_) (λ_ _=>rfl);rcases hj with(hj|hj)|hj
      .exact .inl hj
      .simp at hj;omega
      .exact .inr (by simpa using hj)
     .exact Good.trans hp.cU ((aG.aY s1 b).trans (aG.put _ b _ (by rw[iE,hg];simp))) (aG.jL _ _) hp.lt Cb g3
   |true=>
   rw[hbq,gC] at h4;have uV:c.length=len*i.size:=by rw[<-dm];exact nR hbq
   cases hn:Nat.beq n 0 with
   |true=>
    rw[hn,gC] at h4;have yw:n=0:=by simpa using hn
    subst yw;have:=aH h4;simp only[cH] at this;obtain⟨rfl,rfl⟩:=this;refine⟨aG.aY s1 b,λX A ρ w b' x' fO ts ty hp hb lC h0 h1 hx=>?_⟩;obtain⟨hA,c',aS,fr,r1,r2,r3,r4,r5,r6⟩:=hp.st.row (hp.cU b (gi s1 b)) hg;obtain⟨r7,r8,r9,r10⟩:=r5 rfl;rw[Z6] at r8;rw[hb.fS,Q8];have hle:len<=(ρ b).2:=Vz (c:=i.size) ag jd;have hn':fO=[]:=mO (by rw[lC.length,nB];omega);have hr:=ia (ty:=ty) (w':=w) h0 h1 ht KB Jb hi (hx w rfl).1 (hx w rfl).2 (len:=len) (cap:=(ρ b).2) (base:=some ⟨(ρ b).1,0,none⟩) ag (λh=>by cases h) (λa h=>by
     subst hn';simp[storeCells])
    refine cK.same hp ay ay hr ?_;have:=VR.slice (A:=A) (ρ:=ρ) (b:=b) (o:=0) (l:=len) (c:=ew) hA;rw[Q8] at this;exact this
   |false=>
    rw[hn,eL] at h4;have:=aH h4;simp only[cH] at this;obtain⟨rfl,rfl⟩:=this;have Z7:aG s1 (((s1.aY b).put b none).new (.cells (c++new) e true)):=((aG.aY s1 b).trans (aG.put _ b _ (by rw[iE,hg];simp))).trans (aG.jL _ _);refine⟨Z7,λX A ρ w b' x' fO ts ty hp hb lC h0 h1 hx=>?_⟩;have hX:X b:=hp.cU b ((aG.jL _ _).cU b (fq _ b _));obtain⟨hA,c',aS,fr,r1,r2,r3,r4,r5,r6⟩:=hp.st.row hX hg;obtain⟨r7,r8,r9,r10⟩:=r5 rfl;rw[Z6] at r8;subst r7;rw[hb.fS,Q8];have VY:=lC.length;have Lh:LR A ρ (c++new) (c'++fO):=r2.append lC;by_cases wX:len+n<=(ρ b).2
    .have ad2:len*i.size+n*i.size<=c.length+aS.length:=by rw[r8,<-mM];exact KM _ wX
     have iK:=sB (P:=P) r1 r4 (len*i.size) fO (by simp;omega) (lC.jE OQ);have hr:=ia (ty:=ty) (w':=w.setRow (ρ b).1 ⟨(c'++aS).take (len*i.size)++fO++(c'++aS).drop (len*i.size+fO.length)⟩) h0 h1 ht KB Jb hi (hx w rfl).1 (hx w rfl).2 (len:=len) (cap:=(ρ b).2) (base:=some ⟨(ρ b).1,0,none⟩) wX (λh=>by cases h) (λa h=>by
      have:=ke h;subst this;rw[add_lit,mU];exact iK)
     refine⟨_,_,ρ.at s1.next (ρ b),hr,?_,?_⟩
     .have:=VR.slice (A:=dv A s1.next (((s1.aY b).put b none).new (.cells (c++new) e true)).next) (ρ:=ρ.at s1.next (ρ b)) (b:=s1.next) (o:=0) (l:=len+n) (c:=ew) (.inr ⟨cG _,ay⟩);simpa[dq,bX] using this
     .refine Good.renew (o:=.cells c e true) (o':=.cells (c++new) e true) hp.st hp.eg hp.lt hX hg (λc=>by simp) ay ((aG.jL _ _).wr b (jl _ b _)) ?_ (setRow_heap w _ _ _ _ _ r1) ?_ (Fr.setRow w _ _)
      .have:=kh ((s1.aY b).put b none) (.cells (c++new) e true);simpa using this
      .have akE:c'.length=len*i.size:=by omega
       refine⟨c'++fO,aS.drop fO.length,(0,0),?_,Lh,λ_=>⟨rfl,?_,r9,r10⟩,λh=>by cases h⟩
       .rw[aat c' aS fO _ akE]
       .rw[Z6,bL,eW];omega
    .have hold:(Builtin.firstCells i.size len (.slice (some ⟨(ρ b).1,0,none⟩) len (ρ b).2)).run P w.drew= .ok ⟨c'⟩ w.drew:=by
      unfold Builtin.firstCells;rw[jk P (w:=w.drew) r1 0 (len*i.size) (by simp;omega)];rw[CX,B8 ag,qW ag]
     have hr:=n3 (ty:=ty) h0 h1 ht KB Jb hi hz (hx w rfl).1 (hx w.drew rfl).2 (len:=len) (cap:=(ρ b).2) (base:=some ⟨(ρ b).1,0,none⟩) hold wX cX hby;have Cb:Good P X A ρ s1 ((s1.aY b).put b none) w w ρ:=Good.drop (o:=.cells c e true) hp.st hp.eg (λc=>by simp) ay (jl _ b _) hX hg (Fr.refl w _);have hp2:pq P X (dv A s1.next ((s1.aY b).put b none).next) ρ ((s1.aY b).put b none) (((s1.aY b).put b none).new (.cells (c++new) e true)) w:=
      ⟨λj hj=>by
         rcases hj with hj|hj
         .have:=hp.lt j hj;simp;exact this
         .simp at hj;omega,λc hc=>Cb.eg c hc,hp.cU,Cb.state⟩
     obtain⟨v',w',eK,g1,g2,g3⟩:=Dk (cap:=(ρ b).2) (m:=Builtin.append_ ts ty #[.slice (some ⟨(ρ b).1,0,none⟩) len (ρ b).2,x']) hp2 (Lh.mono (λi hi=>.inl hi) (λ_ _=>rfl)) hi hzs jd (len:=len+n) (by rw[bL,uV,nB,mM]) cX (hr.trans (by rw[ad1]));refine⟨v',w',eK,g1,?_,?_⟩
     .have:bX ((s1.aY b).put b none) (len+n)=bX s1 (len+n):=by simp[bX]
      refine VR.mono (g2) (λj hj=>?_) (λ_ _=>rfl);rcases hj with(hj|hj)|hj
      .exact .inl hj
      .simp at hj;omega
      .exact .inr (by simpa using hj)
     .exact Good.trans hp.cU ((aG.aY s1 b).trans (aG.put _ b _ (by rw[iE,hg];simp))) (aG.jL _ _) hp.lt Cb g3
  |false=>
   rw[hk,eL] at h3;have u0:cap<ew:=by
    rcases lA cap ew with h|h
    .exact h
    .rw[gp h] at hk;cases hk
   cases hr:Nat.ble (Nat.add len n) cap with
   |true=>
    rw[hr,gC] at h3;have wX:len+n<=cap:=mT hr;cases hn:Nat.beq n 0 with
    |true=>
     rw[hn,gC] at h3;have yw:n=0:=by simpa using hn
     subst yw;have:=aH h3;simp only[cH] at this;obtain⟨rfl,rfl⟩:=this;refine⟨aG.aY s1 b,λX A ρ w b' x' fO ts ty hp hb lC h0 h1 hx=>?_⟩;rw[hb.fS,fG u0];have hn':fO=[]:=mO (by rw[lC.length,nB];omega);have hr:=ia (ty:=ty) (w':=w) h0 h1 ht KB Jb hi (hx w rfl).1 (hx w rfl).2 (len:=len) (cap:=cap) (base:=some ⟨(ρ b).1,o,none⟩) wX (λh=>by cases h) (λa h=>by
      subst hn';simp[storeCells])
     have hA:=(hp.st.row (hp.cU b (gi s1 b)) hg).1;refine cK.same hp ay ay hr ?_;have:=VR.slice (A:=A) (ρ:=ρ) (b:=b) (o:=o) (l:=len) (c:=cap) hA;rw[fG u0] at this;exact this
    |false=>
     rw[hn,eL] at h3;obtain⟨cs,pj,h4⟩:=aD h3;have:=aH h4;simp only[cH] at this;obtain⟨rfl,rfl⟩:=this;obtain⟨h8,h9⟩:=nW _ _ pj;refine⟨(aG.aY s1 b).trans (aG.put _ b _ (by rw[iE,hg];simp)),λX A ρ w b' x' fO ts ty hp hb lC h0 h1 hx=>?_⟩;have hX:X b:=hp.cU b (fq _ b _);obtain⟨hA,c',aS,fr,r1,r2,r3,r4,r5,r6⟩:=hp.st.row hX hg;rw[hb.fS,fG u0];have VY:=lC.length;have Cc:Nat.add o (Nat.mul len i.size)=o+len*i.size:=rfl;rw[Cc] at h8 h9;have iK:=sB (P:=P) r1 r4 (o+len*i.size) fO (by simp;omega) (lC.jE OQ);have hr:=ia (ty:=ty) (w':=w.setRow (ρ b).1 ⟨(c'++aS).take (o+len*i.size)++fO++(c'++aS).drop (o+len*i.size+fO.length)⟩) h0 h1 ht KB Jb hi (hx w rfl).1 (hx w rfl).2 (len:=len) (cap:=cap) (base:=some ⟨(ρ b).1,o,none⟩) wX (λh=>by cases h) (λa h=>by
      have:=ke h;subst this;rw[add_lit];exact iK)
     refine⟨_,_,ρ,hr,?_,?_⟩
     .have:=VR.slice (A:=dv A s1.next ((s1.aY b).put b (some (.cells cs e wd))).next) (ρ:=ρ) (b:=b) (o:=o) (l:=len+n) (c:=cap) (.inl hA);rw[fG u0] at this;exact this
     .refine Good.bk (o:=.cells c e wd) (o':=.cells cs e wd) hp.st hp.eg hX hg (λc=>by simp) ay (jl _ b _) (setRow_heap w _ _ _ _ _ r1) ?_ (Fr.setRow w _ _);have uV:cs.length=c.length:=by rw[h9];simp;omega
      refine⟨c'.take (o+len*i.size)++fO++c'.drop (o+len*i.size+fO.length),aS,fr,?_,?_,?_,?_⟩
      .rw[CB c' aS fO _ ag]
      .rw[h9,VY];exact((r2.take _).append lC).append (r2.drop _)
      .rw[uV];exact r5
      .rw[uV];exact r6
   |false=>
    rw[hr,eL] at h3;have wX:¬len+n<=cap:=λh=>by
     have:Nat.ble (Nat.add len n) cap=true:=gp h;rw[this] at hr;cases hr
    obtain⟨old,hold,h4⟩:=aD h3;have:=aH h4;simp only[cH] at this;obtain⟨rfl,rfl⟩:=this;rw[qp] at hold;obtain⟨h5,h6⟩:=kQ hold;have hmul:Nat.mul len i.size=len*i.size:=rfl;rw[hmul] at h5 h6;rw[eW] at h5;refine⟨(aG.aY s1 b).trans (aG.jL _ _),λX A ρ w b' x' fO ts ty hp hb lC h0 h1 hx=>?_⟩;have hX:X b:=hp.cU b ((aG.jL _ _).cU b (gi s1 b));obtain⟨hA,c',aS,fr,r1,r2,r3,r4,r5,r6⟩:=hp.st.row hX hg;rw[hb.fS,fG u0];have agT:(Builtin.firstCells i.size len (.slice (some ⟨(ρ b).1,o,none⟩) len cap)).run P w.drew= .ok ⟨(c'.drop o).take (len*i.size)⟩ w.drew:=by
     unfold Builtin.firstCells;rcases wD (len*i.size) with vO|vO
     .simp only[vO,loadCells,loadCellsFrom,List.take_zero];rfl
     .rw[jk P (w:=w.drew) r1 o (len*i.size) (by simp;omega)]
      congr 1
      apply wF;simp only[];rw[Sz ag,B8 (by simp;omega)]
    have hr:=n3 (ty:=ty) h0 h1 ht KB Jb hi hz (hx w rfl).1 (hx w.drew rfl).2 (len:=len) (cap:=cap) (base:=some ⟨(ρ b).1,o,none⟩) agT wX cX hby;have Lh:LR A ρ (old++new) ((c'.drop o).take (len*i.size)++fO):=by rw[h6];exact((r2.drop o).take _).append lC
    have Li:(old++new).length=(len+n)*i.size:=by
     rw[bL,nB,h6,cW,eW,As h5,mM]
    have pY:pq P X A ρ (s1.aY b) ((s1.aY b).new (.cells (old++new) elem true)) w:=hp.Jc ay ay (λ_ h=>h);have:=Dk (cap:=cap) (m:=Builtin.append_ ts ty #[.slice (some ⟨(ρ b).1,o,none⟩) len cap,x']) pY Lh hi hzs jd (len:=len+n) Li cX (hr.trans (by rw[ad1]));have pr:bX (s1.aY b) (Nat.add len n)=bX (s1.aY b) (len+n):=rfl;rw[pr];exact this.Jc ay ay
 .cases h
theorem OR (hE:c8 E P){ts:List TypeId}(h:vH E s ts x y=some (v,s')):aG s s'/\∀X A ρ w x' y' ty,pq P X A ρ s s' w->VR A ρ x x'->VR A ρ y y'->cK P X A ρ s s' w v (Builtin.append_ ⟨ts⟩ ty #[x',y']):=by
 obtain⟨t,elem,ht,hd,h1⟩:=pX h;obtain⟨xt,KB,h2⟩:=aD h1;obtain⟨xd,Jb,h3⟩:=aD h2;obtain⟨Vl,h4⟩:=bz h3;obtain⟨i,hi,h5⟩:=aD h4;obtain⟨z,hz,h6⟩:=aD h5;obtain⟨hc,h7⟩:=bz h6;obtain⟨n,new,s1,h8,e1,e2,e3,Cb,anF,ad3⟩:=Q7 (P:=P) h7;obtain⟨nB,h9⟩:=bz h8;obtain⟨OQ,FM⟩:=bz h9;clear h h1 h2 h3 h4 h5 h6 h7 h8 h9;rw[dR] at ht KB;simp only[bO,nG,B7,dm,hU] at hc;obtain⟨⟨vN,qY⟩,Ja⟩:=hc;have nB:new.length=n*i.size:=by simpa using nB
 have OQ:=(mA new).1 OQ;split at FM
 .rename_i base len cap;obtain⟨cX,Z8⟩:=bz FM;have cX:len+n<=1000000:=mT cX;have hI:=hE.ty _ _ hi;obtain⟨Cw,hk⟩:=Lf hE Z8 hI hz (by simpa using Ja) vN qY nB OQ cX (dY hE hd) (dY hE Jb) (by simpa using Vl);refine⟨Cb.trans Cw,λX A ρ w x' y' ty hp hx hy=>?_⟩;obtain⟨fO,AD,h13,h14⟩:=ad3 X A ρ w y' (λb hb=>hp.cU b (Cw.cU b hb)) hp.st hy;refine(hk X A ρ w x' y' fO ⟨ts⟩ ty (hp.Jc e1 e2 λ_ h=>h) hx AD (by simpa using ht) (by simpa using KB) λw2 SS=>?_).Jc e1 e2;obtain⟨h15,Jd⟩:=h14 w2 SS;refine⟨h15,?_⟩;rw[Jd n (cG _),qW (by rw[AD.length,nB];exact cG _)]
 .cases FM
theorem VZ (hE:c8 E P){ts:List TypeId}(h:copyV E s ts x y=some (v,s')):aG s s'/\∀X A ρ w x' y' ty,pq P X A ρ s s' w->VR A ρ x x'->VR A ρ y y'->cK P X A ρ s s' w v (Builtin.copy_ ⟨ts⟩ ty #[x',y']):=by
 unfold copyV at h;split at h
 .rename_i b o n cap;obtain⟨t,e,ht,hd,h1⟩:=pX h;obtain⟨sz,jd,h2⟩:=aD h1;obtain⟨k,new,s1,h3,e1,e2,e3,Cb,nB,ad3⟩:=Q7 (P:=P) h2;unfold Av at h3;obtain⟨OQ,h4⟩:=bz h3;obtain⟨ad4,G9,h5⟩:=aD h4;obtain⟨c,ee,wd,hg,h6⟩:=ml h5;obtain⟨cs,pj,h7⟩:=aD h6;have:=aH h7;simp only[cH] at this;obtain⟨rfl,rfl⟩:=this;clear h h1 h2 h3 h4 h5 h6 h7;rw[dR] at ht;have OQ:=(mA new).1 OQ;obtain⟨h8,h9⟩:=kQ G9;have SM:Da k n=Nat.min k n:=by
   unfold Da;rw[dW];simp only[nG];show _=min k n;rw[Nat.min_def]
  rw[SM] at h8 h9⊢;have mE:Nat.min k n<=k:=Nat.min_le_left k n;have hmul:Nat.mul (Nat.min k n) sz=Nat.min k n*sz:=rfl;rw[hmul] at h8 h9;obtain⟨FM,Z8⟩:=nW _ _ pj;have Z7:aG s1 ((s1.aY b).put b (some (.cells cs ee wd))):=(aG.aY s1 b).trans (aG.put _ b _ (by rw[iE,hg];simp));refine⟨Cb.trans Z7,λX A ρ w x' y' ty hp hx hy=>?_⟩;have hX:X b:=hp.cU b (fq _ b _);have Om:pq P X A ρ s1 ((s1.aY b).put b (some (.cells cs ee wd))) w:=hp.Jc e1 e2 λ_ h=>h
  obtain⟨hA,c',aS,fr,r1,r2,r3,r4,r5,r6⟩:=Om.st.row hX hg;obtain⟨fO,AD,h13,h14⟩:=ad3 X A ρ w y' (λj hj=>hp.cU j (Z7.cU j hj)) hp.st hy;obtain⟨h15,Jd⟩:=h14 w rfl;rw[hx.fS];have ad5:LR A ρ ad4 (fO.take (Nat.min k n*sz)):=by rw[h9];exact AD.take _
  have uo:=ad5.length;have iK:=sB (P:=P) r1 r4 o (fO.take (Nat.min k n*sz)) (by rw[uo,bL];omega) (ad5.jE λu hu=>by rw[h9] at hu;exact OQ u (KP hu));have hf:=Jd _ mE;have hu:=dY hE hd;have nZ:(Builtin.copy_ ⟨ts⟩ ty #[.slice (some ⟨(ρ b).1,o,none⟩) n (dq (ρ b) cap),y']).run P w= .ok (.int .i64 (.ofNat (Nat.min k n))) (w.setRow (ρ b).1 ⟨(c'++aS).take o++fO.take (Nat.min k n*sz)++(c'++aS).drop (o+(fO.take (Nat.min k n*sz)).length)⟩):=by
   unfold Builtin.copy_;(have ht':(⟨ts⟩:Array TypeId)[0]?=some t:=by simpa using ht);simp only[ht',KN,aac,aad,Sem.run_bind,run_underlying hu,Result.andThen_ok,h15,run_sizeOf hE jd,hf,iK];rfl
  refine cK.Jc e1 e2 ⟨_,_,ρ,nZ,VR.int _ _,?_⟩;refine Good.bk (o:=.cells c ee wd) (o':=.cells cs ee wd) Om.st Om.eg hX hg (λc=>by simp) ay (jl _ b _) (setRow_heap w _ _ _ _ _ r1) ?_ (Fr.setRow w _ _);have uV:cs.length=c.length:=by rw[Z8];simp;omega
  refine⟨c'.take o++fO.take (Nat.min k n*sz)++c'.drop (o+(fO.take (Nat.min k n*sz)).length),aS,fr,?_,?_,?_,?_⟩
  .rw[CB c' aS _ _ ag]
  .rw[Z8,uo];exact((r2.take _).append ad5).append (r2.drop _)
  .rw[uV];exact r5
  .rw[uV];exact r6
 .cases h
theorem Ha {zs:a6}(h:∀y∈zs,flat y=true):∀(n:Nat),∀y∈lY zs n,flat y=true
 |0,_,hy=>by cases hy
 |n+1,y,hy=>by
  rw[vM] at hy;exact(eZ.1 hy).elim (h y) (Ha h n y)
theorem SU (hE:c8 E P){ts:List TypeId}(h:Aw E s ts x=some (v,s')):aG s s'/\∀X A ρ w x' ty,pq P X A ρ s s' w->VR A ρ x x'->cK P X A ρ s s' w v (Builtin.clear_ ⟨ts⟩ ty #[x']):=by
 unfold Aw at h;split at h
 .rename_i n c;obtain⟨t,e,ht,hd,h1⟩:=pX h;have:=aH h1;simp only[cH] at this;obtain⟨rfl,rfl⟩:=this;rw[dR] at ht;have hu:=dY hE hd;refine⟨aG.refl _,λX A ρ w x' ty hp hx=>cK.pure hp (v':=.tuple #[]) ?_ (VR.ground ay)⟩;rw[hx.jm];simp[Builtin.clear_,ht,run_underlying hu]
 .rename_i b o q n c;obtain⟨t,e,ht,hd,h1⟩:=pX h;rw[dR] at ht;have hu:=dY hE hd;cases hn:Nat.beq n 0 with
  |true=>
   rw[show Nat.beq n (nat_lit 0)=true from hn,gC] at h1;(have yw:n=0:=by simpa using hn);subst yw;have:=aH h1;simp only[cH] at this;obtain⟨rfl,rfl⟩:=this;refine⟨aG.refl _,λX A ρ w x' ty hp hx=>cK.pure hp (v':=.tuple #[]) ?_ (VR.ground ay)⟩;obtain⟨a',rfl⟩:=hx.tq;simp[Builtin.clear_,ht,run_underlying hu]
  |false=>
   rw[show Nat.beq n (nat_lit 0)=false from hn,eL] at h1;obtain⟨hq,h2⟩:=bz h1;have:=Q5 hq;subst this;obtain⟨cs0,e',wd,hg,h3⟩:=ml h2;obtain⟨sz,jd,h4⟩:=aD h3;obtain⟨z,hz,h5⟩:=aD h4;obtain⟨hc,h6⟩:=bz h5;obtain⟨cs,pj,h7⟩:=aD h6;have:=aH h7;simp only[cH] at this;obtain⟨rfl,rfl⟩:=this;simp only[bO,nG,B7,dm,hU] at hc;obtain⟨⟨vN,qY⟩,Ja⟩:=hc;rw[hU] at pj;refine⟨(aG.aY s b).trans (aG.put _ b _ (by rw[iE,hg];simp)),λX A ρ w x' ty hp hx=>?_⟩;have hX:X b:=hp.cU b (fq _ b _);obtain⟨hA,c',aS,fr,r2,r3,r4,r5,r6,r7⟩:=hp.st.row hX hg;obtain⟨h8,h9⟩:=nW _ _ pj;(have V0:(lY z.cells.toList n).length=n*sz:=by rw[<-vN];exact Bz _ _);have hrf:∀y∈lY z.cells.toList n,flat y=true:=Ha ((mA _).1 Ja) n;have SV:LR A ρ (lY z.cells.toList n) (lY z.cells.toList n):=u5 (λeK=>by rw[<-xA,mD hE hz]) n;have uV:c'.length=cs0.length:=r3.length;have yw:n≠0:=by rintro rfl;cases hn
   rw[hx.fS];have nZ:(Builtin.clear_ ⟨ts⟩ ty #[.slice (some ⟨(ρ b).1,o,none⟩) n (dq (ρ b) c)]).run P w= .ok (.tuple #[]) (w.setRow (ρ b).1 ⟨(c'++aS).take o++lY z.cells.toList n++(c'++aS).drop (o+(lY z.cells.toList n).length)⟩):=by
    have FM:=sB (P:=P) (g:=(ρ b).1) (cs:=c'++aS) (e:=e') (fr:=fr) (w:=w) r2 (by simpa using r5) o (lY z.cells.toList n) (by rw[bL];omega) hrf;have hm:=yX z n sz (by simpa using vN) qY;have hzc:Builtin.zeroCells z.cells n=⟨lY z.cells.toList n⟩:=by
     unfold Builtin.zeroCells;rw[show z.cells.size=sz by simpa using vN];rw[show z.cells.size=sz by simpa using vN] at hm;exact hm
    unfold Builtin.clear_;simp only[KN,ht,Sem.run_bind,run_underlying hu,Result.andThen_ok];simp only[KN,aac,Sem.run_bind,run_underlying hu,Result.andThen_ok];rw[kg hE hz];simp only[Result.andThen_ok,hzc];rw[show(storeCells ⟨(ρ b).1,o,none⟩ (⟨lY z.cells.toList n⟩:Array Value).toList).run P w=_ from FM];rfl
   refine⟨_,_,ρ,nZ,VR.ground ay,?_⟩;refine Good.bk (o:=.cells cs0 e' wd) (o':=.cells cs e' wd) hp.st hp.eg hX hg (λc=>by simp) ay (jl _ b _) (setRow_heap w _ _ _ _ _ r2) ?_ (Fr.setRow w _ _);(have hle:cs.length=cs0.length:=by rw[h9];simp;omega);refine⟨c'.take o++lY z.cells.toList n++c'.drop (o+(lY z.cells.toList n).length),aS,fr,by rw[CB c' aS _ o ag],?_,?_,?_⟩
   .rw[h9];exact((r3.take o).append SV).append (r3.drop _)
   .rw[hle];exact r6
   .rw[hle];exact r7
 .cases h
theorem F6 (h:xv x s=some (v,s')):aG s s'/\∀X A ρ w x' ts ty,pq P X A ρ s s' w->VR A ρ x x'->cK P X A ρ s s' w v (Builtin.unsafeSliceData_ ts ty #[x']):=by
 unfold xv at h;split at h
 .rename_i b n cap;obtain⟨hc,h1⟩:=bz h;obtain⟨c,e,wd,hg,h2⟩:=ml h1;obtain⟨hw,h3⟩:=bz h2;have:=aH h3;simp only[cH] at this;obtain⟨rfl,rfl⟩:=this;have hc:cap=ew:=by simpa using hc
  subst hc;simp only[bO,nG,dm] at hw;obtain⟨rfl,hl⟩:=hw;refine⟨aG.aY s b,λX A ρ w x' ts ty hp hx=>?_⟩;obtain⟨hA,c',aS,fr,r1,r2,r3,r4,r5,r6⟩:=hp.st.row (hp.cU b (gi s b)) hg;obtain⟨r7,r8,r9,r10⟩:=r5 rfl;rw[hx.fS];refine cK.same hp ay ay (Lib.run_unsafeSliceData_row w ts ty _ n _ ?_) (VR.ptr hA);simp only[dq,cG,if_true,B9,Nat.sub_zero];rintro h0;rw[h0] at r8;omega
 .cases h
theorem OS (v:Value)(l:a6):Bw (v::l)=match v with
  |.int .u8 (.ofNat k)=>dZ (Nat.ble (Nat.succ k) 256)<| ob (Bw l) λr=>some (UInt8.ofNat k::r)
  |_=>none:=rfl
theorem Dl:∀(l:a6){bs:List UInt8},Bw l=some bs->l=strCells bs
 |[],bs,h=>by have:=ke h;subst this;rfl
 |v::l,bs,h=>by
  rw[OS] at h;split at h
  .rename_i k;obtain⟨h1,h2⟩:=bz h;obtain⟨r,h3,h4⟩:=aD h2;have:=ke h4;subst this;have hk:k<256:=by simpa[SB] using h1
   have ih:=Dl l h3;rw[strCells_eq,wO,ih,strCells_eq]
   congr 2
   (have:(UInt8.ofNat k).toNat=k:=by simp[UInt8.toNat_ofNat,IW hk]);rw[this];rfl
  .cases h
theorem Fr.freeze (w:World)(g n:Nat):Fr w (w.freeze ⟨g,0,none⟩ n) λr=>r=g:=by
 unfold World.freeze;split
 .exact Fr.refl w _
 .refine⟨rfl,rfl,rfl,ay,λr hr fY=>?_⟩;simp only[OD];rw[if_neg (λe=>fY e.symm)]
theorem AE (hE:c8 E P){ts:List TypeId}(h:rO E ts x y s=some (v,s')):aG s s'/\∀X A ρ w x' y' ty,pq P X A ρ s s' w->VR A ρ x x'->VR A ρ y y'->cK P X A ρ s s' w v (Builtin.unsafeString_ ⟨ts⟩ ty #[x',y']):=by
 unfold rO at h;split at h
 .rename_i pt it b n;obtain⟨c,e,wd,hg,h1⟩:=ml h;obtain⟨d,hd,h2⟩:=aD h1;split at h2
  .rename_i e';obtain⟨sz,jd,h3⟩:=aD h2;obtain⟨hc,h4⟩:=bz h3;obtain⟨l,hl,h5⟩:=aD h4;obtain⟨bs,hbs,h6⟩:=aD h5;have:=aH h6;simp only[cH] at this;obtain⟨rfl,rfl⟩:=this;simp only[bO,nG,B7] at hc;obtain⟨⟨⟨he,tz⟩,Q9⟩,G9⟩:=hc;subst he tz;have hu:=dY hE hd;refine⟨(aG.aY s b).trans (aG.put _ b _ (by rw[iE,hg];simp)),λX A ρ w x' y' ty hp hx hy=>?_⟩;have hX:X b:=hp.cU b (fq _ b _);obtain⟨hA,c',aS,fr,r1,r2,r3,r4,r5,r6⟩:=hp.st.row hX hg;rw[hx.nM,hy.mB];obtain⟨h7,h8⟩:=kQ hl;have h9:=Dl _ hbs;have cX:bs.length=n:=by
    have:=ep List.length h9;rw[h8,strCells_eq,td,cW] at this;omega
   (have Lh:LR A ρ (strCells bs) (c'.take n):=by rw[<-h9,h8];exact r2.take n);have ux:c'.take n=strCells bs:=by rw[<-Lh.self,j3]
   have nZ:=Lib.run_unsafeString_row (P:=P) w pt it ty e hu (by rw[nX hE jd]) (ρ b).1 (c'++aS).length (by simp[World.shape?,r1]) bs (by rintro rfl;simp at cX;omega) (by rw[bL];omega) ag (λj u hu=>by
    rw[add_lit,mU,vK r1];(have hj:j<n:=by rw[<-cX];exact(te.1 hu).1);rw[wE ag];have:(c'.take n)[j]?=some (.int .u8 (u.toNat:Int)):=by rw[ux,strCells_eq];simp[hu]
    rw[IV,if_pos hj] at this;exact this)
   rw[cX] at nZ;refine⟨_,_,ρ,nZ,VR.str _,?_⟩;exact Good.drop (o:=.cells c e wd) hp.st hp.eg (λc=>by simp) ay (jl _ b _) hX hg (Fr.freeze w _ n)
  .cases h2
 .cases h
theorem Lj (bs:List UInt8):∀(cU:List UInt8),(bs.map λb=>(b.toNat:Int)).foldl (λ(r:ByteArray) n=>r.push (UInt8.ofNat n.toNat)) ⟨⟨cU⟩⟩=⟨⟨cU++bs⟩⟩:=by
 induction bs with
 |nil=>intro cU;simp
 |cons b bs ih=>
  intro cU;rw[wO,wH];have:(⟨⟨cU⟩⟩:ByteArray).push (UInt8.ofNat ((b.toNat:Int)).toNat)=⟨⟨cU++[b]⟩⟩:=by
   apply ByteArray.ext;simp[ByteArray.push]
  rw[this,ih];simp
theorem V1 (hE:c8 E P){src dst:TypeId}(h:wU E s src dst x=some (v,s')):aG s s'/\∀X A ρ w x',pq P X A ρ s s' w->VR A ρ x x'->cK P X A ρ s s' w v (convert src dst x'):=by
 obtain⟨ds,hs,h1⟩:=aD h;obtain⟨dd,hd,h2⟩:=aD h1;clear h h1;have SX:=dY hE hs;have hud:=dY hE hd;split at h2
 .rename_i k0 k k1 n;have:=aH h2;simp only[cH] at this;obtain⟨rfl,rfl⟩:=this;refine⟨aG.refl _,λX A ρ w x' hp hx=>cK.pure hp (v':=.int k (qm k n)) ?_ (VR.int _ _)⟩;rw[hx.mB,j2];unfold convert;simp only[Sem.run_bind,run_underlying SX,run_underlying hud,Result.andThen_ok];rfl
 .rename_i e a n c;obtain⟨d,Je,h3⟩:=aD h2;obtain⟨hb,h4⟩:=bz h3;have hue:=dY hE Je;have hd8:d= .int .u8:=by
   unfold isByte at hb;split at hb
   .rfl
   .cases hb
  subst hd8;have V2:∀w x',(∀s,x'≠ .string s)->(∀k n,x'≠ .int k n)->(convert src dst x').run P w=(Conv.bytesToString x').run P w:=by
   intro w x' q1 q2;unfold convert;simp only[Sem.run_bind,run_underlying SX,run_underlying hud,Result.andThen_ok];rw[run_underlying hue];rfl
  unfold OE at h4;split at h4
  .have:=aH h4;simp only[cH] at this;obtain⟨rfl,rfl⟩:=this;refine⟨aG.refl _,λX A ρ w x' hp hx=>cK.pure hp (v':=.string ⟨⟨[]⟩⟩) ?_ (VR.str _)⟩;rw[hx.jm,V2 w _ ay ay];rfl
  .rename_i b o;obtain⟨cs,e2,wd,hg,h5⟩:=ml h4;obtain⟨l,hl,h6⟩:=aD h5;obtain⟨bs,hbs,h7⟩:=aD h6;have:=aH h7;simp only[cH] at this;obtain⟨rfl,rfl⟩:=this;refine⟨aG.aY s b,λX A ρ w x' hp hx=>?_⟩;obtain⟨hA,c',aS,fr,r1,r2,r3,r4,r5,r6⟩:=hp.st.row (hp.cU b (gi s b)) hg;rw[hx.fS];rw[qp] at hl;obtain⟨h8,h9⟩:=kQ hl;rw[eW] at h8;have FM:=Dl _ hbs;have Lh:LR A ρ (strCells bs) ((c'.drop o).take n):=by rw[<-FM,h9];exact(r2.drop o).take n
   have ux:(c'.drop o).take n=strCells bs:=by rw[<-Lh.self,j3]
   refine cK.same hp ay ay (v':=.string ⟨⟨bs⟩⟩) ?_ (VR.str _);rw[V2 w _ ay ay];have agU:(loadCells ⟨(ρ b).1,o,none⟩ n).run P w= .ok ((bs.map λb=>(b.toNat:Int)).map (Value.int .u8)).toArray w:=by
    rcases wD n with h0|h0
    .subst h0;have:bs=[]:=by
      have:=ep List.length ux;simp[strCells_eq] at this;exact mO this.symm
     subst this;rfl
    .rw[jk P r1 o n (by simp;omega)];rw[Sz ag,B8 (by simp;omega),ux,strCells_eq,List.map_map];rfl
   rw[run_bytesToString w _ n _ _ agU];have:=Lj bs [];rw[pn] at this;rw[<-this];rfl
  .rename_i b o q;obtain⟨h5,h6⟩:=bz h4;have hn:n=0:=nR h5;subst hn;have:=aH h6;simp only[cH] at this;obtain⟨rfl,rfl⟩:=this;refine⟨aG.refl _,λX A ρ w x' hp hx=>cK.pure hp (v':=.string ⟨⟨[]⟩⟩) ?_ (VR.str _)⟩;obtain⟨a',sd⟩:=hx.tq;rw[sd,V2 w _ ay ay,run_bytesToString w _ 0 _ [] rfl];rfl
 .rename_i t b;obtain⟨c,e,wd,hg,h3⟩:=ml h2;obtain⟨sz,jd,h4⟩:=aD h3;obtain⟨hc,h5⟩:=bz h4;have:=aH h5;simp only[cH] at this;obtain⟨rfl,rfl⟩:=this;simp only[bO,nG,dm,qi] at hc;obtain⟨⟨rfl,hl⟩,tz⟩:=hc;refine⟨aG.aY s b,λX A ρ w x' hp hx=>?_⟩;obtain⟨hA,c',aS,fr,r1,r2,r3,r4,r5,r6⟩:=hp.st.row (hp.cU b (gi s b)) hg;obtain⟨i,KC,tA⟩:=Cx hE jd;rw[hx.nM];refine cK.same hp ay ay (Lib.run_to_unsafe w ⟨(ρ b).1,0,none⟩ SX hud KC ag (e:=e) (cells:=(c'++aS).length) (by simp[World.shape?,r1]) (by simp;omega)) (VR.ptr hA)
 .rename_i u b;obtain⟨c,e,wd,hg,h3⟩:=ml h2;obtain⟨sz,jd,h4⟩:=aD h3;obtain⟨hc,h5⟩:=bz h4;have:=aH h5;simp only[cH] at this;obtain⟨rfl,rfl⟩:=this;simp only[bO,B7,dm,qi] at hc;obtain⟨⟨⟨rfl,hl⟩,he⟩,hu⟩:=hc;subst he hu;refine⟨aG.aY s b,λX A ρ w x' hp hx=>?_⟩;obtain⟨hA,c',aS,fr,r1,r2,r3,r4,r5,r6⟩:=hp.st.row (hp.cU b (gi s b)) hg;obtain⟨i,KC,tA⟩:=Cx hE jd;rcases(r6 rfl).1 with⟨h7,_⟩|⟨h7,_⟩
  .subst h7;rw[hx.nM];refine cK.same hp ay ay (Lib.run_from_unsafe w ⟨(ρ b).1,0,none⟩ SX hud KC (e:=E.VI) (cells:=2) (by simp[World.shape?,r1,r3,hl]) hE.VI) (VR.ptr hA)
  .exact absurd h7 hE.agP
 .rename_i e z;obtain⟨d,Je,h3⟩:=aD h2;obtain⟨hb,h4⟩:=bz h3;obtain⟨sz,jd,h5⟩:=aD h4;obtain⟨hc,h6⟩:=bz h5;have:=aH h6;simp only[cH] at this;obtain⟨rfl,rfl⟩:=this;simp only[bO,B7,nG,dm] at hc;obtain⟨rfl,hlz⟩:=hc;have hue:=dY hE Je;have hd8:d= .int .u8:=by
   unfold isByte at hb;split at hb
   .rfl
   .cases hb
  subst hd8;refine⟨aG.jL s _,λX A ρ w x' hp hx=>?_⟩;rw[hx.uU];have acE:(⟨⟨z⟩⟩:ByteArray).size=z.length:=rfl;have hge:=grownCap_ge w z.length 0 e;have nZ:(convert src dst (.string ⟨⟨z⟩⟩)).run P w= .ok (.slice (some ⟨w.heap.size,0,none⟩) z.length (grownCap w z.length 0 e)) ((w.drew.alloc (.cells ⟨strCells z++List.replicate (grownCap w z.length 0 e-z.length) (.int .u8 0)⟩ e)).freeze ⟨w.heap.size,grownCap w z.length 0 e,none⟩ 1):=by
   unfold convert;simp only[Sem.run_bind,run_underlying SX,run_underlying hud,Result.andThen_ok,run_underlying hue];have dS:(choose (.appendCap z.length 0 e)).run P w= .ok (grownCap w z.length 0 e) w.drew:=rfl;unfold Conv.stringToBytes;rw[acE];simp only[Sem.run_bind,dS,Result.andThen_ok,qt];have F7:((⟨⟨z⟩⟩:ByteArray).data.map λb=>Value.int .u8 (b.toNat:Int))++Array.replicate (grownCap w z.length 0 e-z.length) (Value.int .u8 0)=⟨strCells z++List.replicate (grownCap w z.length 0 e-z.length) (.int .u8 0)⟩:=by
    apply wF;simp[strCells_eq]
   rw[F7];have Cz:((w.drew.alloc (.cells ⟨strCells z++List.replicate (grownCap w z.length 0 e-z.length) (.int .u8 0)⟩ e)).shape? w.heap.size)=some (e,grownCap w z.length 0 e):=by
    unfold World.shape?;rw[show w.heap.size=w.drew.heap.size from rfl,heap_alloc_new];simp only[sg,cH,KK];show(strCells z++List.replicate (grownCap w z.length 0 e-z.length) (Value.int .u8 0)).length=_;rw[bL,qX,strCells_eq,td];omega
   unfold markStringish;have e1:w.drew.heap.size=w.heap.size:=rfl;simp only[Sem.run_bind,shape,freeze,Sem.run,e1,Cz,Result.andThen_ok,Sem.run_pure]
  refine⟨_,_,ρ.at s.next (w.heap.size,grownCap w z.length 0 e),nZ,?_,?_⟩
  .have:=VR.slice (A:=dv A s.next (s.new (.cells (strCells z) e false)).next) (ρ:=ρ.at s.next (w.heap.size,grownCap w z.length 0 e)) (b:=s.next) (o:=0) (l:=z.length) (c:=ew) (.inr ⟨cG _,ay⟩);simpa[dq,bX] using this
  .refine Good.alloc (o:=.cells (strCells z) e false) (x:=.cells ⟨strCells z++List.replicate (grownCap w z.length 0 e-z.length) (.int .u8 0)⟩ e (grownCap w z.length 0 e,grownCap w z.length 0 e+1)) hp.st hp.eg hp.lt (λc=>by simp) ay (kh s _) (cG _) ?_ ?_ ?_
   .unfold World.freeze;rw[if_neg bJ];simp only[OD];rw[if_pos trivial,show w.heap.size=w.drew.heap.size from rfl,heap_alloc_new];rfl
   .refine⟨strCells z,_,_,rfl,λeK _=>j3 z eK,(λh=>by cases h),λ_=>⟨.inr ⟨hue,nX hE jd,?_⟩,by rw[strCells_eq,td];exact hge⟩⟩
    .rw[strCells_eq,td,qX];simp;omega
   .refine⟨rfl,rfl,rfl,?_,λr hr _=>?_⟩
    .unfold World.freeze;rw[if_neg bJ];simp
    .unfold World.freeze;rw[if_neg bJ];simp only[OD];rw[if_neg ag];exact(Fr.G4 w _).block r hr (λh=>h)
 .rename_i e0 e b o n c;obtain⟨d,Je,h3⟩:=aD h2;obtain⟨hb,h4⟩:=bz h3;obtain⟨cs,e',wd,hg,h5⟩:=ml h4;obtain⟨sz,jd,h6⟩:=aD h5;obtain⟨d',akF,h7⟩:=aD h6;obtain⟨hc,h8⟩:=bz h7;have:=aH h8;simp only[cH] at this;obtain⟨rfl,rfl⟩:=this;simp only[bO,B7] at hb hc;obtain⟨hb,rfl⟩:=hb;obtain⟨lD,rfl⟩:=hc;have he0:e0=e:=by rw[hs] at hd;cases hd;rfl
  subst he0;have h8:∀{d:TypeDesc},isByte d=true->d= .int .u8:=λhb=>by
   unfold isByte at hb;split at hb
   .rfl
   .cases hb
  have hd8:=h8 hb;subst hd8;have akG:=h8 lD;subst akG;have hue:=dY hE Je;have akH:=dY hE akF;refine⟨(aG.aY s b).trans (aG.put _ b _ (by rw[iE,hg];simp)),λX A ρ w x' hp hx=>?_⟩;have hX:X b:=hp.cU b (fq _ b _);obtain⟨hA,c',aS,fr,r1,r2,r3,r4,r5,r6⟩:=hp.st.row hX hg;rw[hx.fS];have qq:P.cellsOf e'=1:=nX hE jd;have cX:(⟨c'++aS⟩:Array Value).size=cs.length+aS.length:=by show(c'++aS).length=_;rw[bL,r3]
  have nZ:(convert src src (.slice (some ⟨(ρ b).1,o,none⟩) n (dq (ρ b) c))).run P w= .ok (.slice (some ⟨(ρ b).1,o,none⟩) n (dq (ρ b) c)) (w.freeze ⟨(ρ b).1,cs.length+aS.length,none⟩ 1):=by
   unfold convert;simp only[Sem.run_bind,run_underlying SX,run_underlying hud,Result.andThen_ok,run_underlying hue];have Cz:w.shape? (ρ b).1=some (e',cs.length+aS.length):=by
    unfold World.shape?;rw[r1];simp only[sg,cH,KK];exact cX
   (have heq:(src== src)=true:=by simp);rw[heq];simp only[run_underlying hue,Result.andThen_ok];unfold markStringish;simp only[Sem.run_bind,shape,freeze,Sem.run,Cz,Result.andThen_ok,Sem.run_pure]
  have hfz:∃fr2:Nat×Nat,(w.freeze ⟨(ρ b).1,cs.length+aS.length,none⟩ 1).heap[(ρ b).1]?=some (.cells ⟨c'++aS⟩ e' fr2)/\cs.length+aS.length<=fr2.1:=by
   unfold World.freeze;rw[if_neg bJ];simp only[OD];rw[if_pos trivial,r1];obtain⟨lo,hi⟩:=fr;refine⟨_,rfl,?_⟩;split
   .exact cG _
   .rename_i fY;rcases r4 with h|h
    .cases h;exact absurd fY ay
    .rw[bL,r3] at h;simp only;simp only at h;omega
  obtain⟨fr2,hf1,hf2⟩:=hfz;refine⟨_,_,ρ,nZ,?_,?_⟩
  .exact VR.slice (.inl hA)
  .refine Good.bk (o:=.cells cs e' wd) (o':=.cells cs e' false) hp.st hp.eg hX hg (λc=>by simp) ay (jl _ b _) hf1 ?_ ?_
   .exact⟨c',aS,fr2,rfl,r2,(λh=>by cases h),λ_=>⟨.inr ⟨akH,qq,hf2⟩,by
     cases wd with
     |false=>exact(r6 rfl).2
     |true=>
      have h8:=(r5 rfl).2.1;rw[qq,xr] at h8;omega⟩⟩
   .refine⟨rfl,rfl,rfl,?_,λr hr h2=>?_⟩
    .unfold World.freeze;rw[if_neg bJ];simp
    .unfold World.freeze;rw[if_neg bJ];simp only[OD];rw[if_neg (λh=>h2 h.symm)]
 .cases h2
theorem OT (t:TypeId):∀X A ρ w,pq P X A ρ s (s.new (.map [])) w->cK P X A ρ s (s.new (.map [])) w (.map (some s.next)) (Instr.makeMap t none):=by
 intro X A ρ w hp;refine⟨.map (some w.heap.size),w.alloc (.map #[] 0),ρ.at s.next (w.heap.size,0),rfl,?_,?_⟩
 .have:=VR.akw (A:=dv A s.next (s.new (.map [])).next) (ρ:=ρ.at s.next (w.heap.size,0)) (b:=s.next) (.inr ⟨cG _,ay⟩);simpa using this
 .refine Good.alloc (o:=.map []) (x:=.map #[] 0) hp.st hp.eg hp.lt (λc=>by simp) ay (kh s _) (cG _) (heap_alloc_new w _) ?_ (Fr.alloc w _);exact⟨[],0,rfl,LR.nil,LR.nil⟩
theorem VR.Hb {b:Nat}(h:VR A ρ (.map (some b)) v'):v'= .map (some (ρ b).1):=by rw[<-h.self,GZ]
theorem bytes_beq (a b:List UInt8):((⟨⟨a⟩⟩:ByteArray)== (⟨⟨b⟩⟩:ByteArray))=(a== b):=by have h:((⟨⟨a⟩⟩:ByteArray)== (⟨⟨b⟩⟩:ByteArray))=((⟨a⟩:Array UInt8)== (⟨b⟩:Array UInt8)):=rfl;rw[h,po];simp
theorem xE (k:Value)(p:Value×Value)(l:List (Value×Value)):ss k (p::l)=ob (kE k p.1) λb=>bo b (some (some p.2)) (ss k l):=rfl
theorem vP (k:Value)(p:Value×Value)(l:List (Value×Value)):SI k (p::l)=ob (kE k p.1) λb=>bo b (some l) (ob (SI k l) λr=>some (p::r)):=rfl
theorem Hc (k v:Value)(p:Value×Value)(l:List (Value×Value)):OF k v (p::l)=ob (kE k p.1) λb=>bo b (some ((k,v)::l)) (ob (OF k v l) λr=>some (p::r)):=rfl
theorem yY {k k':Value}{b:Bool}(h:kE k k'=some b)(ρ:iD):cw ρ k'=k':=by
 unfold kE at h;split at h
 .have:=(uX _ _ _ h).2 ρ;simp[this]
 .simp
 .simp
 .cases h
theorem Lk {x y:Value}(h:lS x y=some true):x=y:=by
 unfold lS at h;split at h
 .rw[jN] at h;simp at h;rw[h]
 .rw[eY] at h;simp at h;rw[h]
 .rename_i a b;cases a<;>cases b<;>first|rfl|cases h
 .cases h
theorem Jg (xs:a6):∀(ys:a6),fQ xs ys=some true->xs=ys:=by
 induction xs with
 |nil=>intro ys h;cases ys with
  |nil=>rfl
  |cons y ys=>cases h
 |cons x xs ih=>
  intro ys h;cases ys with
  |nil=>cases h
  |cons y ys=>
   rw[lB] at h;obtain⟨e,he,h1⟩:=aD h;obtain⟨r,h2,h3⟩:=aD h1;have h4:=ke h3;cases e with
   |false=>cases h4
   |true=>
    rw[gC] at h4;subst h4;rw[Lk he,ih _ h2]
theorem Dm {k k':Value}(h:kE k k'=some true):k'=k:=by
 unfold kE at h;split at h
 .rw[Jg _ _ h]
 .obtain⟨h1,h2⟩:=bz h;have:=vL h1;subst this;rw[jN] at h2;simp at h2;rw[h2]
 .rw[eY] at h;simp at h;rw[h]
 .cases h
theorem tC {kt:TypeId}{d:TypeDesc}{k:Value}(h:yN E kt d k=true):((∃j,d= .int j)/\(∃j n,k= .int j n))\/(d= .string/\∃z,k= .string ⟨⟨z⟩⟩)\/(((∃fs,d= .struct fs)\/∃n e,d= .array n e)/\∃cs,k= .agg ⟨cs⟩/\yM kt cs E.eqs=true):=by
 unfold yN at h;split at h
 .exact .inr (.inr ⟨.inl ⟨_,rfl⟩,_,rfl,h⟩)
 .exact .inr (.inr ⟨.inr ⟨_,_,rfl⟩,_,rfl,h⟩)
 .exact .inl ⟨⟨_,rfl⟩,_,_,rfl⟩
 .rename_i s;obtain⟨⟨z⟩⟩:=s;exact .inr (.inl ⟨rfl,z,rfl⟩)
 .cases h
theorem rp {kt:TypeId}{d:TypeDesc}{k:Value}(h:yN E kt d k=true):(∀ρ,cw ρ k=k):=by
 intro ρ;rcases tC h with⟨_,j,n,rfl⟩|⟨_,z,rfl⟩|⟨_,cs,rfl,hq⟩
 .simp
 .simp
 .simp[La hq ρ]
theorem SY {kt:TypeId}{k k':Value}{b:Bool}{d:TypeDesc}(h:kE k k'=some b)(hd:(∃j,d= .int j)/\(∃j n,k= .int j n)\/(d= .string/\∃z,k= .string ⟨⟨z⟩⟩)):Instr.sameNow d k k'=some b:=by
 rcases hd with⟨⟨j0,rfl⟩,j,n,rfl⟩|⟨rfl,z,rfl⟩
 .unfold kE at h;split at h
  .simp_all
  .rename_i j1 a j' a' e1;obtain⟨h1,h2⟩:=bz h;have:=vL h1;subst this;have:=ke h2;subst this;cases e1
   simp[Instr.sameNow,jN]
  .simp_all
  .cases h
 .unfold kE at h;split at h
  .simp_all
  .simp_all
  .rename_i a b' e1;have:=ke h;subst this;cases e1
   simp[Instr.sameNow,eY,bytes_beq]
  .cases h
def sC (A:Nat->Prop)(ρ:iD)(k:Value)(es:List (Value×Value))(xs:List MapEntry)(i:Nat)(r:Option Value)(r':Option (Nat×Value)):Prop:=match r with
 |none=>r'=none/\SI k es=some es
 |some v=>∃j v',r'=some (i+j,v')/\VR A ρ v v'/\(xs[j]?).map (·.key)=some k/\SI k es=some (es.eraseIdx j)/\∀u,OF k u es=some (es.set j (k,u))
theorem sC.step {k:Value}{p:Value×Value}{x:MapEntry}{es:List (Value×Value)}{xs:List MapEntry}{i:Nat}{r:Option Value}{r':Option (Nat×Value)}(hb:kE k p.1=some false)(h:sC A ρ k es xs (i+1) r r'):sC A ρ k (p::es) (x::xs) i r r':=by
 cases r with
 |none=>
  obtain⟨h1,h2⟩:=h;refine⟨h1,?_⟩;rw[vP,hb,h2];rfl
 |some v=>
  obtain⟨j,v',h1,h2,h3,h4,h5⟩:=h;refine⟨j+1,v',by rw[h1];congr 2;omega,h2,by simpa using h3,?_,λu=>?_⟩
  .rw[vP,hb,h4];rfl
  .rw[Hc,hb,h5];rfl
theorem sC.here {k:Value}{p:Value×Value}{x:MapEntry}{es:List (Value×Value)}{xs:List MapEntry}{i:Nat}{v':Value}(hb:kE k p.1=some true)(hx:x.key=k)(h:VR A ρ p.2 v'):sC A ρ k (p::es) (x::xs) i (some p.2) (some (i,v')):=by
 refine⟨0,v',rfl,h,by simp[hx],?_,λu=>?_⟩
 .rw[vP,hb];rfl
 .rw[Hc,hb];rfl
theorem LR.split {es:List (Value×Value)}{p:Value×Value}{xs:List MapEntry}(h1:LR A ρ ((p::es).map (·.1)) (xs.map (·.key)))(h2:LR A ρ ((p::es).map (·.2)) (xs.map (·.val))):∃x xs',xs=x::xs'/\VR A ρ p.1 x.key/\VR A ρ p.2 x.val/\LR A ρ (es.map (·.1)) (xs'.map (·.key))/\LR A ρ (es.map (·.2)) (xs'.map (·.val)):=by
 cases xs with
 |nil=>have:=h1.length;simp at this
 |cons x xs=>
  simp only[wO] at h1 h2;obtain⟨u,us,e1,hu,SX⟩:=h1.iQ;simp only[List.cons.injEq] at e1;obtain⟨rfl,rfl⟩:=e1;obtain⟨u2,us2,e2,V3,V4⟩:=h2.iQ;simp only[List.cons.injEq] at e2;obtain⟨rfl,rfl⟩:=e2;exact⟨x,xs,rfl,hu,V3,SX,V4⟩
theorem Dn {k:Value}{d:TypeDesc}(hd:(∃j,d= .int j)/\(∃j n,k= .int j n)\/(d= .string/\∃z,k= .string ⟨⟨z⟩⟩)):∀(es:List (Value×Value))(xs:List MapEntry)(i:Nat){r:Option Value},ss k es=some r->LR A ρ (es.map (·.1)) (xs.map (·.key))->LR A ρ (es.map (·.2)) (xs.map (·.val))->
  ∃r',Instr.findNow d k xs i=some r'/\sC A ρ k es xs i r r'
 |[],xs,i,r,h,h1,h2=>by
  have:=ke h;subst this;cases xs with
  |nil=>exact⟨none,rfl,rfl,rfl⟩
  |cons x xs=>have:=h1.length;simp at this
 |p::es,xs,i,r,h,h1,h2=>by
  refine' za7
  have hs:=SY (kt:=0) hb hd;unfold Instr.findNow;rw[hk,hs];cases b with
  |true=>
   rw[gC] at h3;have:=ke h3;subst this;exact⟨_,rfl,sC.here hb (by rw[hk,Dm hb]) V3⟩
  |false=>
   rw[eL] at h3;obtain⟨r',h4,h5⟩:=Dn hd es xs (i+1) h3 SX V4;exact⟨r',h4,sC.step hb h5⟩
theorem wY (hE:c8 E P){kt:TypeId}{cs:a6}(hq:yM kt cs E.eqs=true):∀(es:List (Value×Value))(xs:List MapEntry)(i:Nat){r:Option Value},ss (.agg ⟨cs⟩) es=some r->LR A ρ (es.map (·.1)) (xs.map (·.key))->LR A ρ (es.map (·.2)) (xs.map (·.val))->
  ∃r',(∀w,(Instr.findAsking kt (.agg ⟨cs⟩) xs i).run P w= .ok r' w)/\sC A ρ (.agg ⟨cs⟩) es xs i r r'
 |[],xs,i,r,h,h1,h2=>by
  have:=ke h;subst this;cases xs with
  |nil=>exact⟨none,λw=>rfl,rfl,rfl⟩
  |cons x xs=>have:=h1.length;simp at this
 |p::es,xs,i,r,h,h1,h2=>by
  refine' za7
  obtain⟨ys,hy⟩:∃ys,p.1= .agg ⟨ys⟩:=by
   revert hb
   cases p.1<;>intro hb<;>first|cases hb|(rename_i q;exact⟨q.toList,rfl⟩)
  have Z6:fQ cs ys=some b:=by rw[hy] at hb;exact hb
  have hs:∀w,(Op.equal kt (.agg ⟨cs⟩) x.key).run P w= .ok b w:=λw=>by rw[hk,hy];exact(hE.eqs kt cs hq ys b Z6 w).1
  cases b with
  |true=>
   rw[gC] at h3;have:=ke h3;subst this;refine⟨some (i,x.val),λw=>?_,sC.here hb (by rw[hk,Dm hb]) V3⟩;unfold Instr.findAsking;simp only[Sem.run_bind,hs,Result.andThen_ok,if_true,Sem.run_pure]
  |false=>
   rw[eL] at h3;obtain⟨r',h4,h5⟩:=wY hE hq es xs (i+1) h3 SX V4;refine⟨r',λw=>?_,sC.step hb h5⟩;unfold Instr.findAsking;simp only[Sem.run_bind,hs,Result.andThen_ok,jY,pB,h4]
theorem tD (hE:c8 E P){kt:TypeId}{d:TypeDesc}{k:Value}(hu:P.underlying kt=some d)(hk:yN E kt d k=true){es:List (Value×Value)}{xs:List MapEntry}{r:Option Value}(h:ss k es=some r)(h1:LR A ρ (es.map (·.1)) (xs.map (·.key)))(h2:LR A ρ (es.map (·.2)) (xs.map (·.val))):
  ∃r',(∀w,(Instr.findKey kt k xs).run P w= .ok r' w)/\sC A ρ k es xs 0 r r':=by
 have go:((∃j,d= .int j)/\(∃j n,k= .int j n)\/(d= .string/\∃z,k= .string ⟨⟨z⟩⟩))->∃r',(∀w,(Instr.findKey kt k xs).run P w= .ok r' w)/\sC A ρ k es xs 0 r r':=λhd=>by
  obtain⟨r',h3,h4⟩:=Dn hd es xs 0 h h1 h2;refine⟨r',λw=>?_,h4⟩;unfold Instr.findKey;simp only[Sem.run_bind,run_underlying hu,Result.andThen_ok,h3,Sem.run_pure]
 rcases tC hk with hd|hd|⟨hd,cs,rfl,hq⟩
 .exact go (.inl hd)
 .exact go (.inr hd)
 .obtain⟨r',h3,h4⟩:=wY hE hq es xs 0 h h1 h2;refine⟨r',λw=>?_,h4⟩;unfold Instr.findKey;simp only[Sem.run_bind,run_underlying hu,Result.andThen_ok];cases xs with
  |nil=>
   have:=h3 w;unfold Instr.findNow;simpa[Instr.findAsking] using this
  |cons x xs=>
   have:Instr.findNow d (.agg ⟨cs⟩) (x::xs) 0=none:=by
    unfold Instr.findNow;rcases hd with⟨fs,rfl⟩|⟨n,e,rfl⟩<;>rfl
   rw[this];exact h3 w
theorem run_checkKey (hE:c8 E P)(b:Bool){t:TypeId}{d:TypeDesc}{k:Value}(hu:P.underlying t=some d)(hk:yN E t d k=true)(w:World):(Instr.checkKey b 10000 t k).run P w= .ok () w:=by
 rcases tC hk with⟨⟨j0,rfl⟩,j,n,rfl⟩|⟨rfl,z,rfl⟩|⟨hd,cs,rfl,hq⟩
 .show(Instr.checkKey b (9999+1) t _).run P w=_;unfold Instr.checkKey;simp only[Sem.run_bind,run_underlying hu,Result.andThen_ok];rfl
 .show(Instr.checkKey b (9999+1) t _).run P w=_;unfold Instr.checkKey;simp only[Sem.run_bind,run_underlying hu,Result.andThen_ok];rfl
 .exact hE.keys t cs hq b w
theorem Dq:∀(xs:a6)(ks:List Nat),ff xs ks=true->∀n,(xs.zip xs).all (λ(x,y)=>Instr.sameBits n x y)=true
 |[],_,_,n=>rfl
 |v::xs,[],h,n=>by cases h
 |v::xs,k::ks,h,n=>by
  obtain⟨h1,h2,h3⟩:=mX h;have ih:=Dq xs ks h3 n;have hk:k=0\/k=1\/k=2:=by omega
  have:Instr.sameBits n v v=true:=by
   rcases hk with h|h|h
   .obtain⟨m,rfl⟩:=AA (h1.trans h);simp[Instr.sameBits]
   .obtain⟨m,rfl⟩:=AB (h1.trans h);simp[Instr.sameBits,bytes_beq]
   .obtain⟨m,rfl⟩:=xC (h1.trans h);simp[Instr.sameBits]
  simpa[this] using ih
theorem Jh {kt:TypeId}{d:TypeDesc}{k:Value}(hk:yN E kt d k=true)(w:World):(Instr.keyThatStays k k).run P w= .ok k w:=by
 have h:Instr.sameBits 10000 k k=true:=by
  rcases tC hk with⟨_,j,n,rfl⟩|⟨_,z,rfl⟩|⟨_,cs,rfl,hq⟩
  .simp[Instr.sameBits]
  .simp[Instr.sameBits,bytes_beq]
  .obtain⟨ks,_,h2⟩:=uZ kt cs _ hq;have:=Dq cs ks h2 9999;show Instr.sameBits (9999+1) (.agg ⟨cs⟩) (.agg ⟨cs⟩)=true;unfold Instr.sameBits;simp only[beq_self_eq_true,uL];exact this
 unfold Instr.keyThatStays;simp only[h,if_true,Sem.run_pure]
theorem sD {o:gV}{es:List (Value×Value)}(h:mapOf o=some es):o= .map es:=by
 cases o with
 |cells c e w=>cases h
 |map es'=>have:=ke h;subst this;rfl
 |lQ z p=>cases h
 |uk m=>cases h
 |yJ ws=>cases h
theorem OU (hE:c8 E P){t:TypeId}{ok:Bool}(h:yP E s t x y ok=some (v,s')):aG s s'/\∀X A ρ w x' y',pq P X A ρ s s' w->VR A ρ x x'->VR A ρ y y'->cK P X A ρ s s' w v (Instr.lookup t x' y' ok):=by
 obtain⟨d,hd,h1⟩:=aD h;clear h;split at h1
 .rename_i kt e b;obtain⟨kd,V5,h2⟩:=aD h1;obtain⟨Ll,h3⟩:=bz h2;obtain⟨z,hz,h4⟩:=aD h3;obtain⟨o,ho,h5⟩:=aD h4;obtain⟨es,tE,h6⟩:=aD h5;obtain⟨r,hr,h7⟩:=aD h6;have:=sD tE;subst this;have hu:=dY hE hd;have Vm:=dY hE V5;have hs':s'=s.aY b:=by
   split at h7
   .have:=aH h7;simp only[cH] at this;exact this.2.symm▸rfl
   .have:=aH h7;simp only[cH] at this;exact this.2.symm▸rfl
  refine⟨by rw[hs'];exact aG.aY s b,λX A ρ w x' y' hp hx hy=>?_⟩;obtain⟨hA,xo,FO,xs,ck,rfl,qu,uo⟩:=hp.st.lz b _ (hp.cU b (by rw[hs'];exact gi s b)) ho;have xD:y'=y:=by rw[<-hy.self,rp Ll]
  subst xD;rw[hx.Hb];obtain⟨r',akI,nC⟩:=tD hE Vm Ll hr qu uo;have fN:(getObj (ρ b).1).run P w= .ok (.map ⟨xs⟩ ck) w:=by
   simp[getObj,Sem.run,FO]
  have hfk:(Instr.findKey kt y' (⟨xs⟩:Array MapEntry).toList).run P w= .ok r' w:=akI w;split at h7
  .rename_i u;obtain⟨j,v2,rfl,OV,_⟩:=nC;have:=aH h7;simp only[cH] at this;obtain⟨rfl,rfl⟩:=this;refine cK.same hp ay ay (v':=if ok then .tuple #[v2,.bool true] else v2) ?_ ?_
   .unfold Instr.lookup;simp only[Sem.run_bind,run_underlying hu,Result.andThen_ok,fN,Sem.run_pure,run_checkKey hE _ Vm Ll,hfk]
   .cases ok with
    |true=>exact VR.tuple (LR.cons OV (LR.cons (VR.bool _) LR.nil))
    |false=>exact OV
  .obtain⟨nC,_⟩:=nC;subst nC;have:=aH h7;simp only[cH] at this;obtain⟨rfl,rfl⟩:=this;refine cK.same hp ay ay (v':=if ok then .tuple #[z,.bool false] else z) ?_ ?_
   .unfold Instr.lookup;simp only[Sem.run_bind,run_underlying hu,Result.andThen_ok,fN,Sem.run_pure,run_checkKey hE _ Vm Ll,hfk,kg hE hz]
   .have hzz:VR A ρ z z:=VR.ground (mD hE hz);cases ok with
    |true=>exact VR.tuple (LR.cons hzz (LR.cons (VR.bool _) LR.nil))
    |false=>exact hzz
 .cases h1
theorem LR.setAt {l l':a6}(h:LR A ρ l l')(hv:VR A ρ v v')(j:Nat):LR A ρ (l.set j v) (l'.set j v'):=λeK e=>by
 rw[List.map_set,h eK e,hv eK e]
theorem mF {α β:Type}(f:α->β):∀(l:List α)(j:Nat),(l.eraseIdx j).map f=(l.map f).eraseIdx j
 |[],j=>by simp
 |x::l,0=>by simp
 |x::l,j+1=>by simp[mF f l j]
theorem modify_eq_set {α:Type}(f:α->α):∀(l:List α)(j:Nat)(x:α),l[j]?=some x->l.modify j f=l.set j (f x)
 |[],j,x,h=>by simp at h
 |y::l,0,x,h=>by simp at h;subst h;simp
 |y::l,j+1,x,h=>by simp at h;simp[modify_eq_set f l j x h]
theorem LR.Ra {l l':a6}(h:LR A ρ l l')(j:Nat):LR A ρ (l.eraseIdx j) (l'.eraseIdx j):=λeK e=>by
 rw[mF,h eK e]
theorem Good.yZ {b:Nat}{o o':gV}{x x':Obj}(hp:pq P X A ρ s (s.put b (some o')) w)(ho:s.heap.get b=some o)(hx:w.heap[(ρ b).1]?=some x)(hnc:∀c e f,x≠ .cells c e f)(hr:FZ P A ρ (ρ b) o' x'):
  (setObj (ρ b).1 x').run P w= .ok () {w with heap:=w.heap.setIfInBounds (ρ b).1 x'}/\Good P X A ρ s (s.put b (some o')) w {w with heap:=w.heap.setIfInBounds (ρ b).1 x'} ρ:=by
 refine⟨by cases x<;>first|(exact absurd rfl (hnc _ _ _))|(simp[setObj,Sem.run,hx]),?_⟩;have dG:=(xp.1 hx).1;refine Good.bk (o:=o) (o':=o') (x':=x') hp.st hp.eg (hp.cU b (fq s b _)) ho (λc=>by simp) ay (jl s b _) ?_ hr ?_
 .simp[dG]
 .refine⟨rfl,rfl,rfl,ay,λr hr fY=>?_⟩;simp only[adS];rw[if_neg (λe=>fY e.symm)]
theorem F8 (hE:c8 E P){t:TypeId}{u:Value}(h:ti E s t x y u=some (v,s')):aG s s'/\v= .tuple ⟨[]⟩/\∀X A ρ w x' y' u',pq P X A ρ s s' w->VR A ρ x x'->VR A ρ y y'->VR A ρ u u'->∃w' eK,(Instr.mapUpdate t x' y' u').run P w= .ok () w'/\Good P X A ρ s s' w w' eK:=by
 obtain⟨d,hd,h1⟩:=aD h;clear h;split at h1
 .rename_i kt e b;obtain⟨kd,V5,h2⟩:=aD h1;obtain⟨Ll,h3⟩:=bz h2;obtain⟨o,ho,h5⟩:=aD h3;obtain⟨es,tE,h6⟩:=aD h5;obtain⟨r,hr,h7⟩:=aD h6;have:=sD tE;subst this;have hu:=dY hE hd;have Vm:=dY hE V5;have wZ:s.heap.get b≠none:=by rw[show s.heap.get b=some (.map es) from ho];simp
  split at h7
  .obtain⟨w6,he2,h8⟩:=aD h7;have:=aH h8;simp only[cH] at this;obtain⟨rfl,rfl⟩:=this;refine⟨aG.put s b _ wZ,rfl,λX A ρ w x' y' u' hp hx hy Lc=>?_⟩;obtain⟨hA,xo,FO,xs,ck,rfl,qu,uo⟩:=hp.st.lz b _ (hp.cU b (fq s b _)) ho;have xD:y'=y:=by rw[<-hy.self,rp Ll]
   subst xD;rw[hx.Hb];obtain⟨r',hfk,j,v2,rfl,OV,ad6,aau,oT⟩:=tD hE Vm Ll hr qu uo;have akJ:w6=es.set j (y',u):=ke (he2.symm.trans (oT u));subst akJ;have fN:(getObj (ρ b).1).run P w= .ok (.map ⟨xs⟩ ck) w:=by
    simp[getObj,Sem.run,FO]
   obtain⟨x0,uE,SZ⟩:=Option.map_eq_some_iff.1 ad6;have Z9:=(te.1 uE).1;obtain⟨dM,rq⟩:=Good.yZ (x':=.map ⟨xs.set j {x0 with key:=y',val:=u'}⟩ ck) hp ho FO ay (by
    refine⟨xs.set j {x0 with key:=y',val:=u'},ck,rfl,?_,?_⟩
    .rw[List.map_set,List.map_set];exact qu.setAt hy j
    .rw[List.map_set,List.map_set];exact uo.setAt Lc j)
   refine⟨_,ρ,?_,rq⟩;unfold Instr.mapUpdate;have akK:(⟨xs⟩:Array MapEntry).modify (0+j) (λe=>{e with key:=y',val:=u'})=⟨xs.set j {x0 with key:=y',val:=u'}⟩:=by
    apply wF;rw[Array.toList_modify,mU];simp only;rw[modify_eq_set _ _ _ _ uE]
   have hold:(((⟨xs⟩:Array MapEntry)[0+j]?).map (·.key)).getD y'=y':=by
    rw[mU];simp only[KN,ad6,qj]
   simp only[Sem.run_bind,run_underlying hu,Result.andThen_ok,fN,run_checkKey hE _ Vm Ll,hfk,hold,Jh Ll,akK,dM]
  .have:=aH h7;simp only[cH] at this;obtain⟨rfl,rfl⟩:=this;refine⟨aG.put s b _ wZ,rfl,λX A ρ w x' y' u' hp hx hy Lc=>?_⟩;obtain⟨hA,xo,FO,xs,ck,rfl,qu,uo⟩:=hp.st.lz b _ (hp.cU b (fq s b _)) ho;have xD:y'=y:=by rw[<-hy.self,rp Ll]
   subst xD;rw[hx.Hb];obtain⟨r',hfk,nC,_⟩:=tD hE Vm Ll hr qu uo;subst nC;have fN:(getObj (ρ b).1).run P w= .ok (.map ⟨xs⟩ ck) w:=by
    simp[getObj,Sem.run,FO]
   obtain⟨dM,rq⟩:=Good.yZ (x':=.map ((⟨xs⟩:Array MapEntry).push {key:=y',val:=u',born:=ck}) (ck+1)) hp ho FO ay (by
    refine⟨xs++[{key:=y',val:=u',born:=ck}],ck+1,ay,?_,?_⟩
    .rw[KI,KI];exact qu.append (LR.cons hy LR.nil)
    .rw[KI,KI];exact uo.append (LR.cons Lc LR.nil))
   refine⟨_,ρ,?_,rq⟩;unfold Instr.mapUpdate;simp only[Sem.run_bind,run_underlying hu,Result.andThen_ok,fN,run_checkKey hE _ Vm Ll,hfk,dM]
 .cases h1
theorem aav (h:aah x y s=some (v,s')):s'=s/\∀A ρ x' y' ts ty,VR A ρ x x'->VR A ρ y y'->∃v',(∀w,(Builtin.min_ ts ty #[x',y']).run P w= .ok v' w)/\VR A ρ v v':=by
 unfold aah at h;split at h
 .rename_i k a k' b;obtain⟨hk,h2⟩:=bz h;have:=aH h2;simp only[cH] at this;obtain⟨rfl,rfl⟩:=this;refine⟨rfl,λA ρ x' y' ts ty hx hy=>⟨_,λw=>?_,VR.int _ _⟩⟩;rw[hx.mB,hy.mB];simp only[Builtin.min_,List.foldlM,Builtin.min2];simp[dW,rR]
 .cases h
theorem aaw (hE:c8 E P){t ty:TypeId}(h:agJ E t x s=some (v,s')):s'=s/\∀A ρ x' ts,VR A ρ x x'->ts[0]?=some t->∃v',(∀w,(Builtin.cap_ ts ty #[x']).run P w= .ok v' w)/\VR A ρ v v':=by
 obtain⟨d,hd,h1⟩:=aD h;clear h;split at h1
 .rename_i e a n c;obtain⟨hc,h2⟩:=bz h1;have ux:c<ew:=mT hc;have:=aH h2;simp only[cH] at this;obtain⟨rfl,rfl⟩:=this;refine⟨rfl,λA ρ x' ts hx hts=>⟨.int .i64 (.ofNat c),λw=>?_,VR.int _ _⟩⟩;have sd:∃a',x'= .slice a' n c:=by
   cases a with
   |none=>exact⟨none,hx.jm⟩
   |some a=>obtain⟨a',sd⟩:=hx.tq;exact⟨some a',by rw[sd,fG ux]⟩
  obtain⟨a',rfl⟩:=sd;simp[Builtin.cap_,hts,run_underlying (dY hE hd),goInt]
 .cases h1
theorem OW (hE:c8 E P){t ty:TypeId}{b:Nat}(h:Cs E s t b=some (v,s')):aG s s'/\∀X A ρ w x' ts,pq P X A ρ s s' w->VR A ρ (.map (some b)) x'->ts[0]?=some t->cK P X A ρ s s' w v (Builtin.len_ ts ty #[x']):=by
 obtain⟨d,hd,h1⟩:=aD h;clear h;split at h1
 .obtain⟨o,ho,h2⟩:=aD h1;obtain⟨es,tE,h3⟩:=aD h2;have:=sD tE;subst this;have:=aH h3;simp only[cH] at this;obtain⟨rfl,rfl⟩:=this;refine⟨aG.aY s b,λX A ρ w x' ts hp hx hts=>?_⟩;obtain⟨hA,xo,FO,xs,ck,rfl,qu,uo⟩:=hp.st.lz b _ (hp.cU b (gi s b)) ho;have cX:xs.length=es.length:=by have:=qu.length;simp at this;omega
  refine cK.same hp ay ay (v':=.int .i64 (.ofNat es.length)) ?_ (by rw[dm];exact VR.int _ _);rw[hx.Hb];have fN:(getObj (ρ b).1).run P w= .ok (.map ⟨xs⟩ ck) w:=by
   simp[getObj,Sem.run,FO]
  simp[Builtin.len_,hts,run_underlying (dY hE hd),fN,goInt,cX]
 .cases h1
theorem Cd {α:Type}(l:List α)(j:Nat):(⟨l⟩:Array α).eraseIdxIfInBounds j=⟨l.eraseIdx j⟩:=by
 unfold Array.eraseIdxIfInBounds;split
 .apply wF;simp
 .rename_i h;rw[List.eraseIdx_of_length_le (by simpa using h)]
theorem OX (hE:c8 E P){ts:List TypeId}(h:QV E s ts x y=some (v,s')):aG s s'/\∀X A ρ w x' y' ty,pq P X A ρ s s' w->VR A ρ x x'->VR A ρ y y'->cK P X A ρ s s' w v (Builtin.delete_ ⟨ts⟩ ty #[x',y']):=by
 obtain⟨t,ht,h0⟩:=aD h;obtain⟨d,hd,h1⟩:=aD h0;clear h h0;rw[dR] at ht;split at h1
 .rename_i kt e b;obtain⟨kd,V5,h2⟩:=aD h1;obtain⟨Ll,h3⟩:=bz h2;obtain⟨o,ho,h5⟩:=aD h3;obtain⟨es,tE,h6⟩:=aD h5;obtain⟨w6,he2,h7⟩:=aD h6;have:=sD tE;subst this;have hu:=dY hE hd;have Vm:=dY hE V5;have:=aH h7;simp only[cH] at this;obtain⟨rfl,rfl⟩:=this;refine⟨aG.put s b _ (by rw[show s.heap.get b=some (.map es) from ho];simp),λX A ρ w x' y' ty hp hx hy=>?_⟩;obtain⟨hA,xo,FO,xs,ck,rfl,qu,uo⟩:=hp.st.lz b _ (hp.cU b (fq s b _)) ho;have xD:y'=y:=by rw[<-hy.self,rp Ll]
  subst xD;rw[hx.Hb];have fN:(getObj (ρ b).1).run P w= .ok (.map ⟨xs⟩ ck) w:=by
   simp[getObj,Sem.run,FO]
  obtain⟨r,hr⟩:∃r,ss y' es=some r:=by
   have key:∀(l l2:List (Value×Value)),SI y' l=some l2->∃r,ss y' l=some r:=by
    intro l;induction l with
    |nil=>intro _ _;exact⟨none,rfl⟩
    |cons p l ih=>
     intro l2 h;rw[vP] at h;obtain⟨b,hb,h9⟩:=aD h;rw[xE,hb];cases b with
     |true=>exact⟨some p.2,rfl⟩
     |false=>
      rw[eL] at h9;obtain⟨r,hr,_⟩:=aD h9;exact ih _ hr
   exact key _ _ he2
  obtain⟨r',hfk,nC⟩:=tD hE Vm Ll hr qu uo;have htt:(⟨ts⟩:Array TypeId)[0]?=some t:=by simpa using ht
  cases r with
  |none=>
   obtain⟨rfl,aau⟩:=nC;have:w6=es:=ke (he2.symm.trans aau);subst this;obtain⟨dM,rq⟩:=Good.yZ (x':=.map ⟨xs⟩ ck) hp ho FO ay ⟨xs,ck,rfl,qu,uo⟩;refine⟨_,_,ρ,?_,VR.undef,rq⟩;unfold Builtin.delete_;simp[htt,run_underlying hu,fN,run_checkKey hE _ Vm Ll,hfk,dM]
  |some u=>
   obtain⟨j,v2,rfl,OV,ad6,aau,oT⟩:=nC;have:w6=es.eraseIdx j:=ke (he2.symm.trans aau);subst this;obtain⟨dM,rq⟩:=Good.yZ (x':=.map ⟨xs.eraseIdx j⟩ ck) hp ho FO ay (by
    refine⟨xs.eraseIdx j,ck,rfl,?_,?_⟩
    .rw[mF,mF];exact qu.Ra j
    .rw[mF,mF];exact uo.Ra j)
   refine⟨_,_,ρ,?_,VR.undef,rq⟩;unfold Builtin.delete_;simp[htt,run_underlying hu,fN,run_checkKey hE _ Vm Ll,hfk,dM,Cd]
 .cases h1
theorem S0 (hE:c8 E P){t:TypeId}(h:I0 E s t x=some (v,s')):aG s s'/\∀X A ρ w x',pq P X A ρ s s' w->VR A ρ x x'->cK P X A ρ s s' w v (Instr.range t x'):=by
 obtain⟨d,hd,h1⟩:=aD h;clear h;have hu:=dY hE hd;split at h1
 .rename_i z;have:=aH h1;simp only[cH] at this;obtain⟨rfl,rfl⟩:=this;refine⟨aG.jL s _,λX A ρ w x' hp hx=>?_⟩;refine⟨.pointer (some ⟨w.heap.size,0,none⟩),w.alloc (.stringIter ⟨⟨z⟩⟩ 0),ρ.at s.next (w.heap.size,0),?_,?_,?_⟩
  .rw[hx.uU];unfold Instr.range;simp only[Sem.run_bind,run_underlying hu,Result.andThen_ok,Sem.run_pure];rfl
  .have:=VR.ptr (A:=dv A s.next (s.new (.lQ z 0)).next) (ρ:=ρ.at s.next (w.heap.size,0)) (b:=s.next) (o:=0) (s:=none) (.inr ⟨cG _,ay⟩);simpa using this
  .refine Good.alloc (o:=.lQ z 0) (x:=.stringIter ⟨⟨z⟩⟩ 0) hp.st hp.eg hp.lt (λc=>by simp) ay (kh s _) (cG _) (heap_alloc_new w _) ?_ (Fr.alloc w _);rfl
 .rename_i kt e b;obtain⟨o,ho,h2⟩:=aD h1;obtain⟨es,tE,h3⟩:=aD h2;have:=sD tE;subst this;have:=aH h3;simp only[cH] at this;obtain⟨rfl,rfl⟩:=this;refine⟨(aG.aY s b).trans (aG.jL _ _),λX A ρ w x' hp hx=>?_⟩;have kR:In ((s.aY b).new (.uk b)).cU b:=(aG.jL (s.aY b) (.uk b)).cU b (gi s b);obtain⟨hA,xo,FO,xs,ck,rfl,qu,uo⟩:=hp.st.lz b _ (hp.cU b kR) ho;have fN:(getObj (ρ b).1).run P w= .ok (.map ⟨xs⟩ ck) w:=by
   simp[getObj,Sem.run,FO]
  have hbn:b≠s.next:=by have:=hp.lt b hA;omega
  refine⟨.pointer (some ⟨w.heap.size,0,none⟩),w.alloc (.mapIter (some (ρ b).1) ck #[] ck),ρ.at s.next (w.heap.size,0),?_,?_,?_⟩
  .rw[hx.Hb];unfold Instr.range;simp only[Sem.run_bind,run_underlying hu,Result.andThen_ok,Sem.run_pure,fN];rfl
  .have:=VR.ptr (A:=dv A s.next ((s.aY b).new (.uk b)).next) (ρ:=ρ.at s.next (w.heap.size,0)) (b:=s.next) (o:=0) (s:=none) (.inr ⟨cG _,ay⟩);simpa using this
  .refine Good.alloc (o:=.uk b) (x:=.mapIter (some (ρ b).1) ck #[] ck) hp.st hp.eg hp.lt (λc=>by simp) ay (by have:=kh (s.aY b) (.uk b);simpa using this) (cG _) (heap_alloc_new w _) ?_ (Fr.alloc w _);exact⟨hA,ck,ck,rfl⟩
 .cases h1
theorem Ji (z:List UInt8)(p:Nat)(c:UInt8)(h:z[p]?=some c)(hc:c.toNat<128):Utf8.decode ⟨⟨z⟩⟩ p=(c.toNat,1):=by
 unfold Utf8.decode;have hp:p<z.length:=(te.1 h).1;have h0:((⟨⟨z⟩⟩:ByteArray).get! (p+0)).toNat=c.toNat:=by
  have:(⟨⟨z⟩⟩:ByteArray).get! (p+0)=c:=by
   show(⟨z⟩:Array UInt8)[p+0]! =c;rw[xq];simp[getElem!_def,h]
  rw[this]
 simp only[h0];rw[if_pos ag]
theorem V6 (hE:c8 E P){str:Bool}(h:K1 s x str=some (v,s')):aG s s'/\∀X A ρ w x' ty,pq P X A ρ s s' w->VR A ρ x x'->cK P X A ρ s s' w v (Instr.next x' str ty):=by
 unfold K1 at h;split at h
 .rename_i b;obtain⟨o,ho,h1⟩:=aD h;clear h;have By:s.heap.get b=some o:=ho;split at h1
  .rename_i z p;obtain⟨V7,h2⟩:=bz h1;subst V7;unfold GV at h2;split at h2
   .rename_i hz;rw[dR] at hz;have:=aH h2;simp only[cH] at this;obtain⟨rfl,rfl⟩:=this;refine⟨aG.aY s b,λX A ρ w x' ty hp hx=>?_⟩;obtain⟨hA,xo,FO,Jj⟩:=hp.st.lz b _ (hp.cU b (gi s b)) ho;have Jj:xo= .stringIter ⟨⟨z⟩⟩ p:=Jj;subst Jj;have fN:(getObj (ρ b).1).run P w= .ok (.stringIter ⟨⟨z⟩⟩ p) w:=by
     simp[getObj,Sem.run,FO]
    refine cK.same hp ay ay (v':=.tuple #[.bool false]) ?_ (VR.tuple (LR.cons (VR.bool _) LR.nil));rw[hx.nM];have jd:¬p<(⟨⟨z⟩⟩:ByteArray).size:=by
     have h3:(⟨⟨z⟩⟩:ByteArray).size=z.length:=rfl;have:=List.getElem?_eq_none_iff.1 hz;omega
    unfold Instr.next;simp only[Sem.run_bind,fN,Result.andThen_ok,if_neg jd,Sem.run_pure]
   .rename_i c hz;rw[dR] at hz;obtain⟨hc,h3⟩:=bz h2;have ux:c.toNat<128:=mT hc;have:=aH h3;simp only[cH] at this;obtain⟨rfl,rfl⟩:=this;refine⟨aG.put s b _ (by rw[By];simp),λX A ρ w x' ty hp hx=>?_⟩;obtain⟨hA,xo,FO,Jj⟩:=hp.st.lz b _ (hp.cU b (fq s b _)) ho;have Jj:xo= .stringIter ⟨⟨z⟩⟩ p:=Jj;subst Jj;have fN:(getObj (ρ b).1).run P w= .ok (.stringIter ⟨⟨z⟩⟩ p) w:=by
     simp[getObj,Sem.run,FO]
    obtain⟨dM,rq⟩:=Good.yZ (x':=.stringIter ⟨⟨z⟩⟩ (p+1)) hp ho FO ay (show FZ P A ρ (ρ b) (.lQ z (Nat.succ p)) _ from rfl);refine⟨.tuple #[.bool true,.int .i64 (.ofNat p),.int .i32 (.ofNat c.toNat)],_,ρ,?_,VR.tuple (LR.cons (VR.bool _) (LR.cons (VR.int _ _) (LR.cons (VR.int _ _) LR.nil))),rq⟩;rw[hx.nM];have jd:p<(⟨⟨z⟩⟩:ByteArray).size:=(te.1 hz).1;unfold Instr.next;simp only[Sem.run_bind,fN,Result.andThen_ok,if_pos jd,Ji z p c hz ux,dM,Sem.run_pure];rfl
  .rename_i m;obtain⟨V7,h2⟩:=bz h1;have V7:str=false:=by simpa using V7
   subst V7;obtain⟨o2,OY,h3⟩:=aD h2;obtain⟨es,tE,h4⟩:=aD h3;have:=sD tE;subst this;split at h4
   .have:=aH h4;simp only[cH] at this;obtain⟨rfl,rfl⟩:=this;refine⟨(aG.aY s b).trans (aG.aY _ m),λX A ρ w x' ty hp hx=>?_⟩;have kR:In ((s.aY b).aY m).cU b:=(aG.aY (s.aY b) m).cU b (gi s b);obtain⟨hA,xo,FO,hAm,since,dw,rfl⟩:=hp.st.lz b _ (hp.cU b kR) ho;obtain⟨hA2,xo2,Jj,xs,ck,rfl,qu,uo⟩:=hp.st.lz m _ (hp.cU m (gi (s.aY b) m)) OY;have SN:xs=[]:=by
     have:=qu.length;cases xs with
     |nil=>rfl
     |cons a l=>simp at this
    subst SN;have fN:(getObj (ρ b).1).run P w= .ok (.mapIter (some (ρ m).1) since #[] dw) w:=by
     simp[getObj,Sem.run,FO]
    have agV:(getObj (ρ m).1).run P w= .ok (.map #[] ck) w:=by
     simp[getObj,Sem.run,Jj]
    refine cK.same hp ay ay (v':=.tuple #[.bool false]) ?_ (VR.tuple (LR.cons (VR.bool _) LR.nil));rw[hx.nM];unfold Instr.next;simp[fN,agV,Question.forced]
   .cases h4
  .cases h1
 .cases h
variable {call:eX}{o:Oper}{ev:Operand->Value}
abbrev pw (P:Program)(X A:Nat->Prop)(ρ:iD)(s s':St)(w:World)(v v':Value)(w':World):Prop:=∃eK,VR (dv A s.next s'.next) eK v v'/\Good P X A ρ s s' w w' eK
def lT (P:Program)(f:FuncId)(args:Array Value)(w:World)(R:Value->World->Prop):Prop:=
 (∃v w',(callFunc f args).run P w= .ok (.value v) w'/\R v w')\/(∃g as_ w',(callFunc f args).run P w= .ok (.enter g as_) w'/\Calls P g as_ w' λe w''=>∃v,e= .returned v/\R v w'')
def dP (P:Program)(call:eX):Prop:=∀f args s v s',call f args s=some (v,s')->aG s s'/\∀X A ρ w gD,pq P X A ρ s s' w->Gl A ρ->LR A ρ args gD->lT P f ⟨gD⟩ w λv' w'=>pw P X A ρ s s' w v v' w'
def agW (P:Program)(o:Oper)(ev:Operand->Value)(s s':St)(v:Value):Prop:=
 aG s s'/\∀X A ρ w (a:Act)(Q:Exit->Act->World->Prop),pq P X A ρ s s' w->Gl A ρ->(∀x∈o.op.operands,VR A ρ (ev x) (a.eval x))->o.wp P a w (λa' w'=>∃v',a'=a.put o.dst v'/\pw P X A ρ s s' w v v' w') Q
theorem c9 {a:Act}{Q:Exit->Act->World->Prop}{m:Sem Value}(he:execOp a.eval o=(do pure (.value (<-m))))(h:cK P X A ρ s s' w v m):o.wp P a w (λa' w'=>∃v',a'=a.put o.dst v'/\pw P X A ρ s s' w v v' w') Q:=by obtain⟨v',w',eK,h1,h2,h3⟩:=h;unfold Oper.wp;rw[he];simp only[Sem.run_bind,h1,Result.andThen_ok,Sem.run_pure,Oper.upon];exact⟨v',rfl,eK,h2,h3⟩
theorem Rb {a:Act}{Q:Exit->Act->World->Prop}{m:Sem Unit}(he:execOp a.eval o=(do m;pure .skip))(hv:v= .tuple ⟨[]⟩)(h:∃w' eK,m.run P w= .ok () w'/\Good P X A ρ s s' w w' eK):o.wp P a w (λa' w'=>∃v',a'=a.put o.dst v'/\pw P X A ρ s s' w v v' w') Q:=by obtain⟨w',eK,h1,h3⟩:=h;unfold Oper.wp;rw[he];simp only[Sem.run_bind,h1,Result.andThen_ok,Sem.run_pure,Oper.upon];exact⟨undef,rfl,eK,by rw[hv];exact VR.undef,h3⟩
theorem wp_pure {a:Act}{Q:Exit->Act->World->Prop}(he:(execOp a.eval o).run P w= .ok (.value v') w)(hp:pq P X A ρ s s w)(hv:VR A ρ v v'):o.wp P a w (λa' w'=>∃v',a'=a.put o.dst v'/\pw P X A ρ s s w v v' w') Q:=by unfold Oper.wp;rw[he];exact⟨v',rfl,ρ,hv.mono (λi hi=>.inl hi) (λ_ _=>rfl),Good.refl hp.st hp.eg⟩
theorem VR.Rc {t:TypeId}{x:Value}(h:VR A ρ (.iface t x) v'):∃x',v'= .iface t x'/\VR A ρ x x':=by refine⟨cw ρ x,by rw[<-h.self];simp[cw],λeK e=>?_⟩;have h1:=h eK e;have h2:=h.self;rw[<-h2] at h1;simpa[cw] using h1
theorem VR.iface {t:TypeId}{x x':Value}(h:VR A ρ x x'):VR A ρ (.iface t x) (.iface t x'):=λeK e=>by
 have:=h eK e;simp[cw,this]
theorem Jk {lo:Option Operand}{a:Act}(h:∀x,lo=some x->VR A ρ (ev x) (a.eval x)):OL A ρ (dH ev lo) (lo.map a.eval):=by
 cases lo with
 |none=>simp[dH,OL]
 |some x=>exact h x rfl
theorem CC {l:List Operand}{a:Act}(h:∀x∈l,VR A ρ (ev x) (a.eval x)):LR A ρ (xw ev l) (l.map a.eval):=by
 rw[rk];induction l with
 |nil=>exact LR.nil
 |cons x xs ih=>exact LR.cons (h x ay) (ih λy hy=>h y (by simp[hy]))
theorem S2 (hC:dP P call){f:Value}{args:a6}(h:xy call f args s=some (v,s')):aG s s'/\∀X A ρ w f' gD,pq P X A ρ s s' w->Gl A ρ->VR A ρ f f'->LR A ρ args gD->
  ∃g first cap,f'= .func (.func g) ⟨first⟩ ⟨cap⟩/\lT P g ⟨first++(gD++cap)⟩ w λv' w'=>pw P X A ρ s s' w v v' w':=by
 unfold xy at h;split at h
 .rename_i g first cap
  obtain⟨h1,h2⟩:=hC _ _ _ _ _ h;refine⟨h1,λX A ρ w f' gD hp gP hf ha=>?_⟩;obtain⟨ad7,Dg,rfl,qu,uo⟩:=hf.Df;exact⟨g,ad7,Dg,rfl,h2 X A ρ w _ hp gP (qu.append (ha.append uo))⟩
 .cases h
theorem S3 (hE:c8 E P)(hC:dP P call){c:Call}(h:OI E call ev s c=some (v,s'))(dst:Option Tmp)(type:TypeId)(pos:String)(after:Array Edge)(guard:Option (Nat×Bool)):agW P ⟨dst,.call c,type,pos,after,guard⟩ ev s s' v:=by
 obtain⟨callee,args,argTypes⟩:=c;unfold OI at h;cases callee with
 |invoke r m=>
  simp only at h;unfold Ct at h;split at h
  .rename_i t b hr;obtain⟨f,hf,h0⟩:=aD h;obtain⟨h1,h2⟩:=hC _ _ _ _ _ h0;refine⟨h1,λX A ρ w a Q hp gP hx=>?_⟩;have kO:∀x∈args.toList,VR A ρ (ev x) (a.eval x):=λx hxx=>hx x (by simp only[Op.operands,Call.operands,VC];exact .inr (by simpa using hxx))
   have hrv:=hx r (by simp[Op.operands,Call.operands]);rw[hr] at hrv;obtain⟨q,hq,hqv⟩:=hrv.Rc;have uF:∃b',q= .pointer (some b'):=by
    obtain⟨bb,bo,bs⟩:=b;exact⟨_,hqv.nM⟩
   obtain⟨b',rfl⟩:=uF;have w7:=h2 X A ρ w _ hp gP (LR.cons hqv (CC kO));have he:(execOp a.eval ⟨dst,.call ⟨.invoke r m,args,argTypes⟩,type,pos,after,guard⟩).run P w=(callFunc f ⟨.pointer (some b')::args.toList.map a.eval⟩).run P w:=by
    simp only[execOp,resolve,hq,Sem.run_bind,Sem.run_pure,Result.andThen_ok,invoke];(have:((#[Value.iface t (.pointer (some b'))]++args.map a.eval)[0]?:Option Value)=some (.iface t (.pointer (some b'))):=by rw[aae ay];rfl);simp only[this];rw[hE.agQ t m f hf]
    congr 2
    apply wF;simp only[Array.toList_append,Array.toList_extract,List.size_toArray,cY,lW,Array.size_append,Array.size_map,Array.toList_map];simp[List.extract];exact qW ay
   unfold Oper.wp;rw[he];rcases w7 with⟨v',w',e1,e2⟩|⟨g',as_,w',e1,e2⟩
   .rw[e1];exact⟨v',rfl,e2⟩
   .rw[e1];simp only[Oper.upon];refine e2.mono λe w'' he=>?_
    obtain⟨v',rfl,hh⟩:=he;exact⟨v',rfl,hh⟩
  .cases h
 |value f=>
  simp only at h;obtain⟨h1,h2⟩:=S2 hC h;refine⟨h1,λX A ρ w a Q hp gP hx=>?_⟩;have kO:∀x∈args.toList,VR A ρ (ev x) (a.eval x):=λx hxx=>hx x (by simp only[Op.operands,Call.operands,VC];exact .inr (by simpa using hxx))
  obtain⟨g,first,cap,hf,w7⟩:=h2 X A ρ w _ _ hp gP (hx f (by simp[Op.operands,Call.operands])) (CC kO);have he:(execOp a.eval ⟨dst,.call ⟨.value f,args,argTypes⟩,type,pos,after,guard⟩).run P w=(callFunc g ⟨first++(args.toList.map a.eval++cap)⟩).run P w:=by
   simp only[execOp,resolve,hf,Deferred.ofValue,Sem.run_bind,Sem.run_pure,Result.andThen_ok,invoke]
   congr 2
   apply wF;simp
  unfold Oper.wp;rw[he];rcases w7 with⟨v',w',e1,e2⟩|⟨g',as_,w',e1,e2⟩
  .rw[e1];exact⟨v',rfl,e2⟩
  .rw[e1];simp only[Oper.upon];refine e2.mono λe w'' he=>?_
   obtain⟨v',rfl,hh⟩:=he;exact⟨v',rfl,hh⟩
 |builtin b=>
  simp only at h;have kO:∀(a:Act) A ρ,(∀x∈(Op.call ⟨.builtin b,args,argTypes⟩).operands,VR A ρ (ev x) (a.eval x))->∀x∈args.toList,VR A ρ (ev x) (a.eval x):=λa A ρ hx x hxx=>hx x (by simp only[Op.operands,Call.operands,VC];exact .inr (by simpa using hxx))
  obtain⟨args⟩:=args;obtain⟨argTypes⟩:=argTypes;simp only at h kO;unfold yO at h;split at h
  .rename_i x;unfold su at h;split at h
   .obtain⟨t,ht,h1⟩:=aD h;rw[dR] at ht;split at h1
    .rename_i b hb;obtain⟨h2,h3⟩:=OW hE h1 (ty:=type);refine⟨h2,λX A ρ w a Q hp gP hx=>c9 (m:=Builtin.len_ ⟨argTypes⟩ type #[a.eval x]) (by simp[execOp,resolve,invoke,builtin]) (h3 X A ρ w _ ⟨argTypes⟩ hp ?_ (by simpa using ht))⟩;have:=kO a A ρ hx x ay;rw[hb] at this;exact this
    .obtain⟨u,hu,h2⟩:=aD h1;have:=aH h2;simp only[cH] at this;obtain⟨rfl,rfl⟩:=this;refine⟨aG.refl _,λX A ρ w a Q hp gP hx=>?_⟩;obtain⟨v',h3,h4⟩:=aaq hE hu (ty:=type) A ρ _ ⟨argTypes⟩ (kO a A ρ hx x ay) (by simpa using ht);exact c9 (m:=Builtin.len_ ⟨argTypes⟩ type #[a.eval x]) (by simp[execOp,resolve,invoke,builtin]) (cK.pure hp (h3 w) h4)
   .obtain⟨t,ht,h1⟩:=aD h;rw[dR] at ht;obtain⟨rfl,h3⟩:=aaw hE h1 (ty:=type);refine⟨aG.refl _,λX A ρ w a Q hp gP hx=>?_⟩;obtain⟨v',h4,h5⟩:=h3 A ρ _ ⟨argTypes⟩ (kO a A ρ hx x ay) (by simpa using ht);exact c9 (m:=Builtin.cap_ ⟨argTypes⟩ type #[a.eval x]) (by simp[execOp,resolve,invoke,builtin]) (cK.pure hp (h4 w) h5)
   .obtain⟨h1,h2⟩:=F6 (P:=P) h;exact⟨h1,λX A ρ w a Q hp gP hx=>c9 (m:=Builtin.unsafeSliceData_ ⟨argTypes⟩ type #[a.eval x]) (by simp[execOp,resolve,invoke,builtin]) (h2 X A ρ w _ ⟨argTypes⟩ type hp (kO a A ρ hx x ay))⟩
   .obtain⟨h1,h2⟩:=SU hE h;exact⟨h1,λX A ρ w a Q hp gP hx=>c9 (m:=Builtin.clear_ ⟨argTypes⟩ type #[a.eval x]) (by simp[execOp,resolve,invoke,builtin]) (h2 X A ρ w _ type hp (kO a A ρ hx x ay))⟩
   .cases h
  .rename_i x y;unfold K2 at h;split at h
   .obtain⟨h1,h2⟩:=OR hE h;exact⟨h1,λX A ρ w a Q hp gP hx=>c9 (m:=Builtin.append_ ⟨argTypes⟩ type #[a.eval x,a.eval y]) (by simp[execOp,resolve,invoke,builtin]) (h2 X A ρ w _ _ type hp (kO a A ρ hx x ay) (kO a A ρ hx y ay))⟩
   .obtain⟨rfl,h2⟩:=aar (P:=P) h;refine⟨aG.refl _,λX A ρ w a Q hp gP hx=>?_⟩;obtain⟨v',h3,h4⟩:=h2 A ρ _ _ ⟨argTypes⟩ type (kO a A ρ hx x ay) (kO a A ρ hx y ay);exact c9 (m:=Builtin.max_ ⟨argTypes⟩ type #[a.eval x,a.eval y]) (by simp[execOp,resolve,invoke,builtin]) (cK.pure hp (h3 w) h4)
   .obtain⟨rfl,h2⟩:=aav (P:=P) h;refine⟨aG.refl _,λX A ρ w a Q hp gP hx=>?_⟩;obtain⟨v',h3,h4⟩:=h2 A ρ _ _ ⟨argTypes⟩ type (kO a A ρ hx x ay) (kO a A ρ hx y ay);exact c9 (m:=Builtin.min_ ⟨argTypes⟩ type #[a.eval x,a.eval y]) (by simp[execOp,resolve,invoke,builtin]) (cK.pure hp (h3 w) h4)
   .obtain⟨h1,h2⟩:=OX hE h;exact⟨h1,λX A ρ w a Q hp gP hx=>c9 (m:=Builtin.delete_ ⟨argTypes⟩ type #[a.eval x,a.eval y]) (by simp[execOp,resolve,invoke,builtin]) (h2 X A ρ w _ _ type hp (kO a A ρ hx x ay) (kO a A ρ hx y ay))⟩
   .obtain⟨h1,h2⟩:=VZ hE h;exact⟨h1,λX A ρ w a Q hp gP hx=>c9 (m:=Builtin.copy_ ⟨argTypes⟩ type #[a.eval x,a.eval y]) (by simp[execOp,resolve,invoke,builtin]) (h2 X A ρ w _ _ type hp (kO a A ρ hx x ay) (kO a A ρ hx y ay))⟩
   .obtain⟨h1,h2⟩:=AE hE h;exact⟨h1,λX A ρ w a Q hp gP hx=>c9 (m:=Builtin.unsafeString_ ⟨argTypes⟩ type #[a.eval x,a.eval y]) (by simp[execOp,resolve,invoke,builtin]) (h2 X A ρ w _ _ type hp (kO a A ρ hx x ay) (kO a A ρ hx y ay))⟩
   .cases h
  .cases h
theorem Jl (hE:c8 E P)(hC:dP P call)(h:FK E call ev s o.op=some (v,s')):agW P o ev s s' v:=by
 obtain⟨dst,op,type,pos,after,guard⟩:=o;cases op<;>simp only[FK,reduceCtorEq] at h
 case move x=>
  refine' zaW
 case assign x=>
  refine' zaW
 case pick c p q=>
  unfold QW at h;split at h
  .rename_i b hc;cases b with
   |true=>
    have:=aH h;simp only[cH] at this;obtain⟨rfl,rfl⟩:=this;refine⟨aG.refl _,λX A ρ w a Q hp gP hx=>wp_pure ?_ hp (hx p (by simp[Op.operands]))⟩;have:=hx c (by simp[Op.operands]);rw[hc] at this;simp[execOp,this.tn,asBool]
   |false=>
    have:=aH h;simp only[cH] at this;obtain⟨rfl,rfl⟩:=this;refine⟨aG.refl _,λX A ρ w a Q hp gP hx=>wp_pure ?_ hp (hx q (by simp[Op.operands]))⟩;have:=hx c (by simp[Op.operands]);rw[hc] at this;simp[execOp,this.tn,asBool]
  .cases h
 case alloc t=>
  obtain⟨h1,h2⟩:=SL hE h;exact⟨h1,λX A ρ w a Q hp gP hx=>c9 (m:=Instr.alloc t true (.tuple #[])) rfl (h2 X A ρ w hp)⟩
 case box t x=>
  obtain⟨h1,h2⟩:=Q4 (P:=P) h;refine⟨h1,λX A ρ w a Q hp gP hx=>c9 (m:=Instr.box t (a.eval x)) rfl ?_⟩;have:=h2 X A ρ w _ hp (by rw[hU];exact(hx x (by simp[Op.operands])).cells);exact this
 case build t ps=>
  obtain⟨rfl,h2⟩:=SR hE h;refine⟨aG.refl _,λX A ρ w a Q hp gP hx=>?_⟩;obtain⟨v',h3,h4⟩:=h2 A ρ a.eval (λp hp=>hx p.2 (by simp only[Op.operands,List.mem_toArray,jK];exact⟨p,by simpa using hp,rfl⟩));refine c9 (m:=Instr.build t (ps.map λx=>(x.1,a.eval x.2))) rfl (cK.pure hp ?_ h4);rw[<-h3 w];congr 2;apply wF;simp
 case buildSlice t n ps=>
  obtain⟨h1,h2⟩:=Di hE h;refine⟨h1,λX A ρ w a Q hp gP hx=>c9 (m:=Instr.buildSlice t n (ps.map λx=>(x.1,a.eval x.2))) rfl ?_⟩;have:=h2 X A ρ w a.eval hp (λp hp=>hx p.2 (by simp only[Op.operands,List.mem_toArray,jK];exact⟨p,by simpa using hp,rfl⟩));rw[show(ps.map λx=>(x.1,a.eval x.2))=(ps.toList.map λx=>(x.1,a.eval x.2)).toArray by apply wF;simp];exact this
 case load t x=>
  obtain⟨h1,h2⟩:=aan hE h;exact⟨h1,λX A ρ w a Q hp gP hx=>c9 (m:=Instr.loadAt t (a.eval x)) rfl (h2 X A ρ w _ hp (hx x (by simp[Op.operands])))⟩
 case store t x y=>
  obtain⟨h1,h2⟩:=VQ hE h;refine⟨h1,λX A ρ w a Q hp gP hx=>?_⟩;obtain⟨h3,h4⟩:=h2 X A ρ w _ _ hp (hx x (by simp[Op.operands])) (hx y (by simp[Op.operands]));exact Rb (m:=Instr.storeAt t (a.eval x) (a.eval y)) rfl h3 h4
 case makeInterface t x=>
  obtain⟨d,hd,h1⟩:=aD h;obtain⟨hc,h2⟩:=bz h1;have:=aH h2;simp only[cH] at this;obtain⟨rfl,rfl⟩:=this;refine⟨aG.refl _,λX A ρ w a Q hp gP hx=>?_⟩;refine c9 (m:=Instr.makeInterface t (a.eval x)) rfl (cK.pure hp (v':=.iface t (a.eval x)) ?_ (VR.iface (hx x (by simp[Op.operands]))));unfold Instr.makeInterface;simp only[Sem.run_bind,run_underlying (dY hE hd),Result.andThen_ok];cases d<;>first|rfl|cases hc
 case nilCheck x=>
  unfold GW at h;split at h
  .rename_i m t b c hev;obtain⟨f,hf,h0⟩:=aD h;have:=aH h0;simp only[cH] at this;obtain⟨rfl,rfl⟩:=this;refine⟨aG.refl _,λX A ρ w a Q hp gP hx=>?_⟩;have hv:=hx x (by simp[Op.operands]);rw[hev] at hv;refine wp_pure (v':=a.eval x) ?_ hp hv;obtain⟨p',q',he,pY,_⟩:=hv.Df;obtain⟨y,r,rfl,hy,hr⟩:=pY.iQ;have:r=[]:=mO (by simpa using hr.length);subst this;obtain⟨y',rfl,xD⟩:=hy.Rc;obtain⟨bb,bo,bs⟩:=b;have uF:=xD.nM;subst uF;simp only[execOp,he];have h1:((⟨[Value.iface t (.pointer (some ⟨(ρ bb).1,bo,bs⟩))]⟩:Array Value)[0]?:Option Value)=some (.iface t (.pointer (some ⟨(ρ bb).1,bo,bs⟩))):=rfl;simp only[h1,Sem.run_bind];have h2:(program).run P w= .ok P w:=rfl;simp only[h2,Result.andThen_ok,hE.agR t m f hf];rfl
  rename_i x' fY;clear fY;obtain⟨rfl,rfl,h2⟩:=aas h;refine⟨aG.refl _,λX A ρ w a Q hp gP hx=>?_⟩;have hv:=hx x (by simp[Op.operands]);rcases h2 with⟨q,hq⟩|⟨f,p,q,hq⟩
  .obtain⟨b,off,sp⟩:=q;rw[hq] at hv⊢;refine wp_pure (v':=a.eval x) ?_ hp hv;simp only[execOp,hv.nM,Sem.run_pure]
  .obtain⟨p⟩:=p;obtain⟨q⟩:=q;rw[hq] at hv⊢;obtain⟨p',q',he,_,_⟩:=hv.Df;refine wp_pure (v':=a.eval x) ?_ hp hv;simp only[execOp,he,Sem.run_pure]
 case binOp op t x y yt=>
  obtain⟨u,hu,h1⟩:=aD h;have:=aH h1;simp only[cH] at this;obtain⟨rfl,rfl⟩:=this;refine⟨aG.refl _,λX A ρ w a Q hp gP hx=>?_⟩;obtain⟨v',h2,h3⟩:=aap hE hu (hx x (by simp[Op.operands])) (hx y (by simp[Op.operands])) w;exact c9 (m:=do eqGuard op t x y (a.eval x) (a.eval y);binOp op t (a.eval x) (a.eval y)) rfl (cK.pure hp h2 h3)
 case unOp op t x=>
  obtain⟨rfl,h2⟩:=ad0 (P:=P) h;refine⟨aG.refl _,λX A ρ w a Q hp gP hx=>?_⟩;obtain⟨v',h3,h4⟩:=h2 A ρ _ (hx x (by simp[Op.operands]));exact c9 (m:=Op.unary op (a.eval x)) rfl (cK.pure hp (h3 w) h4)
 case convert src d x=>
  obtain⟨h1,h2⟩:=V1 hE h;exact⟨h1,λX A ρ w a Q hp gP hx=>c9 (m:=convert src d (a.eval x)) rfl (h2 X A ρ w _ hp (hx x (by simp[Op.operands])))⟩
 case makeFunc fn f c=>
  have:=aH h;simp only[cH] at this;obtain⟨rfl,rfl⟩:=this;refine⟨aG.refl _,λX A ρ w a Q hp gP hx=>?_⟩;refine wp_pure (v':=.func fn ⟨f.toList.map a.eval⟩ ⟨c.toList.map a.eval⟩) ?_ hp (VR.func (CC λx hxx=>hx x ?_) (CC λx hxx=>hx x ?_))
  .simp only[execOp,Instr.makeFunc,Sem.run_bind,Sem.run_pure,Result.andThen_ok]
   congr 3<;>(apply wF;simp)
  .simp only[Op.operands,VC];exact .inl (by simpa using hxx)
  .simp only[Op.operands,VC];exact .inr (by simpa using hxx)
 case makeMap t r=>
  cases r with
  |some r=>cases h
  |none=>
   have:=aH h;simp only[cH] at this;obtain⟨rfl,rfl⟩:=this;exact⟨aG.jL s _,λX A ρ w a Q hp gP hx=>c9 (m:=Instr.makeMap t none) rfl (OT t X A ρ w hp)⟩
 case makeSlice t l c=>
  obtain⟨h1,h2⟩:=F5 hE h;exact⟨h1,λX A ρ w a Q hp gP hx=>c9 (m:=Instr.makeSlice t (a.eval l) (a.eval c)) rfl (h2 X A ρ w _ _ hp (hx l (by simp[Op.operands])) (hx c (by simp[Op.operands])))⟩
 case slice t x lo hi mx=>
  obtain⟨h1,h2⟩:=SQ hE h;exact⟨h1,λX A ρ w a Q hp gP hx=>c9 (m:=Instr.sliceAt t (a.eval x) (lo.map a.eval) (hi.map a.eval) (mx.map a.eval)) rfl (h2 X A ρ w _ _ _ _ hp (hx x (by simp[Op.operands])) (Jk λq hq=>hx q (by subst hq;simp[Op.operands])) (Jk λq hq=>hx q (by subst hq;simp[Op.operands])) (Jk λq hq=>hx q (by subst hq;simp[Op.operands])))⟩
 case fieldAddr t x i=>
  obtain⟨rfl,h2⟩:=F3 hE h;refine⟨aG.refl _,λX A ρ w a Q hp gP hx=>?_⟩;obtain⟨v',h3,h4⟩:=h2 A ρ _ (λ_ _ _=>trivial) (hx x (by simp[Op.operands]));exact c9 (m:=Instr.fieldAt t (a.eval x) i) rfl (cK.pure hp (h3 w) h4)
 case field t x i=>
  obtain⟨rfl,h2⟩:=SP hE h;refine⟨aG.refl _,λX A ρ w a Q hp gP hx=>?_⟩;obtain⟨v',h3,h4⟩:=h2 A ρ _ (hx x (by simp[Op.operands]));exact c9 (m:=Instr.field t (a.eval x) i) rfl (cK.pure hp (h3 w) h4)
 case indexAddr t x i=>
  obtain⟨rfl,h2⟩:=F4 hE h;refine⟨aG.refl _,λX A ρ w a Q hp gP hx=>?_⟩;obtain⟨v',h3,h4⟩:=h2 A ρ _ _ (hx x (by simp[Op.operands])) (hx i (by simp[Op.operands]));exact c9 (m:=Instr.indexAt t (a.eval x) (a.eval i)) rfl (cK.pure hp (h3 w) h4)
 case index t x i=>
  obtain⟨rfl,h2⟩:=SO hE h;refine⟨aG.refl _,λX A ρ w a Q hp gP hx=>?_⟩;obtain⟨v',h3,h4⟩:=h2 A ρ _ _ (hx x (by simp[Op.operands])) (hx i (by simp[Op.operands]));exact c9 (m:=Instr.index t (a.eval x) (a.eval i)) rfl (cK.pure hp (h3 w) h4)
 case lookup t m k ok=>
  obtain⟨h1,h2⟩:=OU hE h;exact⟨h1,λX A ρ w a Q hp gP hx=>c9 (m:=Instr.lookup t (a.eval m) (a.eval k) ok) rfl (h2 X A ρ w _ _ hp (hx m (by simp[Op.operands])) (hx k (by simp[Op.operands])))⟩
 case mapUpdate t m k u=>
  obtain⟨h1,h2,h3⟩:=F8 hE h;exact⟨h1,λX A ρ w a Q hp gP hx=>Rb (m:=Instr.mapUpdate t (a.eval m) (a.eval k) (a.eval u)) rfl h2 (h3 X A ρ w _ _ _ hp (hx m (by simp[Op.operands])) (hx k (by simp[Op.operands])) (hx u (by simp[Op.operands])))⟩
 case extract x i=>
  obtain⟨rfl,h2⟩:=Lb (P:=P) h;refine⟨aG.refl _,λX A ρ w a Q hp gP hx=>?_⟩;obtain⟨v',h3,h4⟩:=h2 A ρ _ (hx x (by simp[Op.operands]));exact c9 (m:=Instr.extract (a.eval x) i) rfl (cK.pure hp (h3 w) h4)
 case range t x=>
  obtain⟨h1,h2⟩:=S0 hE h;exact⟨h1,λX A ρ w a Q hp gP hx=>c9 (m:=Instr.range t (a.eval x)) rfl (h2 X A ρ w _ hp (hx x (by simp[Op.operands])))⟩
 case next x str=>
  obtain⟨h1,h2⟩:=V6 hE h;exact⟨h1,λX A ρ w a Q hp gP hx=>c9 (m:=Instr.next (a.eval x) str type) rfl (h2 X A ρ w _ type hp (hx x (by simp[Op.operands])))⟩
 case call c=>exact S3 hE hC h dst type pos after guard
variable {N:Nat}{tm jO:Tm}{a:Act}
mutual
def l9:Value->Bool
 |.agg ⟨cs⟩=>tF cs
 |.tuple ⟨cs⟩=>tF cs
 |.func _ ⟨f⟩ ⟨c⟩=>tF f&&tF c
 |.iface _ v=>l9 v
 |.pointer (some _)=>false
 |.slice (some _) _ _=>false
 |.map (some _)=>false
 |_=>true
def tF:a6->Bool
 |[]=>true
 |v::vs=>l9 v&&tF vs
end
mutual
theorem tG (ρ:iD):∀v,l9 v=true->cw ρ v=v
 |.agg ⟨cs⟩,h=>by rw[VN,qv ρ cs (by simpa[l9] using h)]
 |.tuple ⟨cs⟩,h=>by rw[OK,qv ρ cs (by simpa[l9] using h)]
 |.func fn ⟨f⟩ ⟨c⟩,h=>by
  simp only[l9,bO] at h;rw[SJ,qv ρ f h.1,qv ρ c h.2]
 |.iface t v,h=>by
  have:=tG ρ v (by simpa[l9] using h);simp[cw,this]
 |.pointer none,_=>by simp
 |.pointer (some _),h=>by simp[l9] at h
 |.slice none _ _,_=>by simp
 |.slice (some _) _ _,h=>by simp[l9] at h
 |.map none,_=>by simp[cw]
 |.map (some _),h=>by simp[l9] at h
 |.bool _,_=>by simp
 |.int _ _,_=>by simp
 |.float _ _,_=>by simp[cw]
 |.complex _ _ _,_=>by simp[cw]
 |.string _,_=>by simp
 |.chan _,_=>by simp[cw]
 |.nilFunc,_=>by simp
 |.nilIface,_=>by simp
theorem qv (ρ:iD):∀l:a6,tF l=true->l.map (cw ρ)=l
 |[],_=>rfl
 |v::vs,h=>by
  simp only[tF,bO] at h;rw[wO,tG ρ v h.1,qv ρ vs h.2]
end
def Jm (x:Operand):Bool:=match x with
 |.const v=>l9 v
 |.global g=>Nat.ble (Nat.succ g) 16
 |_=>true
def u6 (N:Nat)(o:Oper):Bool:=(match o.dst with
 |some d=>Nat.ble (Nat.succ d) N
 |none=>true)&&o.op.operands.toList.all Jm
theorem Gl.mono (h:Gl A ρ)(hA:∀i,A i->B i)(Ay:∀i,A i->FL i=ρ i):Gl B FL:=λg hg=>⟨hA g (h g hg).1,by rw[Ay g (h g hg).1];exact(h g hg).2⟩
def On (A:Nat->Prop)(ρ:iD)(N:Nat)(tm:Tm)(a:Act):Prop:=a.tmps.size=N/\∀t,VR A ρ (lZ (tm.get t)) (a.tmps.getD t undef)
theorem On.mono (h:On A ρ N tm a)(hA:∀i,A i->B i)(Ay:∀i,A i->FL i=ρ i):On B FL N tm a:=⟨h.1,λt=>(h.2 t).mono hA Ay⟩
noncomputable def Tm.ij (tm:Tm)(d:Option Tmp)(v:Value):Tm:=match d with
 |some d=>tm.set (Nat.succ d) d (some v)
 |none=>tm
theorem Tm.put_eq {β:Type}(tm:Tm)(d:Option Tmp)(v:Value)(k:Tm->β):tm.put d v k=k (tm.ij d v):=by cases d<;>simp[Tm.put,Tm.ij]
theorem Ln (a:Act)(d t:Nat)(v:Value)(hd:d<a.tmps.size):(a.put (some d) v).tmps.getD t undef=if t=d then v else a.tmps.getD t undef:=by
 simp only[Act.put,QM,adS];by_cases h:d=t
 .subst h;simp[hd]
 .rw[if_neg h,if_neg (λe=>h e.symm)]
theorem On.put {d:Option Tmp}{v v':Value}(h:On A ρ N tm a)(hv:VR A ρ v v')(hd:∀t,d=some t->t<N):On A ρ N (tm.ij d v) (a.put d v'):=by
 cases d with
 |none=>exact h
 |some d=>
  have hd:=hd d rfl;refine⟨by simp[Act.put,h.1],λt=>?_⟩;rw[Ln a d t v' (by rw[h.1];exact hd)];unfold Tm.ij;simp only[T.vI];by_cases ht:t=d
  .simp only[ht,if_true];exact hv
  .simp only[ht,pB];exact h.2 t
theorem CD {x:Operand}(ho:Jm x=true)(hg:Gl A ρ)(ht:∀t,x= .tmp t->VR A ρ (lZ (tm.get t)) (a.tmps.getD t undef)):VR A ρ (aO tm x) (a.eval x):=by
 cases x with
 |tmp t=>exact ht t rfl
 |const v=>exact VR.ground λρ=>tG ρ v ho
 |global g=>
  have hg':g<16:=mT ho;have:=VR.ptr (ρ:=ρ) (o:=0) (s:=none) (hg g hg').1;rw[(hg g hg').2] at this;exact this
 |func f=>exact VR.ground λρ=>by simp[aO]
theorem S4 (v:Option Value)(want:Bool):uQ v want=true↔v=some (.bool want):=by
 unfold uQ;split
 .rename_i b;rw[dW];cases b<;>cases want<;>simp
 .rename_i h;simp only[jY,false_iff];rintro rfl;exact h want rfl
theorem Jn {b:Bool}(h:cw ρ v= .bool b):v= .bool b:=by
 cases v<;>try(simp[cw] at h;done)
 .simpa using h
 .rename_i a;cases a<;>simp[cw] at h
 .rename_i a l c;cases a with
  |none=>simp[cw] at h
  |some a=>
   obtain⟨a',e⟩:=sx ρ a l c;rw[e] at h;cases h
 .rename_i a;cases a<;>simp[cw] at h
theorem VR.V8 {b:Bool}(h:VR A ρ v v')(hv:v'= .bool b):v= .bool b:=Jn (ρ:=ρ) (by rw[h.self,hv])
theorem AF {aE:List Oper}{o:Oper}(hs:a.tmps.size=N)(hN:∀p∈aE,∀d,p.dst=some d->d<N)
  (ht:∀j want,o.guard=some (j,want)->∀d,mz aE j=some d->VR A ρ (lZ (tm.get d)) (a.tmps.getD d undef)):Region.wanted o (yielded ⟨aE⟩ a.tmps)=ir aE tm o.guard:=by
 unfold Region.wanted ir;cases hgd:o.guard with
 |none=>rfl
 |some p=>
  obtain⟨j,want⟩:=p;simp only;have aax:((⟨aE⟩:Array Oper)[j]?).bind (·.dst)=mz aE j:=by
   unfold mz;rw[dR];simp only[KN];cases aE[j]?<;>rfl
  unfold yielded;rw[aax];cases hd:mz aE j with
  |none=>simp[uQ]
  |some d=>
   have hv:=ht j want hgd d hd;have hdN:d<a.tmps.size:=by
    unfold mz at hd;obtain⟨p,hp,hd'⟩:=aD hd;rw[dR] at hp;rw[hs];exact hN p (KQ hp) d hd'
   (have fN:a.tmps[d]?=some (a.tmps.getD d undef):=by simp[hdN]);simp only[Bi,cu,fN];generalize a.tmps.getD d undef=u at hv;rw[po,S4];constructor
   .intro h;have hu:u= .bool want:=by
     split at h
     .rename_i b hb;simp at hb h;rw[hb,h]
     .simp at h
    have:=hv.V8 hu;cases hh:tm.get d with
    |none=>rw[hh] at this;cases this
    |some q=>rw[hh] at this;exact ep some this
   .intro h;rw[h] at hv;rw[hv.tn];simp
theorem dv.lt {n m:Nat}(hA:∀i,A i->i<n)(h:n<=m):∀i,dv A n m i->i<m:=by
 rintro i (h1|h1)
 .have:=hA i h1;omega
 .exact h1.2
theorem dv.self {n:Nat}{i:Nat}:dv A n n i↔A i:=by
 constructor
 .rintro(h|h)
  .exact h
  .omega
 .exact .inl
theorem dv.join {n m k:Nat}(h1:n<=m)(h2:m<=k){i:Nat}(h:dv (dv A n m) m k i):dv A n k i:=by
 rcases h with(h|h)|h
 .exact .inl h
 .exact .inr ⟨h.1,ag⟩
 .exact .inr ⟨ag,h.2⟩
theorem n4 {o:Oper}(h:u6 N o=true):∀d,o.dst=some d->d<N:=by intro d hd;unfold u6 at h;rw[hd] at h;simp only[bO] at h;exact mT h.1
theorem BA {o:Oper}(h:u6 N o=true):∀x∈o.op.operands,Jm x=true:=by unfold u6 at h;simp only[bO,gA] at h;intro x hx;exact h.2 x (by simpa using hx)
structure Left (P:Program)(X A:Nat->Prop)(ρ:iD)(N:Nat)(s s':St)(w:World)(a:Act)(jO:Tm)(a':Act)(w':World):Prop where
 defers:a'.defers=a.defers
 left:∃eK,On (dv A s.next s'.next) eK N jO a'/\Good P X A ρ s s' w w' eK
theorem AG (aE:List Oper)(o:Oper)(l:List Oper)(tm:Tm)(s:St):K3 E call aE (o::l) tm s=bo (ir aE tm o.guard) (ob (FK E call (aO tm) s o.op) λp=>match p with
        |(v,s)=>tm.put o.dst v λtm=>K3 E call aE l tm s)
   (tm.put o.dst (.tuple ⟨[]⟩) λtm=>K3 E call aE l tm s):=rfl
theorem u7 (a:Act)(d:Option Tmp)(v:Value):(a.put d v).defers=a.defers:=by cases d<;>rfl
theorem Jo (hE:c8 E P)(hC:dP P call)(aE:List Oper)(kO:∀o∈aE,u6 N o=true):∀(l:List Oper)(k:Nat)(tm:Tm)(s:St){jO:Tm}{s':St},l=aE.drop k->K3 E call aE l tm s=some (jO,s')->
  aG s s'/\∀X A ρ w a Q,pq P X A ρ s s' w->Gl A ρ->On A ρ N tm a->(∀a' w',Left P X A ρ N s s' w a jO a' w'->Q Exit.normal a' w')->wpOps P ⟨aE⟩ Q (List.range' k l.length) a w
 |[],k,tm,s,jO,s',hl,h=>by
  have:=ke h;simp only[cH] at this;obtain⟨rfl,rfl⟩:=this;refine⟨aG.refl s,λX A ρ w a Q hp hg ht hQ=>?_⟩;exact hQ a w ⟨rfl,ρ,ht.mono (λi hi=>.inl hi) (λ_ _=>rfl),Good.refl hp.st hp.eg⟩
 |o::l,k,tm,s,jO,s',hl,h=>by
  have hk:aE[k]?=some o:=by
   have:=ep (·[0]?) hl;simpa using this.symm
  have jM:l=aE.drop (k+1):=by
   have:=ep (List.drop 1) hl;simpa[mu,Nat.add_comm] using this
  have ho:o∈aE:=KQ hk;have Lo:=kO o ho;rw[AG] at h;have aax:=n4 Lo;cases hw:ir aE tm o.guard with
  |true=>
   rw[hw,gC] at h;obtain⟨⟨v,s1⟩,h1,h2⟩:=aD h;simp only[Tm.put_eq] at h2;obtain⟨Cb,mG⟩:=Jl hE hC h1;obtain⟨Cw,V9⟩:=Jo hE hC aE kO l (k+1) _ _ jM h2;refine⟨Cb.trans Cw,λX A ρ w a Q hp hg ht hQ=>?_⟩;rw[cY,wP];unfold wpOps;(have hko:(⟨aE⟩:Array Oper)[k]?=some o:=by simpa using hk);simp only[hko];rw[AF (A:=A) (ρ:=ρ) (tm:=tm) ht.1 (λp hp d hd=>n4 (kO p hp) d hd) (λj want _ d _=>ht.2 d),hw];simp only[if_true]
   left
   have Om:pq P X A ρ s s1 w:=⟨hp.lt,hp.eg,λb hb=>hp.cU b (Cw.cU b hb),hp.st⟩;refine Oper.wp_mono (λa1 w1 Hd=>?_) (mG X A ρ w a Q Om hg λx hx=>CD (BA Lo x hx) hg λt _=>ht.2 t);obtain⟨v',rfl,Ca,hv,rq⟩:=Hd;(have Lp:∀i,A i->Ca i=ρ i:=λi hi=>rq.same i (by have:=hp.lt i hi;omega));have ht1:On (dv A s.next s1.next) Ca N (tm.ij o.dst v) (a.put o.dst v'):=(ht.mono (λi hi=>.inl hi) Lp).put hv aax;(refine V9 X (dv A s.next s1.next) Ca w1 _ Q ⟨dv.lt hp.lt Cb.next,rq.eg,hp.cU,rq.state⟩ (hg.mono (λi hi=>.inl hi) Lp) ht1 λa2 w2 He=>hQ a2 w2 ?_);obtain⟨hd,FL,ht2,ad8⟩:=He;refine⟨hd.trans (u7 _ _ _),FL,ht2.mono (λi hi=>dv.join Cb.next Cw.next hi) (λ_ _=>rfl),Good.trans hp.cU Cb Cw hp.lt rq ad8⟩
  |false=>
   rw[hw,eL] at h;simp only[Tm.put_eq] at h;obtain⟨Cw,V9⟩:=Jo hE hC aE kO l (k+1) _ _ jM h;refine⟨Cw,λX A ρ w a Q hp hg ht hQ=>?_⟩;rw[cY,wP];unfold wpOps;(have hko:(⟨aE⟩:Array Oper)[k]?=some o:=by simpa using hk);simp only[hko];rw[AF (A:=A) (ρ:=ρ) (tm:=tm) ht.1 (λp hp d hd=>n4 (kO p hp) d hd) (λj want _ d _=>ht.2 d),hw];simp only[jY,pB];(refine V9 X A ρ w _ Q hp hg (ht.put VR.undef aax) λa2 w2 He=>hQ a2 w2 ?_);exact⟨He.1.trans (u7 _ _ _),He.2⟩
variable {aE:Array Oper}{Q:Exit->Act->World->Prop}{a0:Act}
def AH (aE:Array Oper):Bool:=
 Region.noSelect aE&&(List.range aE.size).all λj=>match aE[j]? with
  |none=>true
  |some oj=>(match oj.guard with
    |none=>true
    |some (g,_)=>oj.after.any λe=>Region.binds .any e&&e.on== g)&&(oj.after.all λe=>!Region.binds .any e||decide (e.on<j))&&
   (List.range j).all λi=>match aE[i]? with
    |none=>true
    |some oi=>(oj.after.any λe=>Region.binds .any e&&e.on== i)||oi.apart aE oj
def ij (aE:Array Oper)(a0:Act)(has:Nat->Bool)(vals:Nat->Value):Nat->Act
 |0=>a0
 |k+1=>if has k then(ij aE a0 has vals k).put ((aE[k]?).bind (·.dst)) (vals k) else ij aE a0 has vals k
theorem Wa (a:Act)(d:Option Tmp)(v:Value):(a.put d v).tmps.size=a.tmps.size:=by cases d<;>simp[Act.put]
theorem oU (aE:Array Oper)(a0:Act)(has:Nat->Bool)(vals:Nat->Value)(k:Nat):(ij aE a0 has vals k).tmps.size=a0.tmps.size:=by
 induction k with
 |zero=>rfl
 |succ k ih=>unfold ij;split<;>simp[Wa,ih]
theorem Hf (aE:Array Oper)(a0:Act){has has':Nat->Bool}{vals vals':Nat->Value}(k:Nat)(h:∀j,j<k->has j=has' j)(hv:∀j,j<k->has j=true->vals j=vals' j):ij aE a0 has vals k=ij aE a0 has' vals' k:=by
 induction k with
 |zero=>rfl
 |succ k ih=>
  unfold ij;rw[ih (λj hj=>h j ag) (λj hj=>hv j ag),<-h k ag];split
  .rename_i hk;rw[hv k ag hk]
  .rfl
theorem aay (aE:Array Oper)(a0:Act){has:Nat->Bool}{vals:Nat->Value}{i:Nat}(v:Value)(hi:has i=false)(n:Nat)(hn:i<n)
  (hd:∀j,i<j->j<n->has j=true->∀d,(aE[i]?).bind (·.dst)=some d->(aE[j]?).bind (·.dst)≠some d):
  ij aE a0 (λj=>if j=i then true else has j) (λj=>if j=i then v else vals j) n=(ij aE a0 has vals n).put ((aE[i]?).bind (·.dst)) v:=by
 induction n with
 |zero=>omega
 |succ n ih=>
  unfold ij;rcases lA i n with h|h
  .rw[ih h (λj h1 h2=>hd j h1 ag)];have fY:n≠i:=by omega
   simp only[fY,pB];split
   .rename_i hk;rw[Act.put_comm _ _ _ (hd n h ag hk)]
   .rfl
  .have:n=i:=by omega
   subst this;simp only[if_true,hi,jY,pB];rw[Hf aE a0 n (has':=has) (vals':=vals) (λj hj=>by
      have:j≠n:=by omega
      simp[this]) (λj hj _=>by
           have:j≠n:=by omega
           simp[this])]
theorem F9 {a b:Act}(d:Option Tmp)(v:Value)(x:Operand)(hs:a.tmps.size=b.tmps.size)(h:a.eval x=b.eval x):(a.put d v).eval x=(b.put d v).eval x:=by
 cases d with
 |none=>exact h
 |some d=>
  cases x with
  |tmp t=>
   simp only[Act.eval,Act.put,QM,adS] at h⊢;by_cases ru:d=t
   .subst ru;simp only[if_true,hs]
   .simp only[if_neg ru];exact h
  |_=>rfl
theorem Wb (aE:Array Oper)(a0:Act){has:Nat->Bool}{vals:Nat->Value}(i:Nat)(x:Operand)(n:Nat)
  (h1:∀j,j<i->has j=false->∀d,(aE[j]?).bind (·.dst)=some d->x≠ .tmp d)
  (h2:∀j,i<=j->has j=true->∀d,(aE[j]?).bind (·.dst)=some d->x≠ .tmp d):
  (ij aE a0 has vals n).eval x=(ij aE a0 (λ_=>true) vals (min n i)).eval x:=by
 induction n with
 |zero=>simp[ij]
 |succ n ih=>
  rcases lA n i with h|h
  .rw[As ag] at ih;rw[As ag];unfold ij;simp only[if_true];by_cases hh:has n=true
   .rw[if_pos hh];exact F9 _ _ _ (by rw[oU,oU]) ih
   .rw[if_neg hh,Act.eval_put (h1 n h (by simpa using hh))];exact ih
  .rw[Nat.min_eq_right ag] at ih;rw[Nat.min_eq_right ag]
   conv=>lhs;unfold ij
   by_cases hh:has n=true
   .rw[if_pos hh,Act.eval_put (h2 n h hh)];exact ih
   .rw[if_neg hh];exact ih
theorem y0 {a b:Act}{d:Option Tmp}{v v':Value}(hs:a.tmps.size=b.tmps.size)(h:b.put d v=b.put d v'):a.put d v=a.put d v':=by
 cases d with
 |none=>rfl
 |some d=>
  simp only[Act.put] at h⊢;by_cases hd:d<b.tmps.size
  .have h3:=ep (λc=>c.tmps[d]?) h;simp[hd] at h3;rw[h3]
  .have e:∀u:Value,a.tmps.setIfInBounds d u=a.tmps:=λu=>Array.setIfInBounds_eq_of_size_le (by rw[hs];exact Nat.le_of_not_lt hd)
   rw[e,e]
theorem agX {P:Program}{o:Oper}{a b:Act}{u:World}{R:Value->World->Prop}{Q:Exit->Act->World->Prop}(hs:a.tmps.size=b.tmps.size)(he:execOp a.eval o=execOp b.eval o)
  (h:o.wp P b u (λb' w'=>∃v,b'=b.put o.dst v/\R v w') (λ_ _ _=>False)):o.wp P a u (λa' w'=>∃v,a'=a.put o.dst v/\R v w') Q:=by
 unfold Oper.wp at *
 rw[he];generalize(execOp b.eval o).run P u=r at *
 cases r with
 |ok n w'=>
  cases n with
  |value v=>obtain⟨v',h1,h2⟩:=h;exact⟨v',y0 hs h1,h2⟩
  |skip=>obtain⟨v',h1,h2⟩:=h;exact⟨v',y0 hs h1,h2⟩
  |defer d=>
   obtain⟨v',h1,_⟩:=h;have:=ep (λa=>a.defers.length) h1;cases hd:o.dst<;>simp[Act.put,hd] at this
  |enter f args=>
   refine Calls.mono h λe w'' he=>?_
   cases e with
   |returned v=>obtain⟨v',h1,h2⟩:=he;exact⟨v',y0 hs h1,h2⟩
   |panicked c=>exact he.elim
   |outgrown=>obtain⟨_,_,hf⟩:=he;exact hf.elim
  |row f args=>exact Rows.mono h λv w'' ⟨v',h1,h2⟩=>⟨v',y0 hs h1,h2⟩
  |_=>exact h.elim
 |halt x w'=>
  cases x with
  |panic v=>exact h.elim
  |_=>exact h.elim
theorem Hg {α:Type}{p q:α->Bool}:∀{L:List α},(∀x,q x=true->p x=true)->(∃x∈L,p x=true/\q x=false)->L.countP q<L.countP p
 |[],_,⟨x,hx,_⟩=>by simp at hx
 |y::L,h,⟨x,hx,hp,hq⟩=>by
  have hle:L.countP q<=L.countP p:=List.countP_mono_left λx _=>h x
  simp only[iH];rcases bT.1 hx with rfl|hx
  .simp[hp,hq];omega
  .have:=Hg (L:=L) h ⟨x,hx,hp,hq⟩;by_cases hy:q y=true
   .simp[hy,h y hy];omega
   .simp[hy];split<;>omega
theorem BB {aE:Array Oper}(h:AH aE=true):Region.noSelect aE=true/\∀j oj,aE[j]?=some oj->
  (∀e∈oj.after,Region.binds .any e=true->e.on<j)/\
  (∀i oi,i<j->aE[i]?=some oi->(∃e∈oj.after,Region.binds .any e=true/\e.on=i)\/oi.apart aE oj=true)/\
  (∀g b,oj.guard=some (g,b)->∃e∈oj.after,Region.binds .any e=true/\e.on=g):=by
 unfold AH at h;rw[bO] at h;refine⟨h.1,λj oj hj=>?_⟩;have dG:j<aE.size:=(xp.1 hj).1;have h2:=(gA.1 h.2) j (lX.2 dG);simp only[hj,bO] at h2;obtain⟨⟨hg,ha⟩,hw⟩:=h2;refine⟨λe he hb=>?_,λi oi nD hi=>?_,λg b hgb=>?_⟩
 .have:=Array.all_eq_true_iff_forall_mem.1 ha e he;simpa[hb] using this
 .have:=(gA.1 hw) i (lX.2 nD);simp only[hi,mf] at this;rcases this with h|h
  .obtain⟨e,he,hb⟩:=Array.any_eq_true'.1 h;simp only[bO,Ap] at hb;exact .inl ⟨e,he,hb.1,hb.2⟩
  .exact .inr h
 .rw[hgb] at hg;obtain⟨e,he,hb⟩:=Array.any_eq_true'.1 hg;simp only[bO,Ap] at hb;exact⟨e,he,hb.1,hb.2⟩
theorem Lq {a b:Array Value}{d:Nat}(hs:a.size=b.size)(h:a.getD d undef=b.getD d undef):a[d]?=b[d]?:=by
 rcases lA d a.size with h1|h1
 .have h2:d<b.size:=by omega
  rw[QN h1,QN h2];simpa[h1,h2] using h
 .rw[Array.getElem?_eq_none h1,Array.getElem?_eq_none ag]
def tH (aE:Array Oper)(L:Nat->Bool):Prop:=∀j oj,aE[j]?=some oj->L j=true->∀e∈oj.after,Region.binds .any e=true->L e.on=true
def gQ {α:Type}(L:Nat->α)(i:Nat)(x:α):Nat->α:=λj=>if j=i then x else L j
theorem S5 (fm:AH aE=true)(Inv:(Nat->Bool)->(Nat->Value)->World->Prop)
  (pF:∀(L:Nat->Bool)(vals:Nat->Value)(w:World)(i:Nat)(o:Oper),aE[i]?=some o->L i=false->(∀e∈o.after,Region.binds .any e=true->L e.on=true)->tH aE L->(∀j,L j=true->j<aE.size)->Inv L vals w->
    (Region.wanted o (yielded aE (ij aE a0 (λ_=>true) vals i).tmps)=true->o.wp P (ij aE a0 (λ_=>true) vals i) w (λa' w'=>∃v,a'=(ij aE a0 (λ_=>true) vals i).put o.dst v/\Inv (gQ L i true) (gQ vals i v) w') (λ_ _ _=>False))/\
    (Region.wanted o (yielded aE (ij aE a0 (λ_=>true) vals i).tmps)=false->Inv (gQ L i true) (gQ vals i undef) w))
  (ad9:∀(L:Nat->Bool)(vals:Nat->Value)(w:World),(∀i,i<aE.size->L i=true)->Inv L vals w->Q .normal (ij aE a0 (λ_=>true) vals aE.size) w):
  ∀(fuel:Nat)(cq:Array Bool)(vals:Nat->Value)(u:World),cq.size=aE.size->tH aE (λi=>cq.getD i false)->Inv (λi=>cq.getD i false) vals u->
   (List.range aE.size).countP (λi=>!cq.getD i false)<=fuel->
   wpAny P .any aE Q fuel cq (ij aE a0 (λi=>cq.getD i false) vals aE.size) u:=by
 obtain⟨uG,Ds⟩:=BB fm;have done:∀(cq:Array Bool)(vals:Nat->Value)(u:World),Inv (λi=>cq.getD i false) vals u->(∀i,i<aE.size->cq.getD i false=true)->
                                     Q .normal (ij aE a0 (λi=>cq.getD i false) vals aE.size) u:=λcq vals u hI bV=>by
  rw[Hf aE a0 (has':=λ_=>true) (vals':=vals) aE.size (λj hj=>bV j hj) (λ_ _ _=>rfl)];exact ad9 _ vals u bV hI
 have OZ:∀(cq:Array Bool)(i:Nat),i<cq.size->cq.getD i true=cq.getD i false:=λcq i hi=>by simp[hi]
 have u3:∀(cq:Array Bool),cq.size=aE.size->∀k,cq.getD k false=true->k<aE.size:=λcq hs k hk=>by
  rcases lA k cq.size with h|h
  .omega
  .simp[Array.getElem?_eq_none h] at hk
 intro fuel;induction fuel with
 |zero=>
  intro cq vals u jd uV hI hc;have bV:∀i,i<aE.size->cq.getD i false=true:=λi hi=>by
   (have h0:(List.range aE.size).countP (λi=>!cq.getD i false)=0:=by omega);have:=uM.1 h0 i (lX.2 hi);simpa using this
  refine⟨?_,done cq vals u hI bV⟩;cases hr:Region.ready .any aE cq with
  |nil=>rfl
  |cons x xs=>
   (have hx:x∈Region.ready .any aE cq:=by rw[hr];simp);obtain⟨h0,o,ho,_⟩:=mem_ready.1 hx;have dG:x<aE.size:=(xp.1 ho).1;have h1:=bV x dG;rw[OZ cq x ag] at h0;rw[h0] at h1;cases h1
 |succ fuel ih=>
  intro cq vals u jd uV hI hc;refine⟨λhr=>done cq vals u hI ?_,λi hi=>?_⟩
  .intro i;induction i using Nat.strongRecOn with
   |ind i ihi=>
    intro dG;cases hl:cq.getD i false with
    |true=>rfl
    |false=>
     have hm:i∈Region.ready .any aE cq:=by
      rw[mem_ready];refine⟨by rw[OZ cq i ag];exact hl,aE[i],QN dG,λe he hbd=>?_⟩;have h1:=(Ds i _ (QN dG)).1 e he hbd;exact ihi e.on h1 ag
     rw[hr] at hm;cases hm
  .obtain⟨h0,o,ho,u9⟩:=mem_ready.1 hi;have dG:i<aE.size:=(xp.1 ho).1;have CE:cq.getD i false=false:=by rw[<-OZ cq i ag];exact h0
   obtain⟨akh,agY,akL⟩:=Ds i o ho;have iK:=pF (λi=>cq.getD i false) vals u i o ho CE u9 uV (u3 cq jd) hI;have akM:=Region.noSelect_spec uG;have Lr:∀d,d∈o.looksAt aE->(ij aE a0 (λi=>cq.getD i false) vals aE.size).eval (.tmp d)=(ij aE a0 (λ_=>true) vals i).eval (.tmp d):=λd0 hd0=>by
    have key:=Wb aE a0 (has:=λi=>cq.getD i false) (vals:=vals) i (.tmp d0) aE.size ?_ ?_
    .rw[Nat.min_eq_right ag] at key;exact key
    .intro j hj hju d hd Jb;cases y1:aE[j]? with
     |none=>simp[y1] at hd
     |some oj=>
      simp only[y1,Bi] at hd;rcases agY j oj hj y1 with⟨e,he,hbd,Vn⟩|KD
      .have:=u9 e he hbd;rw[Vn] at this;rw[this] at hju;cases hju
      .refine(Oper.apart_spec KD).1 d hd ?_;cases Jb
       exact hd0
    .intro j hj hju d hd Jb;have fY:j≠i:=λe=>by rw[e,CE] at hju;cases hju
     cases y1:aE[j]? with
     |none=>simp[y1] at hd
     |some oj=>
      simp only[y1,Bi] at hd;rcases(Ds j oj y1).2.1 i o ag ho with⟨e,he,hbd,Vn⟩|KD
      .have:cq.getD e.on false=true:=uV j oj y1 hju e he hbd;rw[Vn,CE] at this;cases this
      .refine(Oper.apart_spec KD).2.2 d hd ?_;cases Jb
       exact hd0
   have he:execOp (ij aE a0 (λi=>cq.getD i false) vals aE.size).eval o=execOp (ij aE a0 (λ_=>true) vals i).eval o:=by
    refine execOp_congr o (λcs b=>akM i o cs b ho) λx hx=>?_
    cases x with
    |tmp t=>exact Lr t (cT _ (List.mem_filterMap.2 ⟨.tmp t,by simpa using hx,rfl⟩))
    |_=>rfl
   have Wc:Region.wanted o (yielded aE (ij aE a0 (λi=>cq.getD i false) vals aE.size).tmps)=Region.wanted o (yielded aE (ij aE a0 (λ_=>true) vals i).tmps):=by
    unfold Region.wanted;cases hg:o.guard with
    |none=>rfl
    |some p=>
     obtain⟨g,b⟩:=p;simp only
     congr 1
     unfold yielded;cases hd:(aE[g]?).bind (·.dst) with
     |none=>rfl
     |some d=>
      have h1:=Lr d (by
       unfold Oper.looksAt;refine dE _ ?_;rw[hg];simp only[hd];simp)
      simp only[Bi];have akN:(ij aE a0 (λi=>cq.getD i false) vals aE.size).tmps.size=(ij aE a0 (λ_=>true) vals i).tmps.size:=by rw[oU,oU]
      have h2:(ij aE a0 (λi=>cq.getD i false) vals aE.size).tmps[d]?=(ij aE a0 (λ_=>true) vals i).tmps[d]?:=by
       exact Lq akN h1
      rw[h2]
   have fN:∀j,(cq.setIfInBounds i true).getD j false=if j=i then true else cq.getD j false:=λj=>by
    by_cases uH:j=i
    .subst uH;simp[jd,dG]
    .simp only[uH,pB];exact getD_set_ne false (Ne.symm uH)
   have aea:gQ (λj=>cq.getD j false) i true=λj=>(cq.setIfInBounds i true).getD j false:=funext λj=>(fN j).symm
   have aaz:∀v,ij aE a0 (λj=>(cq.setIfInBounds i true).getD j false) (gQ vals i v) aE.size=(ij aE a0 (λi=>cq.getD i false) vals aE.size).put o.dst v:=λv=>by
    have hli:=aay aE a0 (has:=λi=>cq.getD i false) (vals:=vals) (i:=i) v CE aE.size dG (λj nD hjn Z9 d hd=>by
     simp only[ho,Bi] at hd;cases y1:aE[j]? with
     |none=>simp
     |some oj=>
      simp only[Bi];rcases(Ds j oj y1).2.1 i o nD ho with⟨e,he,hbd,Vn⟩|KD
      .have:cq.getD e.on false=true:=uV j oj y1 Z9 e he hbd;rw[Vn,CE] at this;cases this
      .exact(Oper.apart_spec KD).2.1 d hd)
    simp only[ho,Bi] at hli;rw[<-hli,<-aea];rfl
   have agZ:tH aE (λj=>(cq.setIfInBounds i true).getD j false):=λj oj y1 hj e he hbd=>by
    show(cq.setIfInBounds i true).getD e.on false=true;rw[fN];by_cases Vn:e.on=i
    .simp[Vn]
    .rw[if_neg Vn];by_cases uH:j=i
     .subst uH;rw[ho] at y1;cases y1;exact u9 e he hbd
     .have S6:(cq.setIfInBounds i true).getD j false=true:=hj;rw[fN,if_neg uH] at S6;exact uV j oj y1 S6 e he hbd
   have Jp:(List.range aE.size).countP (λj=>!(cq.setIfInBounds i true).getD j false)<=fuel:=by
    have:=Hg (p:=λi=>!cq.getD i false) (q:=λj=>!(cq.setIfInBounds i true).getD j false) (L:=List.range aE.size) (λx hx=>by
     rw[fN] at hx;by_cases hxi:x=i
     .simp[hxi] at hx
     .simpa[hxi] using hx) ⟨i,lX.2 dG,by simp only[CE];rfl,by simp only[fN,if_true];rfl⟩
    omega
   unfold wpOp;simp only[ho];rw[Wc];by_cases hw:Region.wanted o (yielded aE (ij aE a0 (λ_=>true) vals i).tmps)=true
   .rw[if_pos hw];refine .inl ?_;refine Oper.wp_mono (λa' w' ⟨v,ha,hI'⟩=>?_) (agX (Q:=Q) (by rw[oU,oU]) he (iK.1 hw));subst ha;rw[<-aaz v];rw[aea] at hI';exact ih _ _ w' (by simpa using jd) agZ hI' Jp
   .rw[if_neg hw];rw[<-aaz undef];have hI':=iK.2 (by simpa using hw);rw[aea] at hI';exact ih _ _ u (by simpa using jd) agZ hI' Jp
theorem Ga {id:Nat}{W:World}(hm:P.follows .mixedOrders=true)(fm:AH aE=true)(Inv:(Nat->Bool)->(Nat->Value)->World->Prop)
  (pF:∀(L:Nat->Bool)(vals:Nat->Value)(w:World)(i:Nat)(o:Oper),aE[i]?=some o->L i=false->(∀e∈o.after,Region.binds .any e=true->L e.on=true)->tH aE L->(∀j,L j=true->j<aE.size)->Inv L vals w->
    (Region.wanted o (yielded aE (ij aE a0 (λ_=>true) vals i).tmps)=true->o.wp P (ij aE a0 (λ_=>true) vals i) w (λa' w'=>∃v,a'=(ij aE a0 (λ_=>true) vals i).put o.dst v/\Inv (gQ L i true) (gQ vals i v) w') (λ_ _ _=>False))/\
    (Region.wanted o (yielded aE (ij aE a0 (λ_=>true) vals i).tmps)=false->Inv (gQ L i true) (gQ vals i undef) w))
  (ad9:∀(L:Nat->Bool)(vals:Nat->Value)(w:World),(∀i,i<aE.size->L i=true)->Inv L vals w->Q .normal (ij aE a0 (λ_=>true) vals aE.size) w)
  (h0:Inv (λ_=>false) (λ_=>undef) W.drew):(Code.region id aE true).wp P Q a0 W:=by
 refine wp_region_any hm ?_;have vO:∀i,(Array.replicate aE.size false).getD i false=false:=λi=>by by_cases h:i<aE.size<;>simp[h]
 have hf:(λi=>(Array.replicate aE.size false).getD i false)=λ_=>false:=funext vO
 have:=S5 fm Inv pF ad9 aE.size (Array.replicate aE.size false) (λ_=>undef) W.drew ay (by rw[hf];intro j oj _ h;cases h) (by rw[hf];exact h0) (by
  refine gK (GF) ay)
 have hlz:∀k,ij aE a0 (λi=>(Array.replicate aE.size false).getD i false) (λ_=>undef) k=a0:=λk=>by
  induction k with
  |zero=>rfl
  |succ k ih=>
   unfold ij;rw[if_neg (by rw[vO];decide),ih]
 rw[hlz] at this;exact this
section
variable {aE:List Oper}
theorem Dt (cU:Array Nat):∀(es:List Edge)(m:Nat)(i:Nat),(es.foldl (λs e=>if Region.binds .any e then s||| 2^ e.on||| cU.getD e.on 0 else s) m).testBit i=true->
  m.testBit i=true\/∃e∈es,Region.binds .any e=true/\(i=e.on\/(cU.getD e.on 0).testBit i=true)
 |[],m,i,h=>.inl h
 |e::es,m,i,h=>by
  rw[wH] at h;rcases Dt cU es _ i h with h1|⟨e',he,hb,h2⟩
  .split at h1
   .rename_i hb;simp only[Nat.testBit_or,mf] at h1;rcases h1 with(h1|h1)|h1
    .exact .inl h1
    .rw[Nat.testBit_two_pow] at h1;exact .inr ⟨e,ay,hb,.inl (Bj h1).symm⟩
    .exact .inr ⟨e,ay,hb,.inr h1⟩
   .exact .inl h1
  .exact .inr ⟨e',by simp[he],hb,h2⟩
def anc (aE:List Oper)(j k:Nat):Prop:=∀L:Nat->Bool,tH ⟨aE⟩ L->(∀oj,aE[j]?=some oj->∀e∈oj.after,Region.binds .any e=true->L e.on=true)->L k=true
theorem BC (dG:∀j oj,aE[j]?=some oj->∀e∈oj.after,Region.binds .any e=true->e.on<j)(L:Nat->Bool)(hL:tH ⟨aE⟩ L):∀(l:List Oper)(cU:Array Nat),(∃pre,aE=pre++l/\pre.length=cU.size)->
  (∀j oj,j<cU.size->aE[j]?=some oj->(∀e∈oj.after,Region.binds .any e=true->L e.on=true)->∀i,(cU.getD j 0).testBit i=true->L i=true)->
  ∀j oj,aE[j]?=some oj->(∀e∈oj.after,Region.binds .any e=true->L e.on=true)->∀i,((l.foldl (λcU o=>cU.push (o.after.foldl (λs e=>if Region.binds .any e then s||| 2^ e.on||| cU.getD e.on 0 else s) 0)) cU).getD j 0).testBit i=true->L i=true
 |[],cU,⟨pre,h1,h2⟩,kR,j,oj,hj,ha,i,hi=>by
  simp only[gg] at h1;subst h1;have F0:j<cU.size:=by rw[<-h2];exact(te.1 hj).1
  exact kR j oj F0 hj ha i hi
 |o::l,cU,⟨pre,h1,h2⟩,kR,j,oj,hj,ha,i,hi=>by
  rw[wH] at hi;refine BC dG L hL l _ ⟨pre++[o],by rw[h1];simp,by simp[h2]⟩ (λj' Oo hj' aeb ha' i' fF=>?_) j oj hj ha i hi;have ho:aE[cU.size]?=some o:=by rw[h1,<-h2];simp
  rcases lA j' cU.size with F0|hge
  .have:(cU.push (o.after.foldl (λs e=>if Region.binds .any e then s||| 2^ e.on||| cU.getD e.on 0 else s) 0)).getD j' 0=cU.getD j' 0:=by
    simp[Array.getElem?_push,Nat.ne_of_lt F0]
   rw[this] at fF;exact kR j' Oo F0 aeb ha' i' fF
  .have S6:j'=cU.size:=by simp at hj';omega
   subst S6;rw[ho] at aeb;cases aeb;have:(cU.push (o.after.foldl (λs e=>if Region.binds .any e then s||| 2^ e.on||| cU.getD e.on 0 else s) 0)).getD cU.size 0=o.after.foldl (λs e=>if Region.binds .any e then s||| 2^ e.on||| cU.getD e.on 0 else s) 0:=by
    simp
   rw[this,<-Array.foldl_toList] at fF;rcases Dt cU _ _ _ fF with h3|⟨e,he,hb,h3⟩
   .simp at h3
   .have he':e∈o.after:=by simpa using he
    rcases h3 with rfl|h3
    .exact ha' e he' hb
    .have Vn:=dG _ _ ho e he' hb;have hoe:∃oe,aE[e.on]?=some oe:=by
      (have:e.on<aE.length:=by rw[h1];simp;omega);exact⟨aE[e.on],bd this⟩
     obtain⟨oe,hoe⟩:=hoe;exact kR e.on oe Vn hoe (λe2 he2 Vo=>hL e.on oe (by simpa using hoe) (ha' e he' hb) e2 he2 Vo) i' h3
theorem xF (dG:∀j oj,aE[j]?=some oj->∀e∈oj.after,Region.binds .any e=true->e.on<j){j i:Nat}{oj:Oper}(hj:aE[j]?=some oj)(h:((Region.before ⟨aE⟩).getD j 0).testBit i=true):anc aE j i:=by
 intro L hL ha;refine BC dG L hL aE #[] ⟨[],rfl,rfl⟩ (λj oj h=>by simp at h) j oj hj (ha oj hj) i ?_;have:(Region.before ⟨aE⟩)=aE.foldl (λcU o=>cU.push (o.after.foldl (λs e=>if Region.binds .any e then s||| 2^ e.on||| cU.getD e.on 0 else s) 0)) #[]:=by
  unfold Region.before;rw[<-Array.foldl_toList]
 rw[this] at h;exact h
theorem Hh {j k i:Nat}(hk:anc aE j k)(hi:anc aE k i):anc aE j i:=λL hL ha=>
 hi L hL λok fm e he hb=>hL k ok (by simpa using fm) (hk L hL ha) e he hb
theorem O0 {j:Nat}{oj:Oper}(hj:aE[j]?=some oj){e:Edge}(he:e∈oj.after)(hb:Region.binds .any e=true):anc aE j e.on:=λL _ ha=>ha oj hj e he hb
theorem Wd (dG:∀j oj,aE[j]?=some oj->∀e∈oj.after,Region.binds .any e=true->e.on<j){j k:Nat}(h:anc aE j k):k<j:=by
 have:=h (λi=>decide (i<j)) (λi oi hoi hi e he hb=>by
  have h1:=dG i oi (by simpa using hoi) e he hb;simp at hi⊢;omega) (λoj hj e he hb=>by simpa using dG j oj hj e he hb)
 simpa using this
end
structure pG (E:ig)(call:eX)(aE:List Oper)(j n:Nat)(TM:Nat->Tm)(S:Nat->St)(V:Nat->Value)(S':Nat->St):Prop where
 step:∀i o,j<=i->i<n->aE[i]?=some o->TM (i+1)=(TM i).ij o.dst (V i)/\S (i+1)=eJ (S' i)/\
  ((ir aE (TM i) o.guard=true/\FK E call (aO (TM i)) (S i) o.op=some (V i,S' i))\/(ir aE (TM i) o.guard=false/\V i= .tuple ⟨[]⟩/\S' i=S i))
 clear:∀i,j<=i->i<=n->(S i).cU=0/\(S i).wr=0
 apart:∀i k,j<=i->i<k->k<n->((Region.before ⟨aE⟩).getD k 0).testBit i=true\/((∀b,¬(In (S' i).wr b/\In (S' k).cU b))/\(∀b,¬(In (S' i).cU b/\In (S' k).wr b)))
theorem Hi {a b:Nat}(h:Nat.beq (Nat.land a b) 0=true)(i:Nat):¬(In a i/\In b i):=by
 have h1:(a&&& b)=0:=nR h;rintro⟨h2,h3⟩;have:(a&&& b).testBit i=true:=by rw[Nat.testBit_and,h2,h3];rfl
 rw[h1] at this;simp at this
theorem Hj {b a r:Nat}:∀{l:List Seen},Ax b a r l=true->∀x∈l,b.testBit x.i=true\/((∀c,¬(In x.wr c/\In a c))/\(∀c,¬(In x.cU c/\In r c)))
 |[],_,x,hx=>by cases hx
 |y::l,h,x,hx=>by
  have h':bo (bo (Nat.beq (Nat.land y.wr a) 0) (Nat.beq (Nat.land y.cU r) 0) false||Nat.testBit b y.i) (Ax b a r l) false=true:=h;rw[dW] at h';split at h'
  .rename_i hc;rcases bT.1 hx with rfl|hx
   .rw[mf,dW] at hc;rcases hc with hc|hc
    .split at hc
     .rename_i h1;exact .inr ⟨Hi h1,Hi hc⟩
     .cases hc
    .exact .inl hc
   .exact Hj h' x hx
  .cases h'
theorem xG (aE:List Oper)(o:Oper)(l:List Oper)(j:Nat)(tm:Tm)(s:St)(seen:List Seen):uS E call aE (o::l) j tm s seen=bo (ir aE tm o.guard) (ob (FK E call (aO tm) (eJ s) o.op) λp=>match p with
        |(v,s')=>uR aE j s s' seen λs seen=>tm.put o.dst v λtm=>uS E call aE l (Nat.succ j) tm s seen)
   (tm.put o.dst (.tuple ⟨[]⟩) λtm=>uS E call aE l (Nat.succ j) tm s seen):=rfl
theorem jP (s:St):eJ s=⟨s.heap,s.next,0,0⟩:=by cases s;rfl
theorem rv (b:Nat):¬In 0 b:=by simp[In]
def ag0 (E:ig)(call:eX)(aE:List Oper)(j n:Nat)(tm:Tm)(s:St)(seen:List Seen)(jO:Tm)(s':St):Prop:=
    ∃TM S V S',pG E call aE j (n) TM S V S'/\TM j=tm/\S j=eJ s/\TM (n)=jO/\S (n)=eJ s'/\
     (∀i,j<=i->i<n->(∀b,In (S' i).cU b->In s'.cU b)/\(∀b,In (S' i).wr b->In s'.wr b))/\(∀b,In s.cU b->In s'.cU b)/\(∀b,In s.wr b->In s'.wr b)/\
     (∀b,In s'.cU b->In s.cU b\/∃i,j<=i/\i<n/\In (S' i).cU b)/\(∀b,In s'.wr b->In s.wr b\/∃i,j<=i/\i<n/\In (S' i).wr b)/\
     (∀i,j<=i->i<n->∀x∈seen,((Region.before ⟨aE⟩).getD i 0).testBit x.i=true\/((∀b,¬(In x.wr b/\In (S' i).cU b))/\(∀b,¬(In x.cU b/\In (S' i).wr b))))
theorem Du (hE:c8 E P)(hC:dP P call)(aE:List Oper):∀(l:List Oper)(j:Nat)(tm:Tm)(s:St)(seen:List Seen){jO:Tm}{s':St},l=aE.drop j->uS E call aE l j tm s seen=some (jO,s')->
  ag0 E call aE j (j+l.length) tm s seen jO s'
 |[],j,tm,s,seen,jO,s',hl,h=>by
  have:=ke h;simp only[cH] at this;obtain⟨rfl,rfl⟩:=this;refine⟨λ_=>tm,λ_=>eJ s,λ_=>undef,λ_=>eJ s,⟨λi o h1 h2=>by simp at h2;omega,λi h1 h2=>by rw[jP];exact⟨rfl,rfl⟩,λi k h1 h2 h3=>by simp at h3;omega⟩,rfl,rfl,rfl,rfl,λi h1 h2=>by simp at h2;omega,λ_ h=>h,λ_ h=>h,λ_ h=>.inl h,λ_ h=>.inl h,λi h1 h2=>by simp at h2;omega⟩
 |o::l,j,tm,s,seen,jO,s',hl,h=>by
  have hk:aE[j]?=some o:=by
   have:=ep (·[0]?) hl;simpa using this.symm
  have jM:l=aE.drop (j+1):=by
   have:=ep (List.drop 1) hl;simpa[mu,Nat.add_comm] using this
  rw[xG] at h;have glue:∀(v:Value)(s1:St)(s2:St)(Ls:List Seen),uS E call aE l (j+1) (tm.ij o.dst v) s2 Ls=some (jO,s')->eJ s2=eJ s1->
                       ((ir aE tm o.guard=true/\FK E call (aO tm) (eJ s) o.op=some (v,s1))\/(ir aE tm o.guard=false/\v= .tuple ⟨[]⟩/\s1=eJ s))->
                       (∀b,In s1.cU b->In s2.cU b)->(∀b,In s1.wr b->In s2.wr b)->(∀b,In s.cU b->In s2.cU b)->(∀b,In s.wr b->In s2.wr b)->(∀b,In s2.cU b->In s.cU b\/In s1.cU b)->(∀b,In s2.wr b->In s.wr b\/In s1.wr b)->
                       (∀x∈seen,x∈Ls)->((∃x∈Ls,x.i=j/\x.cU=s1.cU/\x.wr=s1.wr)\/((∀b,¬In s1.cU b)/\∀b,¬In s1.wr b))->
                       (∀x∈seen,((Region.before ⟨aE⟩).getD j 0).testBit x.i=true\/((∀b,¬(In x.wr b/\In s1.cU b))/\(∀b,¬(In x.cU b/\In s1.wr b))))->ag0 E call aE j (j+(o::l).length) tm s seen jO s':=by
   intro v s1 s2 Ls hd hc pF ha1 Oq ha2 SS ha3 hw3 Re y3 akO;obtain⟨TM,S,V,S',dS,e1,e2,e3,e4,jn,hA,hW,hA2,hW2,hsn⟩:=Du hE hC aE l (j+1) (tm.ij o.dst v) s2 Ls jM hd;(have cX:j+(o::l).length=j+1+l.length:=by simp;omega);rw[cX];refine⟨λi=>if i=j then tm else TM i,λi=>if i=j then eJ s else S i,λi=>if i=j then v else V i,λi=>if i=j then s1 else S' i,⟨λi oi h1 h2 hoi=>?_,λi h1 h2=>?_,λi k h1 h2 h3=>?_⟩,?_,?_,?_,?_,λi h1 h2=>?_,λb hb=>hA b (ha2 b hb),λb hb=>hW b (SS b hb),λb hb=>?_,λb hb=>?_,λi h1 h2 x hx=>?_⟩
   .by_cases nD:i=j
    .subst nD;rw[hk] at hoi;cases hoi;simp only[if_true,show ¬i+1=i by omega,pB];refine⟨e1,?_,?_⟩
     .rw[e2];exact hc
     .exact pF
    .simp only[nD,pB,show ¬i+1=j by omega];exact dS.step i oi ag h2 hoi
   .by_cases nD:i=j
    .subst nD;rw[if_pos rfl,jP];exact⟨rfl,rfl⟩
    .simp only[nD,pB];exact dS.clear i ag h2
   .have S7:¬k=j:=by omega
    simp only[S7,pB];by_cases nD:i=j
    .subst nD;simp only[if_true];rcases y3 with⟨x,hx,hxi,hxa,hxw⟩|⟨q1,q2⟩
     .have:=hsn k ag h3 x hx;rw[hxi,hxa,hxw] at this;exact this
     .exact .inr ⟨λb hb=>q2 b hb.1,λb hb=>q1 b hb.1⟩
    .simp only[nD,pB];exact dS.apart i k ag h2 h3
   .simp
   .simp
   .simp only[show ¬j+1+l.length=j by omega,pB];exact e3
   .simp only[show ¬j+1+l.length=j by omega,pB];exact e4
   .by_cases nD:i=j
    .simp only[nD,if_true];exact⟨λb hb=>hA b (ha1 b hb),λb hb=>hW b (Oq b hb)⟩
    .simp only[nD,pB];exact jn i ag h2
   .rcases hA2 b hb with h4|⟨i,h5,h6,h7⟩
    .rcases ha3 b h4 with h4|h4
     .exact .inl h4
     .exact .inr ⟨j,cG _,ag,by simpa using h4⟩
    .exact .inr ⟨i,ag,h6,by simpa[show ¬i=j by omega] using h7⟩
   .rcases hW2 b hb with h4|⟨i,h5,h6,h7⟩
    .rcases hw3 b h4 with h4|h4
     .exact .inl h4
     .exact .inr ⟨j,cG _,ag,by simpa using h4⟩
    .exact .inr ⟨i,ag,h6,by simpa[show ¬i=j by omega] using h7⟩
   .by_cases nD:i=j
    .subst nD;simp only[if_true];exact akO x hx
    .simp only[nD,pB];exact hsn i ag h2 x (Re x hx)
  cases hw:ir aE tm o.guard with
  |true=>
   rw[hw,gC] at h;obtain⟨⟨v,s1⟩,h1,h2⟩:=aD h;obtain⟨Cb,_⟩:=Jl (o:=o) hE hC h1;have ag1:∀b,In s1.wr b->In s1.cU b:=Cb.sub (λb hb=>by rw[jP] at hb;exact absurd hb (rv b));obtain⟨h0,n0,a0,r0⟩:=s;obtain⟨hh,nn,aa,rr⟩:=s1;simp only[uR,Tm.put_eq] at h2;cases hz:Nat.beq aa 0 with
   |true=>
    rw[hz,gC] at h2;have haa:aa=0:=nR hz;subst haa;(have SV:∀b,¬In rr b:=λb hb=>rv b (ag1 b hb));exact glue v ⟨hh,nn,0,rr⟩ ⟨hh,nn,a0,r0⟩ seen h2 rfl (.inl ⟨hw,h1⟩) (λb hb=>absurd hb (rv b)) (λb hb=>absurd hb (SV b)) (λb hb=>hb) (λb hb=>hb) (λb hb=>.inl hb) (λb hb=>.inl hb) (λx hx=>hx) (.inr ⟨rv,SV⟩) (λx hx=>.inr ⟨λb hb=>rv b hb.2,λb hb=>SV b hb.2⟩)
   |false=>
    rw[hz,eL] at h2;obtain⟨h3,h4⟩:=I5 h2;simp only[QZ] at h4;refine glue v ⟨hh,nn,aa,rr⟩ ⟨hh,nn,a0||| aa,r0||| rr⟩ (⟨j,aa,rr⟩::seen) h4 rfl (.inl ⟨hw,h1⟩) (λb hb=>(rP _ _ _).2 (.inr hb)) (λb hb=>(rP _ _ _).2 (.inr hb)) (λb hb=>(rP _ _ _).2 (.inl hb)) (λb hb=>(rP _ _ _).2 (.inl hb)) (λb hb=>(rP _ _ _).1 hb) (λb hb=>(rP _ _ _).1 hb) (λx hx=>jA _ hx) (.inl ⟨⟨j,aa,rr⟩,ay,rfl,rfl,rfl⟩) (Hj h3)
  |false=>
   rw[hw,eL] at h;simp only[Tm.put_eq] at h;(have hca:∀b,¬In (eJ s).cU b:=λb=>by rw[jP];exact rv b);(have hcw:∀b,¬In (eJ s).wr b:=λb=>by rw[jP];exact rv b);exact glue _ (eJ s) s seen h (by simp[jP]) (.inr ⟨hw,rfl,rfl⟩) (λb hb=>absurd hb (hca b)) (λb hb=>absurd hb (hcw b)) (λb hb=>hb) (λb hb=>hb) (λb hb=>.inl hb) (λb hb=>.inl hb) (λx hx=>hx) (.inr ⟨hca,hcw⟩) (λx hx=>.inr ⟨λb hb=>hca b hb.2,λb hb=>hcw b hb.2⟩)
end Go.Ev
