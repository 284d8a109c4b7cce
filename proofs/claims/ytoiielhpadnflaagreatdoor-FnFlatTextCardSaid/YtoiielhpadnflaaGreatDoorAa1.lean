/- Lemmas of the proof. No conditions. -/
import GoSem.Step
import Derived.Control
import Derived.KernelRfl
import Derived.Lib.Builder
import Derived.Laws.CopyRow
import Derived.Laws.Rows
import Derived.Laws.Tables
import Derived.Lib.SmallJoins
import Derived.Great.FillDense
import Derived.Laws.MakeOwn
import Derived.Laws.BytesString
import Derived.Lib.UnsafeStr
import Derived.Orders
set_option maxRecDepth 100000
set_option maxHeartbeats 4000000
set_option linter.unusedVariables false
set_option linter.unusedSimpArgs false
namespace Go
variable{P:Prop}
theorem zag (h:P:=by
 have h1:Nat.mul (Nat.sub cap dS) sz=(cap-dS)*sz:=rfl;have h2:Nat.add o (Nat.mul len sz)=o+len*sz:=rfl;cases wd with
 |true=>
  obtain⟨r7,r8,r9,r10⟩:=r5 rfl;rw[oa hE iX] at r8 r9;refine aac (c:=sz) ?_ r9;rw[lU,<-r8];omega
 |false=>
  have h3:sz=1:=nV hw;have h4:=(r6 rfl).2;rw[h3,uz] at h1 h2;rw[h3] at ho cX;simp only[Nat.mul_eq,uz] at ho cX h1 h2;omega
 all_goals(rcases _ with h;exact h)):P:=h
theorem zaR (h:P:=by
 obtain⟨h0,h⟩:=VJ h;rw[jB] at h0;simp only[rG] at h;subst h;have h1:b≠0:=by simpa using h0
 exact⟨by simp[binOp,Op.intDiv,jR,h1],λρ=>by simp⟩
 all_goals(rcases _ with h;exact h)):P:=h
theorem zaS (h:P:=by
 have:=aJ h;simp only[cw] at this;obtain⟨rfl,rfl⟩:=this;exact⟨aH.refl _,λX A ρ w a Q hp gL hx=>wp_pure rfl hp (hx x (by simp[Op.operands]))⟩
 all_goals(rcases _ with h;exact h)):P:=h
theorem za5 (h:P:=by
 obtain⟨x,xs,rfl,hu,VY,SM,VZ⟩:=LR.split h1 h2;rw[tq] at h;obtain⟨b,hb,h3⟩:=aF h;have hk:x.key=p.1:=by rw[<-hu.self,yS hb]
 all_goals(rcases _ with h;exact h)):P:=h
theorem za9 (h:P:=by
 induction n with
 |zero=>intro l;show l=l.drop 0;simp
 |succ n ih=>intro l;cases l with
  |nil=>rfl
  |cons x xs=>exact ih xs
 all_goals(rcases _ with h;exact h)):P:=h
theorem zbg (h:P:=by
 refine⟨l.map (bX ρ),by rw[<-h.self];simp,λeb e=>?_⟩;have:=(h eb e).trans h.self.symm;simpa using this
 all_goals(rcases _ with h;exact h)):P:=h
theorem zbh (h:P:=by
 have gh:∀c o2,s.heap.get c=some o2->c≠s.next:=by
  rintro c o2 h rfl;rw[lS _ (cC _)] at h;cases h
 all_goals(rcases _ with h;exact h)):P:=h
end Go
namespace Go
abbrev aS:=Option Addr
abbrev aY:=List Value
theorem af {P:Prop}(h:P:=by omega):P:=h
theorem cj {P:Prop}(h:P:=by kernel_rfl):P:=h
theorem ay {P:Prop}(h:P:=by simp):P:=h
theorem bT {P:Prop}(h:P:=by decide):P:=h
theorem aP {P:Prop}(h:P:=by assumption):P:=h
abbrev zZ:=@Nat.beq_eq
abbrev Vq:=@Nat.pow_succ
abbrev pQ:=@if_false
abbrev eC:=@congrArg
abbrev iU:=@Option.some.inj
abbrev x_5:=@List.take_succ_cons
abbrev yw:=@List.cons_append
abbrev uI:=@List.length_map
abbrev xg:=@List.map_cons
abbrev Qw:=@List.map_append
abbrev yx:=@List.map_congr_left
abbrev lp:=@List.mem_map
abbrev cC:=@Nat.le_refl
abbrev mh:=@Bool.or_eq_true
abbrev bI:=@Bool.and_eq_true
abbrev bR:=@decide_eq_true_eq
abbrev xh:=@Nat.eq_zero_or_pos
abbrev gu:=@Nat.le_trans
abbrev lq:=@Nat.lt_or_ge
abbrev xi:=@Nat.lt_of_lt_of_le
abbrev uK:=@Array.getElem?_eq_some_iff
abbrev KD:=@Option.ne_none_iff_exists'
abbrev ID:=@List.getElem?_take
abbrev gJ:=@List.append_nil
abbrev kC:=@List.length_nil
abbrev xj:=@Nat.add_zero
abbrev yy:=@List.take_append_drop
abbrev Ab:=@Bool.and_eq_false_iff
abbrev mQ:=@decide_eq_false_iff_not
abbrev cU:=@List.length_cons
abbrev bn:=@List.length_append
abbrev iK:=@Nat.zero_le
abbrev mR:=@Nat.le_of_ble_eq_true
abbrev rG:=@Option.some.injEq
abbrev cw:=@Prod.mk.injEq
abbrev eP:=@List.length_drop
abbrev Ac:=@List.drop_eq_nil_of_le
abbrev pF:=@List.nil_append
abbrev Oh:=@List.drop_append_of_le_length
abbrev yz:=@List.take_append_of_le_length
abbrev Ad:=@List.getElem?_append_right
abbrev wB:=@List.getElem?_append_left
abbrev sV:=@List.getElem?_eq_some_iff
abbrev jN:=@Bool.false_eq_true
abbrev pd:=@Bool.eq_iff_iff
abbrev Sm:=@Nat.succ_le_iff
abbrev pe:=@Nat.ble_eq
abbrev Ae:=@beq_iff_eq
abbrev sW:=@UInt8.toNat_inj
abbrev Sp:=@UInt8.lt_iff_toNat_lt
abbrev aaa:=@BitVec.ofInt_natCast
abbrev aab:=@BitVec.toNat_ofNat
abbrev IE:=@Nat.mod_eq_of_lt
abbrev FF:=@true_and
abbrev Af:=@and_true
abbrev ga:=@List.mem_cons_self
abbrev iV:=@List.mem_cons_of_mem
abbrev Oi:=@Bool.not_true
abbrev IF:=@Bool.not_false
abbrev nV:=@Nat.eq_of_beq_eq_true
abbrev KE:=@Int.natCast_nonneg
abbrev wC:=@Array.ext'
abbrev gb:=@Nat.ble_eq_true_of_le
abbrev Ag:=@Nat.sub_self
abbrev uL:=@Option.map_some
abbrev KF:=@Nat.zero_mul
abbrev aac:=@Nat.le_of_mul_le_mul_right
abbrev lU:=@Nat.add_mul
abbrev uz:=@Nat.mul_one
abbrev Ah:=@List.foldl_cons
abbrev Sq:=@List.ext_getElem?
abbrev wD:=@List.getElem?_map
abbrev Sr:=@List.getElem?_range
abbrev Ss:=@Nat.mod_lt
abbrev qP:=@List.getElem?_eq_none
abbrev FG:=@List.mapM_cons
abbrev Vr:=@Nat.le_mul_of_pos_right
abbrev uM:=@Int.toNat_natCast
abbrev IG:=@List.drop_zero
abbrev wE:=@Nat.mul_le_mul_right
abbrev Oj:=@List.take_take
abbrev yA:=@Nat.min_eq_left
abbrev KG:=@List.getElem?_toArray
abbrev aad:=@List.getElem?_cons_zero
abbrev aae:=@List.getElem?_cons_succ
abbrev mS:=@Nat.zero_add
abbrev iL:=@List.append_assoc
abbrev cO:=@List.length_take
abbrev mj:=@List.eq_nil_of_length_eq_zero
abbrev rT:=@List.take_of_length_le
abbrev B2:=@List.mem_of_mem_take
abbrev eW:=@List.mem_append
abbrev Ol:=@Array.getElem?_modify
abbrev rU:=@Bool.not_eq_true'
abbrev sX:=@List.length_replicate
abbrev uN:=@Bool.true_and
abbrev adV:=@Array.getElem?_setIfInBounds
abbrev qd:=@Option.getD_some
abbrev Vs:=@Array.mem_append
abbrev aaf:=@Array.getElem?_append_left
abbrev Qx:=@Array.getD_eq_getD_getElem?
abbrev CO:=@List.mem_of_getElem?
abbrev Be:=@Option.bind_some
abbrev fT:=@List.all_eq_true
abbrev mA:=@List.drop_drop
abbrev wO:=@List.range'_succ
abbrev iA:=@List.countP_cons
abbrev bH:=@List.mem_cons
abbrev kF:=@List.mem_range
abbrev Qy:=@Array.getElem?_eq_getElem
abbrev uO:=@List.countP_eq_zero
abbrev cA:=@List.mem_append_left
abbrev dt:=@List.mem_append_right
abbrev Gq:=@List.countP_le_length
abbrev Bf:=@of_decide_eq_true
abbrev bc:=@List.getElem?_eq_getElem
abbrev rV:=@Nat.le_of_lt
abbrev CP:=@Nat.lt_trichotomy
abbrev js:=@List.flatMap_cons
abbrev nN:=@List.sublist_append_right
abbrev KH:=@List.Sublist.append
abbrev Gs:=@List.Sublist.refl
abbrev a7:=@List.getD_eq_getElem?_getD
abbrev uP:=@List.nodup_append
abbrev px:=@List.mem_flatMap
abbrev uh:=@List.singleton_append
abbrev yB:=@List.nodup_cons
abbrev KI:=@List.take_append
abbrev wP:=@List.getElem?_drop
abbrev ja:=@Nat.beq_refl
abbrev KJ:=@Bool.and_true
abbrev KK:=@Bool.and_self
abbrev na:=@Bool.not_eq_true
abbrev wQ:=@List.flatMap_append
abbrev fJ:=@List.mem_singleton
abbrev Bg:=@Int.toNat_of_nonneg
abbrev du:=@decide_eq_true
abbrev ec:=@decide_eq_false
abbrev iS:=@List.not_mem_nil
abbrev py:=@List.flatMap_nil
abbrev wR:=@false_or
abbrev jb:=@or_false
abbrev KL:=@not_false_eq_true
abbrev wS:=@List.nodup_nil
abbrev CQ:=@Bool.not_eq_false'
abbrev CR:=@Bool.or_eq_false_iff
abbrev Gt:=@Bool.not_eq_eq_eq_not
abbrev Bh:=@Bool.not_eq_false
abbrev fU:=@List.take_length
abbrev ui:=@List.take_add_one
abbrev uQ:=@List.drop_eq_getElem_cons
abbrev Vt:=@Int.tdiv_eq_ediv_of_nonneg
abbrev Gu:=@List.all_append
abbrev Gv:=@List.all_eq_false
abbrev kG:=@List.drop_length
abbrev yC:=@Int.eq_ofNat_of_zero_le
abbrev Gw:=@Bool.or_eq_true_iff
abbrev CS:=@List.map_nil
abbrev Gx:=@List.any_eq_true
abbrev qe:=@List.findIdx?_eq_some_iff_getElem
abbrev CT:=@List.findIdx?_eq_none_iff
abbrev jO:=@List.getElem_of_mem
abbrev nO:=@List.length_pos_iff
abbrev yD:=@Int.le_refl
abbrev uj:=@List.filter_cons
abbrev rW:=@List.mem_filter
abbrev Qz:=@List.getElem_replicate
abbrev lV:=@Option.isSome_iff_exists
abbrev qW:=@List.filter_append
abbrev pz:=@List.Perm.append_left
abbrev oK:=@List.perm_append_comm_assoc
abbrev Vu:=@List.replicate_append_replicate
abbrev KM:=@List.filter_eq_self
abbrev Gy:=@List.filter_sublist
abbrev Vv:=@List.getElem?_take_of_lt
abbrev rX:=@List.getElem_mem
abbrev gy:=@List.length_set
abbrev Gz:=@List.mem_or_eq_of_mem_set
abbrev CU:=@List.Perm.append_right
abbrev GA:=@Nat.mul_comm
abbrev CV:=@Nat.lt_irrefl
abbrev jP:=@List.pairwise_cons
abbrev Bi:=@List.getD_cons_succ
abbrev uk:=@List.pairwise_iff_getElem
abbrev CW:=@decide_eq_decide
abbrev Bj:=@List.range_succ
abbrev Bk:=@List.countP_append
abbrev nP:=@Classical.byContradiction
abbrev Vw:=@List.mem_erase_of_ne
abbrev KN:=@List.length_pos_of_mem
abbrev Vx:=@List.length_erase_of_mem
abbrev CX:=@List.nodup_iff_pairwise_ne
abbrev CY:=@List.pairwise_map
abbrev GB:=@List.countP_congr
abbrev iB:=@Bool.false_ne_true
abbrev QA:=@List.pairwise_singleton
abbrev Vy:=@List.Pairwise.nil
abbrev KP:=@List.countP_nil
abbrev Bl:=@Bool.false_and
abbrev Bm:=@List.length_filter_le
abbrev Bn:=@List.length_singleton
abbrev QB:=@List.length_reverse
abbrev KQ:=@List.getD_cons_zero
abbrev Bo:=@List.findIdx?_cons
abbrev KR:=@List.sum_append
abbrev Bp:=@List.sum_cons
abbrev GC:=@List.countP_pos_iff
abbrev Vz:=@List.getElem?_replicate
abbrev QC:=@Nat.lt_succ_iff_lt_or_eq
abbrev QD:=@List.length_range
abbrev GD:=@List.forIn_cons
abbrev Bq:=@getElem!_pos
end Go
namespace Go.Ev
open Go
section
inductive T (α:Type) where
 |nil
 |node (v:Option α) (l r:T α)
noncomputable section
def bo {α:Type}(b:Bool)(x y:α):α:=Bool.rec y x b
def ob {α β:Type}(o:Option α)(k:α->Option β):Option β:=Option.rec none k o
def dN {β:Type}(b:Bool)(k:Option β):Option β:=Bool.rec none k b
def T.get {α:Type}(t:T α):Nat->Option α:=
 T.rec (λ_=>none) (λv _ _ gl gr n=>bo (Nat.beq n (nat_lit 0)) v (bo (Nat.beq (Nat.mod n (nat_lit 2)) (nat_lit 1)) (gl (Nat.div n (nat_lit 2))) (gr (Nat.pred (Nat.div n (nat_lit 2)))))) t
def T.now {α β:Type}(t:T α)(k:T α->β):β:=T.rec (k .nil) (λv l r _ _=>k (.node v l r)) t
def T.agB {α:Type}(ih:T α->Nat->T α)(v:Option α)(l r:T α)(n:Nat)(x:Option α):T α:=
 bo (Nat.beq n (nat_lit 0)) (.node x l r) (bo (Nat.beq (Nat.mod n (nat_lit 2)) (nat_lit 1)) ((ih l (Nat.div n (nat_lit 2))).now λl=>.node v l r) ((ih r (Nat.pred (Nat.div n (nat_lit 2)))).now λr=>.node v l r))
def T.set {α:Type}(d:Nat)(t:T α)(n:Nat)(x:Option α):T α:=
 Nat.rec (λt _=>t) (λ_ ih t n=>T.rec (T.agB ih none .nil .nil n x) (λv l r _ _=>T.agB ih v l r n x) t) d t n
def xk {β:Type}(n:Nat)(k:Nat->β):β:=Nat.rec (k (nat_lit 0)) (λm _=>k (Nat.succ m)) n
def adW {β:Type}(n:Int)(k:Int->β):β:=Int.rec (λm=>xk m λm=>k (.ofNat m)) (λm=>xk m λm=>k (.negSucc m)) n
def agC {β:Type}(b:Bool)(k:Bool->β):β:=Bool.rec (k false) (k true) b
def aag {β:Type}(a:aS)(k:aS->β):β:=match a with
 |none=>k none
 |some ⟨b,o,s⟩=>xk b λb=>xk o λo=>k (some ⟨b,o,s⟩)
def adX {β:Type}(a:aS)(l c:Nat)(k:Value->β):β:=aag a λa=>xk l λl=>xk c λc=>k (.slice a l c)
def VA {β:Type}(v:Value)(k:Value->β):β:=match v with
 |.bool b=>agC b λb=>k (.bool b)
 |.int j n=>adW n λn=>k (.int j n)
 |.pointer a=>aag a λa=>k (.pointer a)
 |.slice a l c=>adX a l c k
 |.agg ⟨cs⟩=>k (.agg ⟨cs⟩)
 |.tuple ⟨cs⟩=>k (.tuple ⟨cs⟩)
 |.string ⟨⟨cs⟩⟩=>k (.string ⟨⟨cs⟩⟩)
 |v=>k v
inductive gv where
 |cells (c:aY) (elem:TypeId) (wide:Bool)
 |map (es:List (Value×Value))
 |lL (z:List UInt8) (p:Nat)
 |um (m:Nat)
 |nW (ws:List (Nat×aY))
structure St where
 heap:T gv
 next:Nat
 cV:Nat
 wr:Nat
def dS:Nat:=9223372036854775808
def bit (b:Nat):Nat:=Nat.shiftLeft (nat_lit 1) b
def St.look (s:St)(b:Nat):Option gv:=s.heap.get b
def St.aU (s:St)(b:Nat):St:=match s with
 |⟨h,n,a,r⟩=>xk (Nat.lor a (bit b)) λa=>⟨h,n,a,r⟩
def St.put (s:St)(b:Nat)(o:Option gv):St:=match s with
 |⟨h,n,a,r⟩=>(h.set (Nat.succ b) b o).now λh=>xk (Nat.lor a (bit b)) λa=>xk (Nat.lor r (bit b)) λr=>⟨h,n,a,r⟩
def St.new (s:St)(o:gv):St:=match s with
 |⟨h,n,a,r⟩=>(h.set (Nat.succ n) n (some o)).now λh=>xk (Nat.lor a (bit n)) λa=>xk (Nat.lor r (bit n)) λr=>xk (Nat.succ n) λn=>⟨h,n,a,r⟩
def cellsOf (o:gv):Option (aY×TypeId×Bool):=match o with
 |.cells c e w=>some (c,e,w)
 |_=>none
def mapOf (o:gv):Option (List (Value×Value)):=match o with
 |.map es=>some es
 |_=>none
def St.row {β:Type}(s:St)(b:Nat)(k:aY->TypeId->Bool->St->Option β):Option β:=
 ob (s.look b) λo=>match o with
  |.cells c e w=>k c e w (s.aU b)
  |_=>none
def Br:List (Nat×aY)->Nat->Option (Nat×aY)
 |[],_=>none
 |p::l,off=>bo (Nat.ble p.1 off&&Nat.ble (Nat.succ (Nat.sub off p.1)) p.2.length) (some p) (Br l off)
def St.IH {β:Type}(s:St)(b off:Nat)(k:aY->Nat->St->Option β):Option β:=
 ob (s.look b) λo=>match o with
  |.cells c _ _=>k c off (s.aU b)
  |.nW ws=>ob (Br ws off) λp=>k p.2 (Nat.sub off p.1) (s.aU b)
  |_=>none
structure iq where
 fn:T Func
 ty:T TypeInfo
 CZ:TypeId
 eqs:List (TypeId×List Nat)
 rY:List (TypeId×String×FuncId)
variable (E:iq)
def ml (t:TypeId)(m:String)(l:List (TypeId×String×FuncId)):Option FuncId:=List.rec none (λp _ ih=>bo (Nat.beq p.1 t&&decide (p.2.1=m)) (some p.2.2) ih) l
def agD (i:TypeInfo):Option TypeDesc:=match i.desc with
 |.named _ u=>ob (E.ty.get u) λi=>some i.desc
 |d=>some d
def gX (t:TypeId):Option TypeDesc:=ob (E.ty.get t) (agD E)
def size (t:TypeId):Option Nat:=ob (E.ty.get t) λi=>some i.size
def xl (d:TypeDesc):Bool:=match d with
 |.struct _=>true
 |.array .. =>true
 |_=>false
def zero (t:TypeId):Option Value:=ob (E.ty.get t) (·.zero)
def ie (n:Nat):aY->Option (aY):=
 Nat.rec (λ_=>some []) (λ_ ih l=>match l with
  |[]=>none
  |x::xs=>ob (ih xs) λr=>some (x::r)) n
def gg (n:Nat):aY->aY:=Nat.rec (λl=>l) (λ_ ih l=>match l with
    |[]=>[]
    |_::xs=>ih xs) n
def nb (vs:aY):aY->Option (aY):=
 List.rec (λl=>some l) (λv _ ih l=>match l with
  |[]=>none
  |_::xs=>ob (ih xs) λr=>some (v::r)) vs
def eF (n:Nat)(vs:aY):aY->Option (aY):=
 Nat.rec (nb vs) (λ_ ih l=>match l with
  |[]=>none
  |x::xs=>ob (ih xs) λr=>some (x::r)) n
def flat (v:Value):Bool:=match v with
 |.agg _=>false
 |.tuple _=>false
 |_=>true
def ku (l:aY):Bool:=List.rec true (λv _ ih=>bo (flat v) ih false) l
def dX {α:Type}(l:List α):Nat:=List.rec (nat_lit 0) (λ_ _ ih=>Nat.succ ih) l
def jc {α:Type}(l:List α):Nat->Option α:=List.rec (λ_=>none) (λx _ ih n=>Nat.rec (some x) (λm _=>ih m) n) l
def bZ (v:Value):aY:=match v with
 |.agg ⟨cs⟩=>cs
 |v=>[v]
def lM (s:St)(t:TypeId)(b off:Nat):Option (Value×St):=
 s.IH b off λc off s=>ob (gX E t) λd=>bo (xl d)
   (ob (size E t) λn=>ob (ie n (gg off c)) λcs=>some (.agg ⟨cs⟩,s))
   (ob (jc c off) λv=>some (v,s))
def nc (s:St)(t:TypeId)(b off:Nat)(v:Value):Option (Value×St):=
 s.row b λc e w s=>ob (size E t) λn=>dN (Nat.beq (dX (bZ v)) n)<| dN (ku (bZ v))<|
   ob (eF off (bZ v) c) λcs=>some (.tuple ⟨[]⟩,s.put b (some (.cells cs e w)))
def Fv {β:Type}(v:Value)(k:Nat->Nat->Option β):Option β:=match v with
 |.pointer (some ⟨b,o,none⟩)=>k b o
 |_=>none
def Vb (x y:Int):Bool:=match x,y with
 |.ofNat a,.ofNat b=>Nat.ble (Nat.succ a) b
 |.ofNat _,.negSucc _=>false
 |.negSucc _,.ofNat _=>true
 |.negSucc a,.negSucc b=>Nat.ble (Nat.succ b) a
def yE (x y:Int):Bool:=match x,y with
 |.ofNat a,.ofNat b=>Nat.beq a b
 |.negSucc a,.negSucc b=>Nat.beq a b
 |_,_=>false
def half (k:IntKind):Nat:=match k with
 |.i8=>128|.u8=>128
 |.i16=>32768|.u16=>32768
 |.i32=>2147483648|.u32=>2147483648
 |.i64=>9223372036854775808|.u64=>9223372036854775808
def qf (k:IntKind)(n:Int):Int:=match n with
 |.ofNat m=>bo (Nat.ble (Nat.succ m) (half k)) (.ofNat m) (k.wrap (.ofNat m))
 |.negSucc m=>k.wrap (.negSucc m)
def acC (k:IntKind):Nat:=match k with
 |.i8=>nat_lit 0|.u8=>nat_lit 1|.i16=>nat_lit 2|.u16=>nat_lit 3|.i32=>nat_lit 4|.u32=>nat_lit 5|.i64=>nat_lit 6|.u64=>nat_lit 7
def qg (k j:IntKind):Bool:=Nat.beq (acC k) (acC j)
def gz (x:List UInt8):List UInt8->Bool:=List.rec (λy=>match y with
    |[]=>true
    |_::_=>false) (λa _ ih y=>match y with
    |[]=>false
    |b::y=>bo (Nat.beq a.toNat b.toNat) (ih y) false) x
def oD (x:List UInt8):List UInt8->Bool:=List.rec (λy=>match y with
    |[]=>false
    |_::_=>true) (λa _ ih y=>match y with
    |[]=>false
    |b::y=>bo (Nat.ble (Nat.succ a.toNat) b.toNat) true (bo (Nat.beq a.toNat b.toNat) (ih y) false)) x
def Z2 (d:TypeDesc)(x y:Value):Option Bool:=match d,x,y with
 |.bool,.bool a,.bool b=>some (a== b)
 |.pointer _,.pointer none,.pointer b=>some (Option.isNone b)
 |.pointer _,.pointer (some _),.pointer none=>some false
 |.pointer t,.pointer (some ⟨b,o,none⟩),.pointer (some ⟨b',o',none⟩)=>ob (size E t) λ_=>dN (Nat.beq b b'&&Nat.beq o o') (some true)
 |.slice _,.slice none _ _,.slice b _ _=>some (Option.isNone b)
 |.slice _,.slice (some _) _ _,.slice none _ _=>some false
 |.func ..,.nilFunc,.nilFunc=>some true
 |.func ..,.nilFunc,.func .. =>some false
 |.func ..,.func ..,.nilFunc=>some false
 |_,_,_=>none
def aM {β:Type}(v:Value)(s:β):Option (Value×β):=some (v,s)
def agE (k:IntKind)(a b:Int):Option Value:=match k,a,b with
 |.u8,.ofNat a,.ofNat b=>dN (Nat.ble (Nat.succ a) (nat_lit 256)&&Nat.ble (Nat.succ b) (nat_lit 256)) (some (.int .u8 (.ofNat (Nat.xor a b))))
 |.i64,.ofNat a,.ofNat b=>dN (Nat.ble (Nat.succ a) (nat_lit 4611686018427387904)&&Nat.ble (Nat.succ b) (nat_lit 4611686018427387904)) (some (.int .i64 (.ofNat (Nat.xor a b))))
 |_,_,_=>none
def KS (op:BinOp)(k:IntKind)(a b:Int):Option Value:=match op with
 |.add=>some (.int k (qf k (Int.add a b)))
 |.sub=>some (.int k (qf k (Int.sub a b)))
 |.mul=>some (.int k (qf k (Int.mul a b)))
 |.quo=>bo (yE b (.ofNat (nat_lit 0))) none (some (.int k (qf k (a.tdiv b))))
 |.rem=>bo (yE b (.ofNat (nat_lit 0))) none (some (.int k (a.tmod b)))
 |.eql=>some (.bool (yE a b))
 |.neq=>some (.bool !(yE a b))
 |.lss=>some (.bool (Vb a b))
 |.leq=>some (.bool !(Vb b a))
 |.gtr=>some (.bool (Vb b a))
 |.geq=>some (.bool !(Vb a b))
 |.xor=>agE k a b
 |_=>none
def VB (op:BinOp)(a b:List UInt8):Option Value:=match op with
 |.add=>dN (Nat.ble (Nat.add (dX a) (dX b)) (nat_lit 1000000000)) (some (.string ⟨⟨a++b⟩⟩))
 |.eql=>some (.bool (gz a b))
 |.neq=>some (.bool !(gz a b))
 |.lss=>some (.bool (oD a b))
 |.geq=>some (.bool !(oD a b))
 |.gtr=>some (.bool !(bo (oD a b) true (gz a b)))
 |.leq=>some (.bool (bo (oD a b) true (gz a b)))
 |_=>none
def Ai (op:BinOp)(r:Option Bool):Option Value:=match op with
 |.eql=>ob r λb=>some (.bool b)
 |.neq=>ob r λb=>some (.bool !b)
 |_=>none
def lP (x y:Value):Option Bool:=match x,y with
 |.int .i64 a,.int .i64 b=>some (yE a b)
 |.string ⟨⟨a⟩⟩,.string ⟨⟨b⟩⟩=>some (gz a b)
 |.bool a,.bool b=>some (bo a b (!b))
 |_,_=>none
def fP (xs:aY):aY->Option Bool:=List.rec (λys=>match ys with
    |[]=>some true
    |_::_=>none) (λx _ ih ys=>match ys with
    |[]=>none
    |y::ys=>ob (lP x y) λe=>ob (ih ys) λr=>some (bo e r false)) xs
def yF (v:Value):Nat:=match v with
 |.int .i64 _=>nat_lit 0
 |.string _=>nat_lit 1
 |.bool _=>nat_lit 2
 |_=>nat_lit 3
def eV (xs:aY):List Nat->Bool:=List.rec (λks=>match ks with
    |[]=>true
    |_::_=>false) (λv _ ih ks=>match ks with
    |[]=>false
    |k::ks=>bo (Nat.beq (yF v) k) (bo (Nat.ble k (nat_lit 2)) (ih ks) false) false) xs
def yG (t:TypeId)(xs:aY)(l:List (TypeId×List Nat)):Bool:=List.rec false (λp _ ih=>bo (bo (Nat.beq t p.1) (eV xs p.2) false) true ih) l
def isC (x:Operand):Bool:=match x with
 |.const _=>true
 |_=>false
def isIface (d:TypeDesc):Bool:=match d with
 |.interface _=>true
 |_=>false
def C0 (a b:Nat):Nat:=bo (Nat.ble a b) a b
def GF (k:IntKind):Nat:=match k with
 |.i8=>nat_lit 8|.u8=>nat_lit 8|.i16=>nat_lit 16|.u16=>nat_lit 16|.i32=>nat_lit 32|.u32=>nat_lit 32|.i64=>nat_lit 64|.u64=>nat_lit 64
def adY (op:BinOp):Bool:=match op with
 |.shl=>true
 |.shr=>true
 |_=>false
def shV (op:BinOp)(k:IntKind)(a b:Int):Option Value:=match op,a,b with
 |.shr,.ofNat a,.ofNat b=>some (.int k (.ofNat (Nat.shiftRight a (C0 b (GF k)))))
 |.shl,.ofNat a,.ofNat b=>some (.int k (qf k (.ofNat (Nat.shiftLeft a (C0 b (GF k))))))
 |_,_,_=>none
def Su (op:BinOp)(t:TypeId)(c:Bool)(x y:Value):Option Value:=match x,y with
 |.int k a,.int k' b=>bo (adY op) (shV op k a b) (bo (qg k k') (KS op k a b) none)
 |.string ⟨⟨a⟩⟩,.string ⟨⟨b⟩⟩=>VB op a b
 |.nilIface,.nilIface=>dN c<| ob (gX E t) λd=>dN (isIface d)<| Ai op (some true)
 |.agg ⟨xs⟩,.agg ⟨ys⟩=>dN (yG t xs E.eqs)<| Ai op (fP xs ys)
 |x,y=>ob (gX E t) λd=>Ai op (Z2 E d x y)
def pG (v:Value)(y:Nat):Option Nat:=match v with
 |.int _ (.ofNat i)=>bo (Nat.ble i y) (some i) none
 |_=>none
def hiV (len m:Nat)(hi mx:Option Value):Option Nat:=match hi,mx with
 |some v,_=>pG v m
 |none,none=>some len
 |none,some _=>none
def Sv (v:Option Value)(y z:Nat):Option Nat:=match v with
 |some v=>pG v y
 |none=>some z
def bounds {β:Type}(len cap:Nat)(lo hi mx:Option Value)(k:Nat->Nat->Nat->Option β):Option β:=
 ob (Sv mx cap cap) λm=>ob (hiV len m hi mx) λh=>ob (Sv lo h (nat_lit 0)) λl=>k l h m
def VC {α:Type}(n:Nat):List α->List α:=Nat.rec (λ_=>[]) (λ_ ih l=>match l with
    |[]=>[]
    |x::xs=>x::ih xs) n
def VD {α:Type}(n:Nat):List α->List α:=Nat.rec (λl=>l) (λ_ ih l=>match l with
    |[]=>[]
    |_::xs=>ih xs) n
def rZ (a:aS)(n:Nat):aS:=match a with
 |none=>none
 |some ⟨b,o,s⟩=>bo (Nat.beq n (nat_lit 0)) (some ⟨b,o,s⟩) (some ⟨b,Nat.add o n,none⟩)
def aah {α:Type}(o:Option α):Bool:=match o with
 |none=>true
 |some _=>false
def C1 (z:List UInt8)(lo hi mx:Option Value):Option Value:=
 dN (aah mx)<| bounds (dX z) (dX z) lo hi none λl h _=>some (.string ⟨⟨VC (Nat.sub h l) (VD l z)⟩⟩)
def eh (sz:Nat)(a:aS)(len cap:Nat)(lo hi mx:Option Value):Option Value:=
 bounds len cap lo hi mx λl h m=>some (.slice (bo (Nat.beq m l) a (rZ a (Nat.mul l sz))) (Nat.sub h l) (Nat.sub m l))
def iC (elem:TypeId)(sz:Nat)(a:aS)(len cap:Nat)(lo hi mx:Option Value)(s:St):Option (Value×St):=match a with
 |some ⟨b,o,none⟩=>s.row b λc e w s=>dN (bo w true (Nat.beq sz (nat_lit 1))&&Nat.beq e elem&&Nat.beq o (Nat.mul (Nat.sub cap dS) sz)&&Nat.ble (Nat.add o (Nat.mul len sz)) (dX c))<| match mx with
  |none=>bounds len len lo hi none λl h _=>bo (Nat.beq l (nat_lit 0)||Nat.ble (Nat.succ l) h) (aM (.slice (some ⟨b,Nat.add o (Nat.mul l sz),none⟩) (Nat.sub h l) (Nat.add cap l)) s) (aM (.slice (some ⟨b,Nat.add o (Nat.mul l sz),some o⟩) (nat_lit 0) (Nat.add cap l)) s)
  |some mx=>dN (Nat.ble (Nat.succ len) dS)<| ob (eh sz (some ⟨b,o,none⟩) len len lo hi (some mx)) λv=>aM v s
 |_=>none
def nX (lo hi mx:Option Value):Bool:=match lo,hi,mx with
 |none,some (.int _ (.ofNat 0)),none=>true
 |_,_,_=>false
def nY (a:aS)(cap:Nat)(s:St):Option (Value×St):=match a with
 |some ⟨b,o,none⟩=>aM (.slice (some ⟨b,o,none⟩) (nat_lit 0) cap) s
 |_=>none
def II (a:aS):Bool:=match a with
 |some ⟨_,_,some _⟩=>false
 |_=>true
def kH (s:St)(t:TypeId)(x:Value)(lo hi mx:Option Value):Option (Value×St):=
 ob (gX E t) λd=>match d,x with
  |.string,.string ⟨⟨z⟩⟩=>ob (C1 z lo hi mx) λv=>aM v s
  |.slice elem,.slice a len cap=>dN (II a)<| ob (size E elem) λsz=>bo (Nat.ble dS cap) (bo (nX lo hi mx) (nY a cap s) (iC elem sz a len cap lo hi mx s)) (ob (eh sz a len cap lo hi mx) λv=>aM v s)
  |.array n elem,.pointer (some ⟨b,o,none⟩)=>ob (size E elem) λsz=>dN (Nat.ble (Nat.succ n) dS)<| ob (eh sz (some ⟨b,o,none⟩) n n lo hi mx) λv=>aM v s
  |_,_=>none
def strCells (l:List UInt8):aY:=List.rec [] (λc _ ih=>.int .u8 (.ofNat c.toNat)::ih) l
def KT {β:Type}(s:St)(sz:Nat)(x:Value)(k:Nat->aY->St->Option β):Option β:=match x with
 |.string ⟨⟨z⟩⟩=>dN (Nat.beq sz (nat_lit 1))<| k (dX z) (strCells z) s
 |.slice none n _=>dN (Nat.beq n (nat_lit 0))<| k (nat_lit 0) [] s
 |.slice (some ⟨b,o,none⟩) n _=>s.row b λc _ _ s=>ob (ie (Nat.mul n sz) (gg o c)) λcs=>k n cs s
 |.slice (some ⟨_,_,some _⟩) n _=>dN (Nat.beq n (nat_lit 0))<| k (nat_lit 0) [] s
 |_=>none
def isInt (d:TypeDesc):Bool:=match d with
 |.int _=>true
 |_=>false
def elemOf {β:Type}(t:Option TypeId)(k:TypeId->Option β):Option β:=ob t λt=>ob (gX E t) λd=>match d with
 |.slice e=>k e
 |_=>none
def bJ (s:St)(len:Nat):Value:=.slice (some ⟨s.next,nat_lit 0,none⟩) len dS
def qh (elem:TypeId)(sz:Nat)(base:aS)(len cap n:Nat)(new:aY)(s:St):Option (Value×St):=match base with
 |none=>dN (Nat.beq len (nat_lit 0)&&Nat.beq cap (nat_lit 0))<| bo (Nat.beq n (nat_lit 0)) (aM (.slice none (nat_lit 0) (nat_lit 0)) s)<| aM (bJ s n) (s.new (.cells new elem true))
 |some ⟨b,o,none⟩=>s.row b λc e w s=>bo (Nat.ble dS cap)
  (dN (w&&Nat.beq e elem&&Nat.beq cap dS&&Nat.beq o (nat_lit 0))<| bo (Nat.beq (dX c) (Nat.mul len sz)) (bo (Nat.beq n (nat_lit 0)) (aM (.slice (some ⟨b,o,none⟩) len cap) s)<|
    (λs:St=>aM (bJ s (Nat.add len n)) (s.new (.cells (c++new) elem true))) (s.put b none))<|
    ob (ie (Nat.mul len sz) c) λold=>(λs:St=>aM (bJ s (Nat.add len n)) (s.new (.cells (old++new) elem true))) (s.put b none))
  (bo (Nat.ble (Nat.add len n) cap)
    (bo (Nat.beq n (nat_lit 0)) (aM (.slice (some ⟨b,o,none⟩) len cap) s)<|
      ob (eF (Nat.add o (Nat.mul len sz)) new c) λcs=>aM (.slice (some ⟨b,o,none⟩) (Nat.add len n) cap) (s.put b (some (.cells cs e w))))
    (ob (ie (Nat.mul len sz) (gg o c)) λold=>aM (bJ s (Nat.add len n)) (s.new (.cells (old++new) elem true))))
 |_=>none
def Cm (s:St)(argTypes:List TypeId)(b x:Value):Option (Value×St):=
 elemOf E (jc argTypes (nat_lit 0)) λelem=>ob (jc argTypes (nat_lit 1)) λxt=>ob (gX E xt) λxd=>dN (!isInt xd)<| ob (E.ty.get elem) λi=>ob i.zero λz=>
  dN (Nat.ble (nat_lit 1) i.size&&Nat.ble i.bytes (nat_lit 1000000)&&Nat.beq (dX (bZ z)) i.size)<|
  KT s i.size x λn new s=>dN (Nat.beq (dX new) (Nat.mul n i.size))<| dN (ku new)<| match b with
   |.slice base len cap=>dN (Nat.ble (Nat.add len n) (nat_lit 1000000))<| qh elem i.size base len cap n new s
   |_=>none
def yH (l:aY):Option (List UInt8):=List.rec (some []) (λv _ ih=>match v with
    |.int .u8 (.ofNat k)=>dN (Nat.ble (Nat.succ k) (nat_lit 256))<| ob ih λr=>some (UInt8.ofNat k::r)
    |_=>none) l
def isByte (d:TypeDesc):Bool:=match d with
 |.int .u8=>true
 |_=>false
def Om (s:St)(a:aS)(n:Nat):Option (Value×St):=match a with
 |none=>aM (.string ⟨⟨[]⟩⟩) s
 |some ⟨b,o,none⟩=>s.row b λc _ _ s=>ob (ie n (gg o c)) λl=>ob (yH l) λbs=>aM (.string ⟨⟨bs⟩⟩) s
 |some ⟨_,_,some _⟩=>dN (Nat.beq n (nat_lit 0))<| aM (.string ⟨⟨[]⟩⟩) s
def qX (s:St)(src dst:TypeId)(x:Value):Option (Value×St):=
 ob (gX E src) λds=>ob (gX E dst) λdd=>match ds,dd,x with
 |.int _,.int k,.int _ n=>aM (.int k (qf k n)) s
 |.slice e,.string,.slice a n _=>ob (gX E e) λd=>dN (isByte d)<| Om s a n
 |.pointer t,.unsafePointer,.pointer (some ⟨b,0,none⟩)=>s.row b λc _ w s=>ob (size E t) λsz=>dN (!w&&Nat.ble (nat_lit 1) (dX c)&&Nat.ble (nat_lit 1) sz)<| aM (.pointer (some ⟨b,0,none⟩)) s
 |.unsafePointer,.pointer u,.pointer (some ⟨b,0,none⟩)=>s.row b λc e w s=>ob (size E u) λ_=>dN (!w&&Nat.beq (dX c) (nat_lit 2)&&Nat.beq e E.CZ&&Nat.beq u E.CZ)<| aM (.pointer (some ⟨b,0,none⟩)) s
 |.string,.slice e,.string ⟨⟨z⟩⟩=>ob (gX E e) λd=>dN (isByte d)<| ob (size E e) λsz=>dN (Nat.beq sz (nat_lit 1)&&Nat.ble (dX z) (nat_lit 1000000))<| aM (bJ s (dX z)) (s.new (.cells (strCells z) e false))
 |.slice _,.slice e,.slice (some ⟨b,o,none⟩) n c=>ob (gX E e) λd=>dN (isByte d&&Nat.beq src dst)<| s.row b λcs e' _ s=>ob (size E e') λsz=>ob (gX E e') λd'=>dN (isByte d'&&Nat.beq sz (nat_lit 1))<| aM (.slice (some ⟨b,o,none⟩) n c) (s.put b (some (.cells cs e' false)))
 |_,_,_=>none
def Sw (t:TypeId)(x:Value):Option Value:=ob (gX E t) λd=>match d,x with
 |.string,.string ⟨⟨z⟩⟩=>some (.int .i64 (.ofNat (dX z)))
 |.slice _,.slice _ n _=>some (.int .i64 (.ofNat n))
 |_,_=>none
def places (fs:List Field):Option (List (Nat×Nat)):=List.rec (some []) (λf _ ih=>ob (size E f.type) λsz=>ob ih λr=>some ((f.offset,sz)::r)) fs
def sY (ev:Operand->Value)(l:List (Nat×Operand)):List (Nat×Value):=List.rec [] (λp _ ih=>(p.1,ev p.2)::ih) l
def sa (bP:Nat->Option (Nat×Nat))(l:List (Nat×Value)):aY->Option (aY):=
 List.rec (λcells=>some cells) (λp _ ih cells=>ob (bP p.1) λq=>dN (Nat.beq (dX (bZ p.2)) q.2)<| ob (eF q.1 (bZ p.2) cells) λcs=>ih cs) l
def lW (zs:aY)(n:Nat):aY:=Nat.rec [] (λ_ ih=>zs++ih) n
def oL (sz:Nat)(i:Nat):Option (Nat×Nat):=some (Nat.mul i sz,sz)
def jQ (x y:Value):Option Bool:=match x,y with
 |.agg ⟨xs⟩,.agg ⟨ys⟩=>fP xs ys
 |.int k a,.int k' b=>dN (qg k k')<| some (yE a b)
 |.string ⟨⟨a⟩⟩,.string ⟨⟨b⟩⟩=>some (gz a b)
 |_,_=>none
def nQ (k:Value)(l:List (Value×Value)):Option (Option Value):=
 List.rec (some none) (λp _ ih=>ob (jQ k p.1) λb=>bo b (some (some p.2)) ih) l
def xm (kt:TypeId)(d:TypeDesc)(k:Value):Bool:=match d,k with
 |.struct _,.agg ⟨cs⟩=>yG kt cs E.eqs
 |.array _ _,.agg ⟨cs⟩=>yG kt cs E.eqs
 |.int _,.int _ _=>true
 |.string,.string _=>true
 |_,_=>false
def Sy (k:Value)(l:List (Value×Value)):Option (List (Value×Value)):=
 List.rec (some []) (λp r ih=>ob (jQ k p.1) λb=>bo b (some r) (ob ih λr=>some (p::r))) l
def On (k v:Value)(l:List (Value×Value)):Option (List (Value×Value)):=
 List.rec (some []) (λp r ih=>ob (jQ k p.1) λb=>bo b (some ((k,v)::r)) (ob ih λr=>some (p::r))) l
def Cn (s:St)(t:TypeId)(b:Nat):Option (Value×St):=ob (gX E t) λd=>match d with
 |.map _ _=>ob (s.look b) λo=>ob (mapOf o) λes=>aM (.int .i64 (.ofNat (dX es))) (s.aU b)
 |_=>none
def agF (t:TypeId)(x:Value)(s:St):Option (Value×St):=ob (gX E t) λd=>match d,x with
 |.slice _,.slice _ _ c=>dN (Nat.ble (Nat.succ c) dS)<| aM (.int .i64 (.ofNat c)) s
 |_,_=>none
def QE (s:St)(argTypes:List TypeId)(m k:Value):Option (Value×St):=ob (jc argTypes (nat_lit 0)) λt=>ob (gX E t) λd=>match d,m with
 |.map kt _,.map (some b)=>ob (gX E kt) λkd=>dN (xm E kt kd k)<| ob (s.look b) λo=>ob (mapOf o) λes=>ob (Sy k es) λes=>aM (.tuple ⟨[]⟩) (s.put b (some (.map es)))
 |_,_=>none
def IJ (s:St)(t:TypeId)(x:Value):Option (Value×St):=ob (gX E t) λd=>match d,x with
 |.string,.string ⟨⟨z⟩⟩=>aM (.pointer (some ⟨s.next,nat_lit 0,none⟩)) (s.new (.lL z (nat_lit 0)))
 |.map _ _,.map (some b)=>ob (s.look b) λo=>ob (mapOf o) λ_=>(λs:St=>aM (.pointer (some ⟨s.next,nat_lit 0,none⟩)) (s.new (.um b))) (s.aU b)
 |_,_=>none
def GG (s:St)(b:Nat)(z:List UInt8)(p:Nat):Option (Value×St):=match jc z p with
 |none=>aM (.tuple ⟨[.bool false]⟩) (s.aU b)
 |some c=>dN (Nat.ble (Nat.succ c.toNat) (nat_lit 128))<| aM (.tuple ⟨[.bool true,.int .i64 (.ofNat p),.int .i32 (.ofNat c.toNat)]⟩) (s.put b (some (.lL z (Nat.succ p))))
def agG (s:St)(b m:Nat):Option (Value×St):=ob (s.look m) λo=>ob (mapOf o) λes=>match es with
 |[]=>aM (.tuple ⟨[.bool false]⟩) ((s.aU b).aU m)
 |_::_=>none
def KU (s:St)(x:Value)(str:Bool):Option (Value×St):=match x with
 |.pointer (some ⟨b,0,none⟩)=>ob (s.look b) λo=>match o with
  |.lL z p=>dN str<| GG s b z p
  |.um m=>dN (!str)<| agG s b m
  |_=>none
 |_=>none
def aai (x y:Value)(s:St):Option (Value×St):=match x,y with
 |.int k a,.int k' b=>dN (qg k k')<| aM (.int k (bo (Vb b a) b a)) s
 |_,_=>none
def aaj (x y:Value)(s:St):Option (Value×St):=match x,y with
 |.int k a,.int k' b=>dN (qg k k')<| aM (.int k (bo (Vb a b) b a)) s
 |_,_=>none
def sZ (x:Value)(s:St):Option (Value×St):=match x with
 |.slice (some ⟨b,0,none⟩) _ cap=>dN (Nat.beq cap dS)<| s.row b λc _ w s=>dN (w&&Nat.ble (nat_lit 1) (dX c))<| aM (.pointer (some ⟨b,0,none⟩)) s
 |_=>none
def Aj (sz:Nat)(b o n k:Nat)(new:aY)(s:St):Option (Value×St):=
 dN (ku new)<| ob (ie (Nat.mul (C0 k n) sz) new) λnew=>s.row b λc e w s=>ob (eF o new c) λcs=>aM (.int .i64 (.ofNat (C0 k n))) (s.put b (some (.cells cs e w)))
def copyV (s:St)(argTypes:List TypeId)(x y:Value):Option (Value×St):=match x with
 |.slice (some ⟨b,o,none⟩) n _=>elemOf E (jc argTypes (nat_lit 0)) λe=>ob (size E e) λsz=>KT s sz y λk new s=>Aj sz b o n k new s
 |_=>none
def oE (ts:List TypeId)(x y:Value)(s:St):Option (Value×St):=match ts,x,y with
 |[pt,_],.pointer (some ⟨b,0,none⟩),.int .i64 (.ofNat n)=>s.row b λc e _ s=>ob (gX E pt) λd=>match d with
  |.pointer e'=>ob (size E e') λsz=>dN (Nat.beq e e'&&Nat.beq sz (nat_lit 1)&&Nat.ble (nat_lit 1) n&&Nat.ble n (nat_lit 1000000))<| ob (ie n c) λl=>ob (yH l) λbs=>aM (.string ⟨⟨bs⟩⟩) (s.put b none)
  |_=>none
 |_,_,_=>none
def Ak (s:St)(argTypes:List TypeId)(x:Value):Option (Value×St):=match x with
 |.slice none _ _=>elemOf E (jc argTypes (nat_lit 0)) λ_=>aM (.tuple ⟨[]⟩) s
 |.slice (some ⟨b,o,q⟩) n _=>elemOf E (jc argTypes (nat_lit 0)) λe=>bo (Nat.beq n (nat_lit 0)) (aM (.tuple ⟨[]⟩) s) (dN (aah q)<| s.row b λc e' w s=>
   ob (size E e) λsz=>ob (zero E e) λz=>dN (Nat.beq (dX (bZ z)) sz&&Nat.ble (nat_lit 1) sz&&ku (bZ z))<| ob (eF o (lW (bZ z) n) c) λcs=>aM (.tuple ⟨[]⟩) (s.put b (some (.cells cs e' w))))
 |_=>none
def sb (s:St)(b:Builtin)(argTypes:List TypeId)(x:Value):Option (Value×St):=match b with
 |.len=>ob (jc argTypes (nat_lit 0)) λt=>match x with
  |.map (some b)=>Cn E s t b
  |x=>ob (Sw E t x) λv=>aM v s
 |.cap=>ob (jc argTypes (nat_lit 0)) λt=>agF E t x s
 |.unsafeSliceData=>sZ x s
 |.clear=>Ak E s argTypes x
 |_=>none
def KV (s:St)(b:Builtin)(argTypes:List TypeId)(x y:Value):Option (Value×St):=match b with
 |.append=>Cm E s argTypes x y
 |.max=>aaj x y s
 |.min=>aai x y s
 |.delete=>QE E s argTypes x y
 |.copy=>copyV E s argTypes x y
 |.unsafeString=>oE E argTypes x y s
 |_=>none
def xn {α β:Type}(f:α->β)(l:List α):List β:=List.rec [] (λx _ ih=>f x::ih) l
def yI (ev:Operand->Value)(s:St)(b:Builtin)(argTypes:List TypeId)(args:List Operand):Option (Value×St):=match args with
 |[x]=>sb E s b argTypes (ev x)
 |[x,y]=>KV E s b argTypes (ev x) (ev y)
 |_=>none
def QF (c:Value)(a b:Value)(s:St):Option (Value×St):=match c with
 |.bool c=>bo c (aM a s) (aM b s)
 |_=>none
def Oo (s:St)(l:aY)(t:TypeId):Option (Value×St):=aM (.pointer (some ⟨s.next,nat_lit 0,none⟩)) (s.new (.cells l t false))
def IK (s:St)(t:TypeId):Option (Value×St):=ob (zero E t) λz=>Oo s (bZ z) t
def IL (ev:Operand->Value)(s:St)(t:TypeId)(parts:List (Nat×Operand)):Option (Value×St):=
 ob (zero E t) λz=>ob (gX E t) λd=>match d with
  |.struct ⟨fs⟩=>ob (places E fs) λpl=>ob (sa (jc pl) (sY ev parts) (bZ z)) λcs=>aM (.agg ⟨cs⟩) s
  |.array _ e=>ob (size E e) λsz=>ob (sa (oL sz) (sY ev parts) (bZ z)) λcs=>aM (.agg ⟨cs⟩) s
  |_=>none
def uR (ev:Operand->Value)(s:St)(t:TypeId)(n:Nat)(parts:List (Nat×Operand)):Option (Value×St):=
 elemOf E (some t) λe=>ob (size E e) λsz=>ob (zero E e) λz=>dN (Nat.beq (dX (bZ z)) sz&&Nat.ble (nat_lit 1) sz&&Nat.ble (Nat.mul n sz) (nat_lit 16777216))<|
  ob (sa (oL sz) (sY ev parts) (lW (bZ z) n)) λcs=>aM (.slice (some ⟨s.next,nat_lit 0,none⟩) n n) (s.new (.cells cs e false))
def adZ (x:Value)(s:St):Option (Value×St):=match x with
 |.pointer (some a)=>aM (.pointer (some a)) s
 |.func (.func f) a b=>aM (.func (.func f) a b) s
 |_=>none
def GH (x:Value)(s:St):Option (Value×St):=match x with
 |.func (.method m) ⟨[.iface t (.pointer (some a))]⟩ c=>ob (ml t m E.rY) λ_=>aM (.func (.method m) ⟨[.iface t (.pointer (some a))]⟩ c) s
 |x=>adZ x s
def Oq (t:TypeId)(x:Value)(s:St):Option (Value×St):=ob (gX E t) λd=>dN (!isIface d)<| aM (.iface t x) s
def unV (op:UnOp)(x:Value)(s:St):Option (Value×St):=match op,x with
 |.not,.bool b=>aM (.bool !b) s
 |_,_=>none
def s7 (s:St)(t:TypeId)(m k:Value)(ok:Bool):Option (Value×St):=
 ob (gX E t) λd=>match d,m with
  |.map kt e,.map (some b)=>ob (gX E kt) λkd=>dN (xm E kt kd k)<| ob (zero E e) λz=>ob (s.look b) λo=>ob (mapOf o) λes=>ob (nQ k es) λr=>match r with
   |some v=>aM (bo ok (.tuple ⟨[v,.bool true]⟩) v) (s.aU b)
   |none=>aM (bo ok (.tuple ⟨[z,.bool false]⟩) z) (s.aU b)
  |_,_=>none
def s8 (s:St)(t:TypeId)(m k v:Value):Option (Value×St):=
 ob (gX E t) λd=>match d,m with
  |.map kt _,.map (some b)=>ob (gX E kt) λkd=>dN (xm E kt kd k)<| ob (s.look b) λo=>ob (mapOf o) λes=>ob (nQ k es) λr=>match r with
   |some _=>ob (On k v es) λes=>aM (.tuple ⟨[]⟩) (s.put b (some (.map es)))
   |none=>aM (.tuple ⟨[]⟩) (s.put b (some (.map (es++[(k,v)]))))
  |_,_=>none
def xp (s:St)(t:TypeId)(l c:Value):Option (Value×St):=
 elemOf E (some t) λe=>ob (E.ty.get e) λi=>ob i.zero λz=>match l,c with
  |.int _ (.ofNat l),.int _ (.ofNat c)=>dN (Nat.ble l c&&Nat.ble c (nat_lit 1000000)&&Nat.ble i.bytes (nat_lit 1000000)&&Nat.beq (dX (bZ z)) i.size&&Nat.ble (nat_lit 1) i.size)<|
   aM (.slice (some ⟨s.next,nat_lit 0,none⟩) l c) (s.new (.cells (lW (bZ z) c) e false))
  |_,_=>none
def dB (ev:Operand->Value)(x:Option Operand):Option Value:=match x with
 |none=>none
 |some x=>some (ev x)
def nZ (s:St)(t:TypeId)(x:Value)(i:Nat):Option (Value×St):=
 ob (gX E t) λd=>match d with
  |.struct ⟨fs⟩=>ob (jc fs i) λf=>ob (size E f.type) λsz=>dN (Nat.ble (nat_lit 1) sz)<| Fv x λb o=>aM (.pointer (some ⟨b,Nat.add o f.offset,none⟩)) s
  |_=>none
def IM (s:St)(t:TypeId)(x:Value)(i:Nat):Option (Value×St):=
 ob (gX E t) λd=>match d,x with
  |.struct ⟨fs⟩,.agg ⟨cs⟩=>ob (jc fs i) λf=>ob (gX E f.type) λdf=>dN (!xl df)<| ob (jc cs f.offset) λv=>aM v s
  |_,_=>none
def n3 (s:St)(t:TypeId)(x i:Value):Option (Value×St):=
 ob (gX E t) λd=>match d,x,i with
  |.array n e,.pointer (some ⟨b,o,none⟩),.int _ (.ofNat i)=>dN (Nat.ble (Nat.succ i) n)<| ob (size E e) λsz=>aM (.pointer (some ⟨b,Nat.add o (Nat.mul i sz),none⟩)) s
  |.slice e,.slice (some ⟨b,o,none⟩) n _,.int _ (.ofNat i)=>dN (Nat.ble (Nat.succ i) n)<| ob (size E e) λsz=>aM (.pointer (some ⟨b,Nat.add o (Nat.mul i sz),none⟩)) s
  |_,_,_=>none
def IN (s:St)(t:TypeId)(x i:Value):Option (Value×St):=
 ob (gX E t) λd=>match d,x,i with
  |.string,.string ⟨⟨z⟩⟩,.int _ (.ofNat i)=>ob (jc z i) λc=>aM (.int .u8 (.ofNat c.toNat)) s
  |_,_,_=>none
def yJ (s:St)(x:Value)(i:Nat):Option (Value×St):=match x with
 |.tuple ⟨vs⟩=>ob (jc vs i) λv=>aM v s
 |_=>none
abbrev ff:=FuncId->aY->St->Option (Value×St)
def xq (call:ff)(f:Value)(args:aY)(s:St):Option (Value×St):=match f with
 |.func (.func g) ⟨first⟩ ⟨cap⟩=>call g (first++(args++cap)) s
 |_=>none
def Co (call:ff)(r:Value)(m:String)(args:aY)(s:St):Option (Value×St):=match r with
 |.iface t (.pointer (some a))=>ob (ml t m E.rY) λf=>call f (.pointer (some a)::args) s
 |_=>none
def Ot (call:ff)(ev:Operand->Value)(s:St)(c:Call):Option (Value×St):=match c.callee with
 |.value f=>xq call (ev f) (xn ev c.args.toList) s
 |.builtin b=>yI E ev s b c.argTypes.toList c.args.toList
 |.invoke r m=>Co E call (ev r) m (xn ev c.args.toList) s
def GI (call:ff)(ev:Operand->Value)(s:St)(o:Op):Option (Value×St):=match o with
 |.move x=>aM (ev x) s
 |.assign x=>aM (ev x) s
 |.pick c a b=>QF (ev c) (ev a) (ev b) s
 |.alloc t=>IK E s t
 |.box t x=>Oo s (bZ (ev x)) t
 |.build t ps=>IL E ev s t ps.toList
 |.buildSlice t n ps=>uR E ev s t n ps.toList
 |.load t a=>Fv (ev a) λb o=>lM E s t b o
 |.store t a x=>Fv (ev a) λb o=>nc E s t b o (ev x)
 |.nilCheck x=>GH E (ev x) s
 |.makeInterface t x=>Oq E t (ev x) s
 |.binOp op t x y _=>ob (Su E op t (isC x||isC y) (ev x) (ev y)) λv=>aM v s
 |.unOp op _ x=>unV op (ev x) s
 |.convert a b x=>qX E s a b (ev x)
 |.makeFunc fn f c=>aM (.func fn ⟨xn ev f.toList⟩ ⟨xn ev c.toList⟩) s
 |.makeMap _ none=>aM (.map (some s.next)) (s.new (.map []))
 |.lookup t m k ok=>s7 E s t (ev m) (ev k) ok
 |.mapUpdate t m k v=>s8 E s t (ev m) (ev k) (ev v)
 |.makeSlice t l c=>xp E s t (ev l) (ev c)
 |.slice t x lo hi mx=>kH E s t (ev x) (dB ev lo) (dB ev hi) (dB ev mx)
 |.fieldAddr t x i=>nZ E s t (ev x) i
 |.field t x i=>IM E s t (ev x) i
 |.indexAddr t x i=>n3 E s t (ev x) (ev i)
 |.index t x i=>IN E s t (ev x) (ev i)
 |.extract x i=>yJ s (ev x) i
 |.range t x=>IJ E s t (ev x)
 |.next x str=>KU s (ev x) str
 |.call c=>Ot E call ev s c
 |_=>none
inductive Ex where|normal|exit (id:Nat)|ret
abbrev Tm:=T Value
def lX (o:Option Value):Value:=Option.rec (.tuple ⟨[]⟩) (λv=>v) o
def aO (tm:Tm)(x:Operand):Value:=match x with
 |.tmp t=>lX (tm.get t)
 |.const v=>v
 |.global g=>.pointer (some ⟨g,nat_lit 0,none⟩)
 |.func f=>.func (.func f) #[] #[]
def Tm.put {β:Type}(tm:Tm)(d:Option Tmp)(v:Value)(k:Tm->β):β:=match d with
 |some d=>VA v λv=>(tm.set (Nat.succ d) d (some v)).now k
 |none=>k tm
def uS (v:Option Value)(want:Bool):Bool:=match v with
 |some (.bool b)=>bo b want (!want)
 |_=>false
def mB (aG:List Oper)(j:Nat):Option Tmp:=ob (jc aG j) (·.dst)
def ib (aG:List Oper)(tm:Tm)(g:Option (Nat×Bool)):Bool:=match g with
 |none=>true
 |some (j,want)=>uS (ob (mB aG j) λd=>tm.get d) want
abbrev R3:=Option (Tm×St)
def KW (call:ff)(aG:List Oper)(l:List Oper):Tm->St->Option (Tm×St):=
 List.rec (λtm s=>some (tm,s)) (λo _ ih tm s=>
  bo (ib aG tm o.guard) (ob (GI E call (aO tm) s o.op) λp=>match p with
      |(v,s)=>tm.put o.dst v λtm=>ih tm s)
   (tm.put o.dst (.tuple ⟨[]⟩) λtm=>ih tm s)) l
structure Seen where
 i:Nat
 cV:Nat
 wr:Nat
def An (b a r:Nat)(l:List Seen):Bool:=List.rec true (λx _ ih=>bo (bo (Nat.beq (Nat.land x.wr a) (nat_lit 0)) (Nat.beq (Nat.land x.cV r) (nat_lit 0)) false||Nat.testBit b x.i) ih false) l
def uT (aG:List Oper)(j:Nat)(s s':St)(seen:List Seen)(k:St->List Seen->R3):R3:=match s,s' with
 |⟨_,_,a0,r0⟩,⟨h,n,a,r⟩=>bo (Nat.beq a (nat_lit 0)) (k ⟨h,n,a0,r0⟩ seen)
  (bo (An ((Region.before ⟨aG⟩).getD j 0) a r seen) (xk (Nat.lor a0 a) λa0=>xk (Nat.lor r0 r) λr0=>k ⟨h,n,a0,r0⟩ (⟨j,a,r⟩::seen)) none)
def eD (s:St):St:=match s with
 |⟨h,n,_,_⟩=>⟨h,n,nat_lit 0,nat_lit 0⟩
def uU (call:ff)(aG:List Oper)(l:List Oper):Nat->Tm->St->List Seen->Option (Tm×St):=
 List.rec (λ_ tm s _=>some (tm,s)) (λo _ ih j tm s seen=>
  bo (ib aG tm o.guard) (ob (GI E call (aO tm) (eD s) o.op) λp=>match p with
      |(v,s')=>uT aG j s s' seen λs seen=>tm.put o.dst v λtm=>ih (Nat.succ j) tm s seen)
   (tm.put o.dst (.tuple ⟨[]⟩) λtm=>ih (Nat.succ j) tm s seen)) l
abbrev R4:=Option (Ex×Tm×St)
def GJ (r:R4)(k:Tm->St->R4):R4:=ob r λp=>match p with
 |(.normal,tm,s)=>k tm s
 |p=>some p
def C2 (body:Tm->St->R4)(n:Nat):Tm->St->R4:=Nat.rec (λ_ _=>none) (λ_ ih tm s=>GJ (body tm s) ih) n
def ad0 (id:Nat)(r:R4):R4:=ob r λp=>match p with
 |(.exit i,tm,s)=>bo (Nat.beq i id) (some (.normal,tm,s)) (some (.exit i,tm,s))
 |p=>some p
def GK (r:R3):R4:=ob r λp=>some (.normal,p)
def QG (c:Value)(a b:R4):R4:=match c with
 |.bool c=>bo c a b
 |_=>none
def QH (call:ff)(aG:List Oper)(draw:Bool)(tm:Tm)(s:St):R4:=
 bo draw (GK (uU E call aG aG (nat_lit 0) tm s [])) (GK (KW E call aG aG tm s))
def lN (call:ff)(lf:Nat)(c:Code):Tm->St->R4:=
 Code.rec (motive:=λ_=>Tm->St->R4) (λtm s=>some (.normal,tm,s)) (λ_ aG draw tm s=>QH E call aG.toList draw tm s) (λ_ _ a b tm s=>GJ (a tm s) b) (λc _ _ a b tm s=>QG (aO tm c) (a tm s) (b tm s))
  (λid _ a tm s=>ad0 id (a tm s)) (λ_ a tm s=>C2 a lf tm s) (λ_ _ _ _ _ _ _ _=>none) (λid tm s=>some (.exit id,tm,s)) (λ_ _ _ _=>none) (λ_ _ _=>none) (λ_ _ _=>none)
  (λtm s=>some (.ret,tm,s)) (λ_ _ _=>none) c
def kv (l:aY):Nat->Tm->Tm:=List.rec (λ_ tm=>tm) (λv _ ih i tm=>VA v λv=>(tm.set (Nat.succ i) i (some v)).now λtm=>ih (Nat.succ i) tm) l
def C3 (tm:Tm)(l:List ResultVar):St->Option (aY×St):=
 List.rec (λs=>some ([],s)) (λr _ ih s=>match r with
  |.tmp t=>ob (ih s) λp=>some (lX (tm.get t)::p.1,p.2)
  |.cell a t=>Fv (lX (tm.get a)) λb o=>ob (lM E s t b o) λq=>ob (ih q.2) λp=>some (q.1::p.1,p.2)) l
def gK (l:aY):Value:=match l with
 |[v]=>v
 |vs=>.tuple ⟨vs⟩
def yK (c:Nat)(l:List UInt8):Nat->Int:=List.rec (λ_=>.negSucc (nat_lit 0)) (λb _ ih i=>bo (Nat.beq b.toNat c) (.ofNat i) (ih (Nat.succ i))) l
abbrev xr:=aY->St->Option (Value×St)
structure fY where
 sc:Nat
 indexByte:Nat
 s9:Nat
 look:Nat
 byte:Nat
 wT:List (Nat×xr)
def xu (X:fY)(f:FuncId):Bool:=List.rec false (λp _ ih=>bo (Nat.beq p.1 f) true ih) X.wT
def uV (X:fY)(f:FuncId)(args:aY)(s:St)(k:Option (Value×St)):Option (Value×St):=List.rec k (λp _ ih=>bo (Nat.beq p.1 f) (p.2 args s) ih) X.wT
def id1 (args:aY):Option Value:=match args with
 |[x]=>some x
 |_=>none
def VE (args:aY):Option Value:=match args with
 |[.string ⟨⟨z⟩⟩,.int .u8 (.ofNat c)]=>dN (Nat.ble (Nat.succ c) (nat_lit 256))<| some (.int .i64 (yK c z (nat_lit 0)))
 |_=>none
def zeroV (X:fY)(args:aY)(s:St):Option (Value×St):=match args with
 |[.int .i64 (.ofNat n)]=>dN (Nat.ble (nat_lit 1) n&&Nat.ble n (nat_lit 1000000))<| aM (bJ s n) (s.new (.cells [] X.byte true))
 |_=>none
def C4 (args:aY)(s:St):Option (Value×St):=match args with
 |[.agg ⟨[.slice (some ⟨b,o,none⟩) n _,.slice _ 0 _,_]⟩,.int .i64 (.ofNat i)]=>dN (Nat.ble (Nat.succ i) n)<| s.row b λcs _ _ s=>ob (jc cs (Nat.add o i)) λv=>match v with
  |.string ⟨⟨z⟩⟩=>aM (.string ⟨⟨z⟩⟩) s
  |_=>none
 |_=>none
def KX (X:fY)(f:FuncId)(args:aY)(s:St):Option (Value×St):=
 bo (Nat.beq f X.sc) (ob (id1 args) λv=>aM v s) (bo (Nat.beq f X.indexByte) (ob (VE args) λv=>aM v s) (bo (Nat.beq f X.s9) (zeroV X args s) none))
def KY (fn:Func)(r:R4):Option (Value×St):=ob r λp=>match p with
 |(.exit _,_,_)=>none
 |(_,tm,s)=>ob (C3 E tm fn.results.toList s) λp=>some (gK p.1,p.2)
end
end
variable {α β:Type}
@[simp] theorem gA (x y:α):bo true x y=x:=rfl
@[simp] theorem eG (x y:α):bo false x y=y:=rfl
theorem dJ (b:Bool)(x y:α):bo b x y=if b then x else y:=by cases b<;>rfl
@[simp] theorem bu (a:α)(k:α->Option β):ob (some a) k=k a:=rfl
@[simp] theorem ajU (k:α->Option β):ob (none:Option α) k=none:=rfl
theorem aF {o:Option α}{k:α->Option β}{r:β}(h:ob o k=some r):∃a,o=some a/\k a=some r:=by
 cases o with
 |none=>cases h
 |some a=>exact⟨a,rfl,h⟩
theorem bq {b:Bool}{k:Option β}{r:β}(h:dN b k=some r):b=true/\k=some r:=by
 cases b with
 |false=>cases h
 |true=>exact⟨rfl,h⟩
theorem IP {b:Bool}{x:Option β}{r:β}(h:bo b x none=some r):b=true/\x=some r:=by
 cases b with
 |false=>cases h
 |true=>exact⟨rfl,h⟩
@[simp] theorem T.Ou (t:T α)(k:T α->β):t.now k=k t:=by cases t<;>rfl
@[simp] theorem QI (n:Nat)(k:Nat->β):xk n k=k n:=by cases n<;>rfl
@[simp] theorem ajV (n:Int)(k:Int->β):adW n k=k n:=by cases n<;>simp[adW]
@[simp] theorem ajW (n:Bool)(k:Bool->β):agC n k=k n:=by cases n<;>rfl
@[simp] theorem ajX (a:aS)(k:aS->β):aag a k=k a:=by
  unfold aag;split<;>simp
@[simp] theorem ajY (a:aS)(l c:Nat)(k:Value->β):adX a l c k=k (.slice a l c):=by simp[adX]
@[simp] theorem aak (v:Value)(k:Value->β):VA v k=k v:=by unfold VA;split<;>simp
theorem T.get_nil (n:Nat):(T.nil:T α).get n=none:=rfl
theorem T.oM (v:Option α)(l r:T α)(n:Nat):(T.node v l r).get n=if n=0 then v else if n% 2=1 then l.get (n/ 2) else r.get (n/ 2-1):=by have h:(T.node v l r).get n=bo (Nat.beq n 0) v (bo (Nat.beq (n% 2) 1) (l.get (n/ 2)) (r.get (Nat.pred (n/ 2)))):=rfl;rw[h,dJ,dJ];simp only[zZ,Nat.pred_eq_sub_one]
theorem T.KZ (d:Nat)(t:T α)(n:Nat)(x:Option α):
  T.set (d+1) t n x=match t with
    |.nil=>if n=0 then .node x .nil .nil else if n% 2=1 then .node none (T.set d .nil (n/ 2) x) .nil else .node none .nil (T.set d .nil (n/ 2-1) x)
    |.node v l r=>if n=0 then .node x l r else if n% 2=1 then .node v (T.set d l (n/ 2) x) r else .node v l (T.set d r (n/ 2-1) x):=by
 cases t with
 |nil=>
  have h:T.set (d+1) (T.nil:T α) n x=bo (Nat.beq n 0) (.node x .nil .nil) (bo (Nat.beq (n% 2) 1) ((T.set d .nil (n/ 2) x).now λl=>.node none l .nil) ((T.set d .nil (Nat.pred (n/ 2)) x).now λr=>.node none .nil r)):=rfl;rw[h,dJ,dJ];simp only[zZ,Nat.pred_eq_sub_one,T.Ou]
 |node v l r=>
  have h:T.set (d+1) (T.node v l r) n x=bo (Nat.beq n 0) (.node x l r) (bo (Nat.beq (n% 2) 1) ((T.set d l (n/ 2) x).now λl=>.node v l r) ((T.set d r (Nat.pred (n/ 2)) x).now λr=>.node v l r)):=rfl;rw[h,dJ,dJ];simp only[zZ,Nat.pred_eq_sub_one,T.Ou]
theorem T.vF (d:Nat):∀(t:T α)(n m:Nat)(x:Option α),n+1<2^ d->(T.set d t n x).get m=if m=n then x else t.get m:=by
 induction d with
 |zero=>intro t n m x h;simp at h
 |succ d ih=>
  intro t n m x h;have hl:n% 2=1->n/ 2+1<2^ d:=λ_=>by rw[Vq] at h;omega
  have hr:¬n=0->¬n% 2=1->n/ 2-1+1<2^ d:=λ_ _=>by rw[Vq] at h;omega
  rw[T.KZ];cases t with
  |nil=>
   simp only;by_cases h0:n=0
   .simp only[h0,if_true,T.oM,T.get_nil];split<;>simp
   .simp only[h0,pQ];by_cases h1:n% 2=1
    .simp only[h1,if_true,T.oM,T.get_nil];rw[ih _ _ _ _ (hl h1)];simp only[T.get_nil];repeat' split
     all_goals first|rfl|omega
    .simp only[h1,pQ,T.oM,T.get_nil];rw[ih _ _ _ _ (hr h0 h1)];simp only[T.get_nil];repeat' split
     all_goals first|rfl|omega
  |node v l r=>
   simp only;by_cases h0:n=0
   .simp only[h0,if_true,T.oM];repeat' split
    all_goals first|rfl|omega
   .simp only[h0,pQ];by_cases h1:n% 2=1
    .simp only[h1,if_true,T.oM];rw[ih _ _ _ _ (hl h1)];repeat' split
     all_goals first|rfl|omega
    .simp only[h1,pQ,T.oM];rw[ih _ _ _ _ (hr h0 h1)];repeat' split
     all_goals first|rfl|omega
@[simp] theorem c8 (l:List α):dX l=l.length:=by
  induction l with
  |nil=>rfl
  |cons x xs ih=>exact eC Nat.succ ih
@[simp] theorem dO (l:List α):∀n,jc l n=l[n]?:=by
  induction l with
  |nil=>intro n;simp[jc]
  |cons x xs ih=>
   intro n;cases n with
   |zero=>rfl
   |succ n=>exact(ih n).trans ay
@[simp] theorem agH (n:Nat):∀l:List α,VC n l=l.take n:=by
  induction n with
  |zero=>intro l;show([]:List α)=l.take 0;simp
  |succ n ih=>intro l;cases l with
   |nil=>rfl
   |cons x xs=>exact eC (x::·) (ih xs)
@[simp] theorem agJ (n:Nat):∀l:List α,VD n l=l.drop n:=by
  refine' za9
@[simp] theorem qY (f:α->β)(l:List α):xn f l=l.map f:=by
  induction l with
  |nil=>rfl
  |cons x xs ih=>exact eC (f x::·) ih
@[simp] theorem qi (n:Nat):∀l:aY,gg n l=l.drop n:=by
  refine' za9
theorem yL (n:Nat):∀l:aY,ie n l=if n<=l.length then some (l.take n) else none:=by
 induction n with
 |zero=>intro l;show some []=_;simp
 |succ n ih=>intro l;cases l with
  |nil=>simp[ie]
  |cons x xs=>
   (have h:ie (n+1) (x::xs)=ob (ie n xs) λr=>some (x::r):=rfl);rw[h,ih xs];by_cases hn:n<=xs.length<;>simp[hn]
theorem kJ {n:Nat}{l r:aY}(h:ie n l=some r):n<=l.length/\r=l.take n:=by
 rw[yL] at h;split at h
 .exact⟨‹_›,by simpa using h.symm⟩
 .cases h
theorem QJ (vs:aY):∀l:aY,nb vs l=if vs.length<=l.length then some (vs++l.drop vs.length) else none:=by
 induction vs with
 |nil=>intro l;show some l=_;simp
 |cons v vs ih=>intro l;cases l with
  |nil=>simp[nb]
  |cons x xs=>
   (have h:nb (v::vs) (x::xs)=ob (nb vs xs) λr=>some (v::r):=rfl);rw[h,ih xs];by_cases hn:vs.length<=xs.length<;>simp[hn]
theorem n4 (n:Nat)(vs:aY):∀{l r:aY},eF n vs l=some r->n+vs.length<=l.length/\r=l.take n++vs++l.drop (n+vs.length):=by
 induction n with
 |zero=>
  intro l r h;have h':nb vs l=some r:=h;rw[QJ] at h';split at h'
  .have h2:=iU h';subst h2;exact⟨af,ay⟩
  .cases h'
 |succ n ih=>
  intro l r h;cases l with
  |nil=>cases h
  |cons x xs=>
   have h':ob (eF n vs xs) (λr=>some (x::r))=some r:=h;obtain⟨a,ha,hr⟩:=aF h';obtain⟨h1,h2⟩:=ih ha;simp at hr;refine⟨by simp;omega,?_⟩;(have e:n+1+vs.length=(n+vs.length)+1:=by omega);rw[<-hr,h2,e,x_5,List.drop_succ_cons,yw,yw]
theorem gT (v:Value):bZ v=v.cells.toList:=by unfold bZ Value.cells;split<;>simp_all
theorem n9 (l:aY):ku l=true↔∀v∈l,flat v=true:=by
 induction l with
 |nil=>simp[ku]
 |cons x xs ih=>
  have h:ku (x::xs)=bo (flat x) (ku xs) false:=rfl;rw[h,dJ];by_cases hx:flat x=true<;>simp[hx,ih]
variable {A B:Nat->Prop}{v v':Value}{l l':aY}
abbrev ig:=Nat->Nat×Nat
def de (q:Nat×Nat)(c:Nat):Nat:=if dS<=c then q.2-(c-dS) else c
mutual
def bX (ρ:ig):Value->Value
 |.agg ⟨cs⟩=>.agg ⟨Bs ρ cs⟩
 |.tuple ⟨cs⟩=>.tuple ⟨Bs ρ cs⟩
 |.func fn ⟨f⟩ ⟨c⟩=>.func fn ⟨Bs ρ f⟩ ⟨Bs ρ c⟩
 |.iface t v=>.iface t (bX ρ v)
 |.pointer (some ⟨b,o,s⟩)=>.pointer (some ⟨(ρ b).1,o,s⟩)
 |.slice (some ⟨b,o,none⟩) l c=>.slice (some ⟨(ρ b).1,o,none⟩) l (de (ρ b) c)
 |.slice (some ⟨b,o,some q⟩) l c=>.slice (some ⟨(ρ b).1,if de (ρ b) c=0 then q else o,none⟩) l (de (ρ b) c)
 |.map (some r)=>.map (some (ρ r).1)
 |.bool b=>.bool b
 |.int k n=>.int k n
 |.float k n=>.float k n
 |.complex k a b=>.complex k a b
 |.string s=>.string s
 |.pointer none=>.pointer none
 |.slice none l c=>.slice none l c
 |.map none=>.map none
 |.chan r=>.chan r
 |.nilFunc=>.nilFunc
 |.nilIface=>.nilIface
def Bs (ρ:ig):aY->aY
 |[]=>[]
 |v::vs=>bX ρ v::Bs ρ vs
end
theorem yM (ρ:ig)(l:aY):Bs ρ l=l.map (bX ρ):=by
 induction l with
 |nil=>simp[Bs]
 |cons v vs ih=>simp[Bs,ih]
@[simp] theorem VF (ρ:ig)(cs:aY):bX ρ (.agg ⟨cs⟩)= .agg ⟨cs.map (bX ρ)⟩:=by simp[bX,yM]
@[simp] theorem Ov (ρ:ig)(cs:aY):bX ρ (.tuple ⟨cs⟩)= .tuple ⟨cs.map (bX ρ)⟩:=by simp[bX,yM]
@[simp] theorem Sz (ρ:ig)(fn:Fn)(f c:aY):bX ρ (.func fn ⟨f⟩ ⟨c⟩)= .func fn ⟨f.map (bX ρ)⟩ ⟨c.map (bX ρ)⟩:=by simp[bX,yM]
theorem nf (ρ:ig)(b o:Nat)(s:Option Nat):bX ρ (.pointer (some ⟨b,o,s⟩))= .pointer (some ⟨(ρ b).1,o,s⟩):=by simp[bX]
theorem eA (ρ:ig)(b o l c:Nat):bX ρ (.slice (some ⟨b,o,none⟩) l c)= .slice (some ⟨(ρ b).1,o,none⟩) l (de (ρ b) c):=by simp[bX]
theorem K0 (ρ:ig)(b o q l c:Nat):bX ρ (.slice (some ⟨b,o,some q⟩) l c)= .slice (some ⟨(ρ b).1,if de (ρ b) c=0 then q else o,none⟩) l (de (ρ b) c):=by simp[bX]
theorem sd (ρ:ig)(a:Addr)(l c:Nat):∃a',bX ρ (.slice (some a) l c)= .slice (some a') l (de (ρ a.block) c):=by
 obtain⟨b,o,_|q⟩:=a
 .exact⟨_,eA ρ b o l c⟩
 .exact⟨_,K0 ρ b o q l c⟩
theorem GL (ρ:ig)(b:Nat):bX ρ (.map (some b))= .map (some (ρ b).1):=by simp[bX]
@[simp] theorem agl (ρ:ig)(b:Bool):bX ρ (.bool b)= .bool b:=by simp[bX]
@[simp] theorem qj (ρ:ig)(k:IntKind)(n:Int):bX ρ (.int k n)= .int k n:=by simp[bX]
@[simp] theorem acD (ρ:ig)(s:ByteArray):bX ρ (.string s)= .string s:=by simp[bX]
@[simp] theorem GM (ρ:ig):bX ρ (.pointer none)= .pointer none:=by simp[bX]
@[simp] theorem acE (ρ:ig)(l c:Nat):bX ρ (.slice none l c)= .slice none l c:=by simp[bX]
@[simp] theorem ta (ρ:ig):bX ρ .nilFunc= .nilFunc:=by simp[bX]
@[simp] theorem FH (ρ:ig):bX ρ .nilIface= .nilIface:=by simp[bX]
theorem xv (ρ:ig)(v:Value):(bX ρ v).cells.toList=v.cells.toList.map (bX ρ):=by
 cases v<;>try(simp[bX,Value.cells];done)
 .rename_i a;cases a<;>simp[bX,Value.cells]
 .rename_i a l c;cases a with
  |none=>simp[bX,Value.cells]
  |some a=>
   obtain⟨a',h⟩:=sd ρ a l c;rw[h];simp[Value.cells,h]
 .rename_i a;cases a<;>simp[bX,Value.cells]
 .rename_i cs;obtain⟨cs⟩:=cs;simp[bX,yM,Value.cells]
theorem SB (ρ:ig)(v:Value):flat (bX ρ v)=flat v:=by
 cases v<;>try(simp[bX,flat];done)
 .rename_i a;cases a<;>simp[bX,flat]
 .rename_i a l c;cases a with
  |none=>simp[bX,flat]
  |some a=>
   obtain⟨a',h⟩:=sd ρ a l c;rw[h];simp[flat]
 .rename_i a;cases a<;>simp[bX,flat]
def GN (A:Nat->Prop)(ρ eb:ig):Prop:=∀i,A i->eb i=ρ i
def VR (A:Nat->Prop)(ρ:ig)(v v':Value):Prop:=∀eb,GN A ρ eb->bX eb v=v'
def LR (A:Nat->Prop)(ρ:ig)(l l':aY):Prop:=∀eb,GN A ρ eb->l.map (bX eb)=l'
section
variable {ρ Fw:ig}
theorem GN.refl (A:Nat->Prop)(ρ:ig):GN A ρ ρ:=λ_ _=>rfl
theorem VR.self (h:VR A ρ v v'):bX ρ v=v':=h ρ (GN.refl A ρ)
theorem LR.self (h:LR A ρ l l'):l.map (bX ρ)=l':=h ρ (GN.refl A ρ)
theorem VR.mono (h:VR A ρ v v')(hA:∀i,A i->B i)(Ao:∀i,A i->Fw i=ρ i):VR B Fw v v':=λeb h'=>h eb λi hi=>(h' i (hA i hi)).trans (Ao i hi)
theorem LR.mono (h:LR A ρ l l')(hA:∀i,A i->B i)(Ao:∀i,A i->Fw i=ρ i):LR B Fw l l':=λeb h'=>h eb λi hi=>(h' i (hA i hi)).trans (Ao i hi)
theorem LR.length (h:LR A ρ l l'):l'.length=l.length:=by rw[<-h.self,uI]
theorem LR.nil:LR A ρ [] []:=λ_ _=>rfl
theorem LR.cons (h:VR A ρ v v')(k:LR A ρ l l'):LR A ρ (v::l) (v'::l'):=λeb e=>by simp[h eb e,k eb e]
theorem LR.iM (h:LR A ρ (v::l) l'):∃u us,l'=u::us/\VR A ρ v u/\LR A ρ l us:=by
 refine⟨bX ρ v,l.map (bX ρ),by rw[<-h.self];rfl,λeb e=>?_,λeb e=>?_⟩
 .have:=(h eb e).trans h.self.symm;simp at this;exact this.1
 .have:=(h eb e).trans h.self.symm;simp only[xg,List.cons.injEq] at this;exact this.2
theorem LR.get {i:Nat}{u:Value}(h:LR A ρ l l')(hu:l[i]?=some u):∃u',l'[i]?=some u'/\VR A ρ u u':=by refine⟨bX ρ u,by rw[<-h.self];simp[hu],λeb e=>?_⟩;have:=eC (·[i]?) ((h eb e).trans h.self.symm);simpa[hu] using this
theorem LR.take (n:Nat)(h:LR A ρ l l'):LR A ρ (l.take n) (l'.take n):=λeb e=>by rw[<-h eb e,List.map_take]
theorem LR.drop (n:Nat)(h:LR A ρ l l'):LR A ρ (l.drop n) (l'.drop n):=λeb e=>by rw[<-h eb e,List.map_drop]
theorem LR.append {m m':aY}(h:LR A ρ l l')(k:LR A ρ m m'):LR A ρ (l++m) (l'++m'):=λeb e=>by rw[<-h eb e,<-k eb e,Qw]
theorem VR.agg (h:LR A ρ l l'):VR A ρ (.agg ⟨l⟩) (.agg ⟨l'⟩):=λeb e=>by simp[h eb e]
theorem VR.tuple (h:LR A ρ l l'):VR A ρ (.tuple ⟨l⟩) (.tuple ⟨l'⟩):=λeb e=>by simp[h eb e]
theorem VR.QK (h:VR A ρ (.agg ⟨l⟩) v'):∃l',v'= .agg ⟨l'⟩/\LR A ρ l l':=by refine' zbg
theorem VR.aal (h:VR A ρ (.tuple ⟨l⟩) v'):∃l',v'= .tuple ⟨l'⟩/\LR A ρ l l':=by refine' zbg
theorem VR.C5 {fn:Fn}{f c:aY}(h:VR A ρ (.func fn ⟨f⟩ ⟨c⟩) v'):∃f' c',v'= .func fn ⟨f'⟩ ⟨c'⟩/\LR A ρ f f'/\LR A ρ c c':=by
 refine⟨f.map (bX ρ),c.map (bX ρ),by rw[<-h.self];simp,λeb e=>?_,λeb e=>?_⟩<;>
 .have:=(h eb e).trans h.self.symm;simp at this;first|exact yx (λx hx=>this.1 x hx)|exact yx (λx hx=>this.2 x hx)
theorem VR.func {fn:Fn}{f c f' c':aY}(h:LR A ρ f f')(k:LR A ρ c c'):VR A ρ (.func fn ⟨f⟩ ⟨c⟩) (.func fn ⟨f'⟩ ⟨c'⟩):=λeb e=>by simp[h eb e,k eb e]
theorem VR.cells (h:VR A ρ v v'):LR A ρ v.cells.toList v'.cells.toList:=λeb e=>by rw[<-xv,h eb e]
theorem LR.ku (h:LR A ρ l l')(hf:∀v∈l,flat v=true):∀v∈l',flat v=true:=by rw[<-h.self];intro v hv;obtain⟨u,hu,rfl⟩:=lp.1 hv;rw[SB];exact hf u hu
theorem VR.ground (h:∀ρ,bX ρ v=v):VR A ρ v v:=λeb _=>h eb
theorem VR.bool (b:Bool):VR A ρ (.bool b) (.bool b):=VR.ground ay
theorem VR.int (k:IntKind)(n:Int):VR A ρ (.int k n) (.int k n):=VR.ground ay
theorem VR.str (s:ByteArray):VR A ρ (.string s) (.string s):=VR.ground ay
theorem VR.undef:VR A ρ (.tuple ⟨[]⟩) (.tuple ⟨[]⟩):=VR.ground ay
theorem VR.ptr {b o:Nat}{s:Option Nat}(h:A b):VR A ρ (.pointer (some ⟨b,o,s⟩)) (.pointer (some ⟨(ρ b).1,o,s⟩)):=λeb e=>by rw[nf,e b h]
theorem VR.slice {b o l c:Nat}(h:A b):VR A ρ (.slice (some ⟨b,o,none⟩) l c) (.slice (some ⟨(ρ b).1,o,none⟩) l (de (ρ b) c)):=λeb e=>by rw[eA,e b h]
theorem VR.ake {b:Nat}(h:A b):VR A ρ (.map (some b)) (.map (some (ρ b).1)):=λeb e=>by rw[GL,e b h]
theorem VR.mD {k:IntKind}{n:Int}(h:VR A ρ (.int k n) v'):v'= .int k n:=by rw[<-h.self];simp
theorem VR.tc {b:Bool}(h:VR A ρ (.bool b) v'):v'= .bool b:=by rw[<-h.self];simp
theorem VR.uW {s:ByteArray}(h:VR A ρ (.string s) v'):v'= .string s:=by rw[<-h.self];simp
end
def dg (A:Nat->Prop)(n m:Nat):Nat->Prop:=λi=>A i\/(n<=i/\i<m)
def FI (P:Program)(A:Nat->Prop)(ρ:ig)(q:Nat×Nat):gv->Obj->Prop
 |.cells c e w,x=>∃(c' aE:aY)(fr:Nat×Nat),x= .cells ⟨c'++aE⟩ e fr/\LR A ρ c c'/\
    (w=true->fr=(0,0)/\c.length+aE.length=q.2*P.cellsOf e/\0<P.cellsOf e/\q.2<=maxLen)/\
    (w=false->((aE=[]/\fr=(0,0))\/(P.underlying e=some (.int .u8)/\P.cellsOf e=1/\c.length+aE.length<=fr.1))/\c.length<=q.2)
 |.map es,x=>∃(xs:List MapEntry)(k:Nat),x= .map ⟨xs⟩ k/\LR A ρ (es.map (·.1)) (xs.map (·.key))/\LR A ρ (es.map (·.2)) (xs.map (·.val))
 |.lL z p,x=>x= .stringIter ⟨⟨z⟩⟩ p
 |.nW ws,x=>∃(cs:aY)(t:TypeId)(fr:Nat×Nat),x= .cells ⟨cs⟩ t fr/\∀p∈ws,∃pre c' aE,cs=pre++(c'++aE)/\pre.length=p.1/\LR A ρ p.2 c'
 |.um m,x=>A m/\∃since dm,x= .mapIter (some (ρ m).1) since #[] dm
theorem FI.mono {P:Program}{A B:Nat->Prop}{ρ Fw:ig}{q:Nat×Nat}{o:gv}{x:Obj}(h:FI P A ρ q o x)(hA:∀i,A i->B i)(Ao:∀i,A i->Fw i=ρ i):FI P B Fw q o x:=by
 cases o with
 |cells c e w=>obtain⟨c',aE,fr,h1,h2,h3,h4⟩:=h;exact⟨c',aE,fr,h1,h2.mono hA Ao,h3,h4⟩
 |map es=>obtain⟨xs,k,h1,h2,h3⟩:=h;exact⟨xs,k,h1,h2.mono hA Ao,h3.mono hA Ao⟩
 |lL z p=>exact h
 |nW ws=>
  obtain⟨cs,t,fr,h1,h2⟩:=h;exact⟨cs,t,fr,h1,λp hp=>by
   obtain⟨pre,c',aE,e1,e2,e3⟩:=h2 p hp;exact⟨pre,c',aE,e1,e2,e3.mono hA Ao⟩⟩
 |um m=>obtain⟨h1,since,dm,h2⟩:=h;exact⟨hA m h1,since,dm,by rw[Ao m h1];exact h2⟩
structure eX (P:Program)(X A:Nat->Prop)(ρ:ig)(g:Nat->Option gv)(w:World):Prop where
 kK:∀b o,X b->g b=some o->A b/\∃x,w.heap[(ρ b).1]?=some x/\FI P A ρ (ρ b) o x
 inj:∀b b' o o',X b->X b'->g b=some o->g b'=some o'->(ρ b).1=(ρ b').1->b=b'
structure Fr (w w':World)(agK:Nat->Prop):Prop where
 os:w'.os=w.os
 tape:w'.tape=w.tape
 output:w'.output=w.output
 size:w.heap.size<=w'.heap.size
 block:∀r,r<w.heap.size->¬agK r->w'.heap[r]?=w.heap[r]?
theorem Fr.refl (w:World)(t:Nat->Prop):Fr w w t:=⟨rfl,rfl,rfl,cC _,λ_ _ _=>rfl⟩
abbrev In (m b:Nat):Prop:=m.testBit b=true
structure Good (P:Program)(X A:Nat->Prop)(ρ:ig)(s s':St)(w w':World)(eb:ig):Prop where
 next:s.next<=s'.next
 same:∀i,¬(s.next<=i/\i<s'.next)->eb i=ρ i
 state:eX P X (dg A s.next s'.next) eb s'.heap.get w'
 eN:Fr w w' λr=>∃b o,In s'.wr b/\X b/\s.heap.get b=some o/\(ρ b).1=r
 old:∀b,b<s.next->s'.heap.get b≠none->s.heap.get b≠none
 cu:∀b,s.next<=b->b<s'.next->s'.heap.get b≠none->w.heap.size<=(eb b).1\/∃c o,In s'.wr c/\X c/\s.heap.get c=some o/\(eb b).1=(ρ c).1
 kept:∀b,b<s.next->¬In s'.wr b->s'.heap.get b=s.heap.get b
 dI:∀b,s'.next<=b->s'.heap.get b=none
structure aH (s s':St):Prop where
 next:s.next<=s'.next
 cV:∀b,In s.cV b->In s'.cV b
 wr:∀b,In s.wr b->In s'.wr b
 made:∀b,s.next<=b->b<s'.next->In s'.wr b
 sub:(∀b,In s.wr b->In s.cV b)->∀b,In s'.wr b->In s'.cV b
 kept:∀b,b<s.next->¬In s'.wr b->s'.heap.get b=s.heap.get b
 dI:(∀b,s.next<=b->s.heap.get b=none)->∀b,s'.next<=b->s'.heap.get b=none
variable {P:Program}{X:Nat->Prop}{ρ B3 Fw:ig}{s s1 s2:St}{w w1 w2:World}
theorem ad1 (n:Nat):n+1+1<2^ (n+1+1):=@Nat.lt_two_pow_self (n+1+1)
theorem T.vG {α:Type}(t:T α)(n m:Nat)(x:Option α):(T.set (Nat.succ n) t n x).get m=if m=n then x else t.get m:=by
 cases n with
 |zero=>
  rw[show Nat.succ 0=0+1 from rfl,T.KZ];cases t<;>simp only[T.oM,T.get_nil,if_true]<;>(repeat' split)<;>first|rfl|omega|simp_all
 |succ n=>exact T.vF _ _ _ _ _ (ad1 n)
theorem gO (a b c:Nat):In (a||| bit b) c↔In a c\/c=b:=by
 have h:(a||| bit b)=a||| (1<<< b):=rfl;simp only[In,h,Nat.testBit_or,Nat.testBit_shiftLeft,mh,bI,bR];constructor
 .rintro(h|⟨h1,h2⟩)
  .exact .inl h
  .right
   have:c-b=0:=by
    rcases xh (c-b) with h|h
    .exact h
    .rw[Nat.testBit_one_eq_true_iff_self_eq_zero] at h2;exact h2
   omega
 .rintro(h|rfl)
  .exact .inl h
  .right;simp
theorem rH (a b c:Nat):In (a||| b) c↔In a c\/In b c:=by simp only[In,Nat.testBit_or,mh]
section
variable (s:St)(b:Nat)
@[simp] theorem gB:(s.aU b).heap=s.heap:=by cases s;simp[St.aU]
@[simp] theorem bQ:(s.aU b).next=s.next:=by cases s;simp[St.aU]
@[simp] theorem Cp:(s.aU b).wr=s.wr:=by cases s;simp[St.aU]
@[simp] theorem se:(s.aU b).cV=s.cV||| bit b:=by cases s;simp[St.aU]
@[simp] theorem qZ (o:Option gv)(c:Nat):(s.put b o).heap.get c=if c=b then o else s.heap.get c:=by cases s;simp[St.put,T.vG]
@[simp] theorem dY (o:Option gv):(s.put b o).next=s.next:=by cases s;simp[St.put]
@[simp] theorem td (o:Option gv):(s.put b o).wr=s.wr||| bit b:=by cases s;simp[St.put]
@[simp] theorem q8 (o:Option gv):(s.put b o).cV=s.cV||| bit b:=by cases s;simp[St.put]
@[simp] theorem Cq (o:gv)(c:Nat):(s.new o).heap.get c=if c=s.next then some o else s.heap.get c:=by cases s;simp[St.new,T.vG]
@[simp] theorem lY (o:gv):(s.new o).next=s.next+1:=by cases s;simp[St.new]
@[simp] theorem xw (o:gv):(s.new o).wr=s.wr||| bit s.next:=by cases s;simp[St.new]
@[simp] theorem yN (o:gv):(s.new o).cV=s.cV||| bit s.next:=by cases s;simp[St.new]
end
theorem aH.refl (s:St):aH s s:=⟨cC _,λ_ h=>h,λ_ h=>h,λb h1 h2=>by omega,λh=>h,λ_ _ _=>rfl,λh=>h⟩
theorem aH.trans {a b c:St}(h:aH a b)(k:aH b c):aH a c:=
 ⟨gu h.next k.next,λi hi=>k.cV i (h.cV i hi),λi hi=>k.wr i (h.wr i hi),λi h1 h2=>by
  rcases lq i b.next with h3|h3
  .exact k.wr i (h.made i h1 h3)
  .exact k.made i h3 h2,λhs=>k.sub (h.sub hs),λi hi hw=>by
   rw[k.kept i (xi hi h.next) hw,h.kept i hi λh'=>hw (k.wr i h')],λha=>k.dI (h.dI ha)⟩
theorem aH.aU (s:St)(b:Nat):aH s (s.aU b):=
 ⟨ay,λi hi=>by simp only[se,gO];exact Or.inl hi,λi hi=>by simpa using hi,λi h1 h2=>by simp at h2;omega,λhs i hi=>by simp only[se,Cp,gO] at hi⊢;exact Or.inl (hs i hi),λi _ _=>by simp,λh=>by simpa using h⟩
theorem aH.put (s:St)(b:Nat)(o:Option gv)(hb:s.heap.get b≠none):aH s (s.put b o):=
 ⟨ay,λi hi=>by simp only[q8,gO];exact Or.inl hi,λi hi=>by simp only[td,gO];exact Or.inl hi,λi h1 h2=>by simp at h2;omega,λhs i hi=>by simp only[q8,td,gO] at hi⊢;exact hi.imp (hs i) id,
  λi hi hw=>by rw[qZ,if_neg];rintro rfl;exact hw (by rw[td];exact(gO _ _ _).2 (.inr rfl)),
  λh i hi=>by
     rw[dY] at hi;rw[qZ,if_neg];.exact h i hi
     .rintro rfl;exact hb (h _ hi)⟩
theorem aH.jd (s:St)(o:gv):aH s (s.new o):=
 ⟨ay,λi hi=>by simp only[yN,gO];exact Or.inl hi,λi hi=>by simp only[xw,gO];exact Or.inl hi,λi h1 h2=>by simp only[lY,xw,gO] at h2⊢;exact Or.inr af,λhs i hi=>by simp only[yN,xw,gO] at hi⊢;exact hi.imp (hs i) id,
  λi hi hw=>by rw[Cq,if_neg af],
  λh i hi=>by rw[lY] at hi;rw[Cq,if_neg af];exact h i af⟩
theorem eX.mono {g:Nat->Option gv}{B:Nat->Prop}(h:eX P X A ρ g w)(hA:∀i,A i->B i)(Ao:∀i,A i->Fw i=ρ i):eX P X B Fw g w:=by
 refine⟨λb o hx hg=>?_,λb b' o o' hx te hg hg' e=>?_⟩
 .obtain⟨h1,x,h2,h3⟩:=h.kK b o hx hg;refine⟨hA b h1,x,by rw[Ao b h1];exact h2,?_⟩;rw[Ao b h1];exact h3.mono hA Ao
 .rw[Ao b (h.kK b o hx hg).1,Ao b' (h.kK b' o' te hg').1] at e;exact h.inj b b' o o' hx te hg hg' e
theorem eX.sub {g:Nat->Option gv}{Y:Nat->Prop}(h:eX P X A ρ g w)(hY:∀i,Y i->X i):eX P Y A ρ g w:=
 ⟨λb o hx hg=>h.kK b o (hY b hx) hg,λb b' o o' hx te hg hg' e=>h.inj b b' o o' (hY b hx) (hY b' te) hg hg' e⟩
theorem eX.lt {g:Nat->Option gv}(h:eX P X A ρ g w){b:Nat}{o:gv}(hx:X b)(hg:g b=some o):(ρ b).1<w.heap.size:=by obtain⟨_,x,h2,_⟩:=h.kK b o hx hg;exact(uK.1 h2).1
theorem Good.VG (jz:eX P X A ρ s.heap.get w)(C6:∀b,s.next<=b->s.heap.get b=none)(hn:s1.next=s.next)(hg:s1.heap=s.heap)(hw:w1.heap=w.heap)(ho:w1.os=w.os)(ht:w1.tape=w.tape)(hp:w1.output=w.output):Good P X A ρ s s1 w w1 ρ:=by refine⟨af,λ_ _=>rfl,?_,⟨ho,ht,hp,by rw[hw];exact cC _,λr _ _=>by rw[hw]⟩,λb _ h=>by rw[hg] at h;exact h,λb h1 h2=>by omega,λb _ _=>by rw[hg],λb hb=>by rw[hg];exact C6 b af⟩;rw[hg];refine⟨λb o hx hb=>?_,jz.inj⟩;obtain⟨h1,x,h2,h3⟩:=jz.kK b o hx hb;exact⟨.inl h1,x,by rw[hw];exact h2,h3.mono (λi hi=>.inl hi) (λ_ _=>rfl)⟩
theorem Good.refl (jz:eX P X A ρ s.heap.get w)(C6:∀b,s.next<=b->s.heap.get b=none):Good P X A ρ s s w w ρ:=Good.VG jz C6 rfl rfl rfl rfl rfl rfl
theorem Good.trans (hX:∀b,In s2.cV b->X b)(yO:aH s s1)(Cr:aH s1 s2)(hA:∀i,A i->i<s.next)(h:Good P X A ρ s s1 w w1 B3)(k:Good P X (dg A s.next s1.next) B3 s1 s2 w1 w2 Fw):Good P X A ρ s s2 w w2 Fw:=by
 have oN:∀i,dg (dg A s.next s1.next) s1.next s2.next i->dg A s.next s2.next i:=by
  rintro i ((h1|⟨h1,h2⟩)|⟨h1,h2⟩)
  .exact .inl h1
  .exact .inr ⟨h1,xi h2 Cr.next⟩
  .exact .inr ⟨gu yO.next h1,h2⟩
 refine⟨gu yO.next Cr.next,λi hi=>?_,k.state.mono oN (λ_ _=>rfl),?_,λb hb h2=>?_,λb h1 h2 h3=>?_,λb hb hw=>?_,k.dI⟩
 .rw[k.same i λh'=>hi ⟨gu yO.next h'.1,h'.2⟩,h.same i λh'=>hi ⟨h'.1,xi h'.2 Cr.next⟩]
 .refine⟨k.eN.os.trans h.eN.os,k.eN.tape.trans h.eN.tape,k.eN.output.trans h.eN.output,gu h.eN.size k.eN.size,λr hr ht=>?_⟩;rw[k.eN.block r (xi hr h.eN.size) ?_,h.eN.block r hr ?_]
  .rintro⟨b,o,hb,hx,ho,e⟩;exact ht ⟨b,o,Cr.wr b hb,hx,ho,e⟩
  .rintro⟨b,o,hb,hx,ho,e⟩;rcases lq b s.next with dz|hge
   .have h3:=h.old b dz (by rw[ho];simp);obtain⟨o',Bt⟩:=KD.1 h3;exact ht ⟨b,o',hb,hx,Bt,by rw[<-e,h.same b af]⟩
   .rcases lq b s1.next with FJ|ad2
    .rcases h.cu b hge FJ (by rw[ho];simp) with h3|⟨c,o',hc,hxc,hoc,h3⟩
     .omega
     .exact ht ⟨c,o',Cr.wr c hc,hxc,hoc,by rw[<-e,h3]⟩
    .rw[h.dI b ad2] at ho;cases ho
 .rcases KD.1 (k.old b (xi hb yO.next) h2) with⟨o,ho⟩
  exact h.old b hb (by rw[ho];simp)
 .rcases lq b s1.next with dz|hge
  .have h4:=k.old b dz h3;rw[k.same b af];rcases h.cu b h1 dz h4 with h5|⟨c,o,hc,hxc,hoc,h5⟩
   .exact .inl h5
   .exact .inr ⟨c,o,Cr.wr c hc,hxc,hoc,h5⟩
  .rcases k.cu b hge h2 h3 with h5|⟨c,o,hc,hxc,hoc,h5⟩
   .exact .inl (gu h.eN.size h5)
   .rcases lq c s.next with dz|akf
    .obtain⟨o',Bt⟩:=KD.1 (h.old c dz (by rw[hoc];simp));exact .inr ⟨c,o',hc,hxc,Bt,by rw[h5,h.same c af]⟩
    .rcases lq c s1.next with FJ|ad2
     .rcases h.cu c akf FJ (by rw[hoc];simp) with h6|⟨c',o',tg,akg,akh,h6⟩
      .exact .inl (by rw[h5];exact h6)
      .exact .inr ⟨c',o',Cr.wr c' tg,akg,akh,by rw[h5,h6]⟩
     .rw[h.dI c ad2] at hoc;cases hoc
 .rw[k.kept b (xi hb yO.next) hw,h.kept b hb λh'=>hw (Cr.wr b h')]
variable {E:iq}{s':St}
structure cW (E:iq)(P:Program):Prop where
 ty:∀t i,E.ty.get t=some i->P.info? t=some i
 fn:∀f x,E.fn.get f=some x->P.funcs[f]?=some x
 CZ:liesAt P P.depth E.CZ (2/ P.cellsOf E.CZ) 0 E.CZ 1=true
 agL:P.underlying E.CZ≠some (.int .u8)
 eqs:∀t xs,yG t xs E.eqs=true->∀(ys:aY)(r:Bool),fP xs ys=some r->∀w,(Op.equal t (.agg ⟨xs⟩) (.agg ⟨ys⟩)).run P w= .ok r w/\∀op ox oy,(eqGuard op t ox oy (.agg ⟨xs⟩) (.agg ⟨ys⟩)).run P w= .ok () w
 keys:∀t xs,yG t xs E.eqs=true->∀b w,(Instr.checkKey b 10000 t (.agg ⟨xs⟩)).run P w= .ok () w
 zs:∀t i z,E.ty.get t=some i->i.zero=some z->∀ρ,bX ρ z=z
 agM:∀t m f,ml t m E.rY=some f->∀(a:Addr)(args:Array Value) w,(callMethod (.iface t (.pointer (some a))) m args).run P w=(callFunc f (#[.pointer (some a)]++args)).run P w
 agO:∀t m f,ml t m E.rY=some f->∀(a:Addr) w,(nilAhead (P.types.size+Made.depth) t (.pointer (some a)) m).run P w= .ok (some false) w
theorem dW (hE:cW E P){t:TypeId}{d:TypeDesc}(h:gX E t=some d):P.underlying t=some d:=by
 obtain⟨i,hi,h⟩:=aF h;have h1:=hE.ty t i hi;unfold Program.underlying;rw[h1];unfold agD at h;split at h
 .rename_i n u hd;obtain⟨j,hj,h⟩:=aF h;have h2:=hE.ty u j hj;obtain⟨desc,_,_,_,_,_,_,_,_,_⟩:=i;simp only at hd;subst hd;simpa[h2] using h
 .rename_i hd;obtain⟨desc,_,_,_,_,_,_,_,_,_⟩:=i;simp only at hd h⊢;cases desc<;>simp_all
theorem Cs (hE:cW E P){t:TypeId}{n:Nat}(h:size E t=some n):∃i,P.info? t=some i/\i.size=n:=by obtain⟨i,hi,h⟩:=aF h;exact⟨i,hE.ty t i hi,by simpa using h⟩
theorem aam (hE:cW E P){t:TypeId}{z:Value}(h:zero E t=some z):∃i,P.info? t=some i/\i.zero=some z:=by obtain⟨i,hi,h⟩:=aF h;exact⟨i,hE.ty t i hi,h⟩
theorem mE (hE:cW E P){t:TypeId}{z:Value}(h:zero E t=some z)(ρ:ig):bX ρ z=z:=by obtain⟨i,hi,h⟩:=aF h;exact hE.zs t i z hi h ρ
theorem vH (hE:cW E P){t:TypeId}{d:TypeDesc}(h:gX E t=some d)(w:World):(isAgg t).run P w= .ok (xl d) w:=by unfold isAgg;simp only[Sem.run_bind,run_underlying (dW hE h) w,Result.andThen_ok];cases d<;>rfl
theorem run_sizeOf (hE:cW E P){t:TypeId}{n:Nat}(h:size E t=some n)(w:World):(sizeOf t).run P w= .ok n w:=by obtain⟨i,h1,h2⟩:=Cs hE h;simp[sizeOf,typeInfo,h1,h2]
theorem j8 (hE:cW E P){t:TypeId}{z:Value}(h:zero E t=some z)(w:World):(zeroValue t).run P w= .ok z w:=by obtain⟨i,h1,h2⟩:=aam hE h;simp[zeroValue,typeInfo,h1,h2]
theorem oa (hE:cW E P){t:TypeId}{n:Nat}(h:size E t=some n):P.cellsOf t=n:=by obtain⟨i,h1,h2⟩:=Cs hE h;simp[Program.cellsOf,h1,h2]
theorem K1 (v:Value):flat v=v.oneCell':=by cases v<;>rfl
theorem add_lit (b o i:Nat):(⟨b,o,none⟩:Addr).add i=⟨b,o+i,none⟩:=by unfold Addr.add;split<;>simp_all
theorem vI {w:World}{g:Nat}{cs:aY}{e:TypeId}{fr:Nat×Nat}(hg:w.heap[g]?=some (.cells ⟨cs⟩ e fr))(j:Nat):w.cell? ⟨g,j,none⟩=cs[j]?:=by simp[World.cell?,hg]
theorem gU (P:Program){w:World}{g:Nat}{cs:aY}{e:TypeId}{fr:Nat×Nat}(hg:w.heap[g]?=some (.cells ⟨cs⟩ e fr))(o n:Nat)(h:o+n<=cs.length):
  (loadCells ⟨g,o,none⟩ n).run P w= .ok ((cs.drop o).take n).toArray w:=by
 have hl:((cs.drop o).take n).length=n:=by simp;omega
 have:=run_loadCells_list (P:=P) w ⟨g,o,none⟩ ((cs.drop o).take n) (λj v hv=>by
  rw[add_lit,vI hg];rw[ID] at hv;split at hv
  .simpa using hv
  .cases hv)
 rwa [hl] at this
theorem rI (v:Value):∀(l:aY)(k:Nat),k<l.length->(l.set k v).take (k+1)=l.take k++[v]
 |[],k,h=>by simp at h
 |x::xs,0,_=>by simp
 |x::xs,k+1,h=>by simpa using rI v xs k (by simpa using h)
theorem wU (v:Value)(l:aY)(k m:Nat):(l.set k v).drop (k+1+m)=l.drop (k+1+m):=by rw[List.drop_set_of_lt af]
theorem mm (P:Program)(g o:Nat)(t:TypeId)(fz:Nat×Nat):∀(vs:aY)(i:Nat)(cur:Array Value)(w:World),w.heap[g]?=some (.cells cur t fz)->(fz=(0,0)\/cur.size<=fz.1)->o+i+vs.length<=cur.size->(∀v∈vs,v.oneCell'=true)->
  (storeCells ⟨g,o,none⟩ vs i).run P w= .ok () (w.setRow g (cur.toList.take (o+i)++vs++cur.toList.drop (o+i+vs.length)).toArray)
 |[],i,cur,w,hg,_,_,_=>by
  simp only[storeCells,gJ,kC,xj,yy,Array.toArray_toList];rw[setRow_self w g cur t fz hg];rfl
 |v::aE,i,cur,w,hg,hfz,hl,h1=>by
  have hi:o+i<cur.size:=by simp at hl;omega
  have FK:(⟨g,o,none⟩:Addr).add i=⟨g,o+i,none⟩:=add_lit g o i;have qk:w.cell? ⟨g,o+i,none⟩=some cur[o+i]:=by simp[World.cell?,hg,hi]
  have aki:w.frozen? ⟨g,o+i,none⟩=false:=by
   obtain⟨lo,fb⟩:=fz;simp only[World.frozen?,hg,Ab,mQ];rcases hfz with h|h
   .simp at h;omega
   .simp only at h;omega
  have jz:(store ((⟨g,o,none⟩:Addr).add i) v).run P w= .ok () (w.setRow g (cur.setIfInBounds (o+i) v)):=by
   rw[FK,run_store P w _ v _ (h1 v ay),qk];simp[aki,setCell_eq_setRow w g (o+i) cur t fz v hg]
  have ih:=mm P g o t fz aE (i+1) (cur.setIfInBounds (o+i) v) (w.setRow g (cur.setIfInBounds (o+i) v)) (setRow_heap w g cur _ t _ hg) (by simpa using hfz) (by simp at hl⊢;omega) (λx hx=>h1 x (by simp[hx]));simp only[storeCells,Sem.run_bind,jz,Result.andThen_ok,ih,setRow_setRow]
  congr 3
  rw[Array.toList_setIfInBounds,show o+(i+1)=o+i+1 by omega,rI _ _ _ (by simpa using hi),wU,cU,show o+i+1+aE.length=o+i+(aE.length+1) by omega];simp
theorem mo {β:Type}{k:aY->TypeId->Bool->St->Option β}{b:Nat}{r:β}(h:s.row b k=some r):∃c e u,s.heap.get b=some (.cells c e u)/\k c e u (s.aU b)=some r:=by
 obtain⟨o,h1,h2⟩:=aF h;cases o with
 |cells c e u=>exact⟨c,e,u,h1,h2⟩
 |map es=>cases h2
 |lL z p=>cases h2
 |um m=>cases h2
 |nW ws=>cases h2
theorem eX.row (h:eX P X A ρ s.heap.get w){b:Nat}{c:aY}{e:TypeId}{u:Bool}(hx:X b)(hg:s.heap.get b=some (.cells c e u)):
  A b/\∃(c' aE:aY)(fr:Nat×Nat),w.heap[(ρ b).1]?=some (.cells ⟨c'++aE⟩ e fr)/\LR A ρ c c'/\c'.length=c.length/\(fr=(0,0)\/(c'++aE).length<=fr.1)/\
    (u=true->fr=(0,0)/\c.length+aE.length=(ρ b).2*P.cellsOf e/\0<P.cellsOf e/\(ρ b).2<=maxLen)/\
    (u=false->((aE=[]/\fr=(0,0))\/(P.underlying e=some (.int .u8)/\P.cellsOf e=1/\c.length+aE.length<=fr.1))/\c.length<=(ρ b).2):=by
 obtain⟨h1,x,h2,c',aE,fr,rfl,h3,h4,h5⟩:=h.kK b _ hx hg;refine⟨h1,c',aE,fr,h2,h3,h3.length,?_,h4,h5⟩;cases u with
 |true=>exact .inl (h4 rfl).1
 |false=>rcases(h5 rfl).1 with h6|h6
         .exact .inl h6.2
         .exact .inr (by rw[bn,h3.length];exact h6.2.2)
theorem GO:∀(ws:List (Nat×aY))(off:Nat){p:Nat×aY},Br ws off=some p->p∈ws/\p.1<=off
 |[],off,p,h=>by cases h
 |q::l,off,p,h=>by
  have h:bo (Nat.ble q.1 off&&Nat.ble (Nat.succ (Nat.sub off q.1)) q.2.length) (some q) (Br l off)=some p:=h;rw[dJ] at h;split at h
  .rename_i hb;cases h
   rw[bI] at hb;exact⟨ga,mR hb.1⟩
  .obtain⟨h1,h2⟩:=GO l off h;exact⟨iV _ h1,h2⟩
theorem aan {β:Type}{k:aY->Nat->St->Option β}{b off:Nat}{r:β}(h:s.IH b off k=some r):∃c m,((m=0/\∃e u,s.heap.get b=some (.cells c e u))\/∃ws,s.heap.get b=some (.nW ws)/\(m,c)∈ws)/\m<=off/\k c (off-m) (s.aU b)=some r:=by
 obtain⟨o,h1,h2⟩:=aF h;cases o with
 |cells c e u=>exact⟨c,0,.inl ⟨rfl,e,u,h1⟩,iK _,h2⟩
 |map es=>cases h2
 |lL z p=>cases h2
 |um m=>cases h2
 |nW ws=>
  obtain⟨p,hp,h4⟩:=aF h2;obtain⟨h5,h6⟩:=GO ws off hp;exact⟨p.2,p.1,.inr ⟨ws,h1,h5⟩,h6,h4⟩
theorem eX.IH (h:eX P X A ρ s.heap.get w){b m:Nat}{c:aY}(hx:X b)(hg:(m=0/\∃e u,s.heap.get b=some (.cells c e u))\/∃ws,s.heap.get b=some (.nW ws)/\(m,c)∈ws):
  A b/\∃(pre c' aE:aY)(e:TypeId)(fr:Nat×Nat),w.heap[(ρ b).1]?=some (.cells ⟨pre++(c'++aE)⟩ e fr)/\pre.length=m/\LR A ρ c c'/\c'.length=c.length:=by
 rcases hg with⟨rfl,e,u,hg⟩|⟨ws,hg,hm⟩
 .obtain⟨h1,c',aE,fr,h2,h3,h4,_⟩:=h.row hx hg;exact⟨h1,[],c',aE,e,fr,h2,rfl,h3,h4⟩
 .obtain⟨h1,x,h2,cs,t,fr,rfl,h0⟩:=h.kK b _ hx hg;obtain⟨pre,c',aE,rfl,h4,h3⟩:=h0 _ hm;exact⟨h1,pre,c',aE,t,fr,h2,h4,h3,h3.length⟩
theorem K2 (hE:cW E P){t:TypeId}{b off:Nat}{v:Value}(h:lM E s t b off=some (v,s')):
  s'=s.aU b/\∀X A ρ w,X b->eX P X A ρ s.heap.get w->∃v',(loadVar t ⟨(ρ b).1,off,none⟩).run P w= .ok v' w/\VR A ρ v v':=by
 obtain⟨c,m,hg,hm,h⟩:=aan h;obtain⟨d,hd,h⟩:=aF h;cases ha:xl d with
 |true=>
  rw[ha] at h;obtain⟨n,hn,h⟩:=aF h;obtain⟨cs,qm,h⟩:=aF h;simp only[rG,cw] at h;obtain⟨rfl,rfl⟩:=h;refine⟨rfl,λX A ρ w hx jz=>?_⟩;obtain⟨h1,pre,c',aE,e,fr,h2,h0,h3,h4⟩:=jz.IH hx hg;rw[qi] at qm;obtain⟨h5,rfl⟩:=kJ qm;rw[eP] at h5;rcases xh n with rfl|vJ
  .refine⟨.agg #[],?_,?_⟩
   .unfold loadVar;simp only[Sem.run_bind,vH hE hd,ha,Result.andThen_ok,if_true,run_sizeOf hE hn];rfl
   .simpa using VR.agg (LR.nil (A:=A) (ρ:=ρ))
  .refine⟨.agg ⟨(c'.drop (off-m)).take n⟩,?_,?_⟩
   .unfold loadVar;simp only[Sem.run_bind,vH hE hd,ha,Result.andThen_ok,if_true,run_sizeOf hE hn];rw[gU P h2 off n (by simp;omega)];have:((pre++(c'++aE)).drop off).take n=(c'.drop (off-m)).take n:=by
     rw[List.drop_append,Ac af,pF,h0,Oh af,yz (by simp;omega)]
    rw[this];rfl
   .exact VR.agg ((h3.drop (off-m)).take n)
 |false=>
  rw[ha] at h;obtain⟨v0,hv,h⟩:=aF h;simp only[rG,cw] at h;obtain⟨rfl,rfl⟩:=h;refine⟨rfl,λX A ρ w hx jz=>?_⟩;obtain⟨h1,pre,c',aE,e,fr,h2,h0,h3,h4⟩:=jz.IH hx hg;rw[dO] at hv;obtain⟨v',hv',hr⟩:=h3.get hv;refine⟨v',?_,hr⟩;have hc:w.cell? ⟨(ρ b).1,off,none⟩=some v':=by
   rw[vI h2,Ad af,h0,wB (by
    have:=(sV.1 hv').1;omega)]
   exact hv'
  unfold loadVar;simp only[Sem.run_bind,vH hE hd,ha,Result.andThen_ok,pQ,jN];simp[load,Sem.run,hc]
variable {w':World}
def ig.at (ρ:ig)(n:Nat)(q:Nat×Nat):ig:=λi=>if i=n then q else ρ i
@[simp] theorem ig.q9 (ρ:ig)(n:Nat)(q:Nat×Nat):ρ.at n q n=q:=by simp[ig.at]
theorem ig.uo (ρ:ig){n i:Nat}(q:Nat×Nat)(h:i≠n):ρ.at n q i=ρ i:=by simp[ig.at,h]
theorem Good.bh {b:Nat}{o o':gv}{x':Obj}(jz:eX P X A ρ s.heap.get w)(lS:∀b,s.next<=b->s.heap.get b=none)(hx:X b)(hg:s.heap.get b=some o)
  (fg:∀c,s'.heap.get c=if c=b then some o' else s.heap.get c)(VH:s'.next=s.next)(mZ:In s'.wr b)
  (te:w'.heap[(ρ b).1]?=some x')(ho:FI P A ρ (ρ b) o' x')(hf:Fr w w' λr=>r=(ρ b).1):Good P X A ρ s s' w w' ρ:=by
 have hbn:b<s.next:=by
  rcases lq b s.next with h|h
  .exact h
  .rw[lS b h] at hg;cases hg
 have key:∀c o2,X c->s'.heap.get c=some o2->∃o3,s.heap.get c=some o3:=by
  intro c o2 _ h;rw[fg] at h;split at h
  .subst c;exact⟨o,hg⟩
  .exact⟨o2,h⟩
 refine⟨af,λ_ _=>rfl,⟨λc o2 hc h=>?_,λc c' o2 o3 hc tg h h' e=>?_⟩,⟨hf.os,hf.tape,hf.output,hf.size,λr hr ht=>hf.block r hr λe=>ht ⟨b,o,mZ,hx,hg,e.symm⟩⟩,λc hc h=>?_,λc h1 h2=>by omega,λc hc hw=>?_,λc hc=>?_⟩
 .rw[fg] at h;split at h
  .subst c;cases h
   exact⟨.inl (jz.kK b o hx hg).1,x',te,ho.mono (λi hi=>.inl hi) (λ_ _=>rfl)⟩
  .rename_i gh;obtain⟨h1,x,h2,h3⟩:=jz.kK c o2 hc h;refine⟨.inl h1,x,?_,h3.mono (λi hi=>.inl hi) (λ_ _=>rfl)⟩;rw[hf.block _ (uK.1 h2).1 (λe=>gh (jz.inj c b o2 o hc hx h hg e))];exact h2
 .obtain⟨o4,h4⟩:=key c o2 hc h;obtain⟨o5,h5⟩:=key c' o3 tg h';exact jz.inj c c' o4 o5 hc tg h4 h5 e
 .rw[fg] at h;split at h
  .subst c;rw[hg];simp
  .exact h
 .rw[fg,if_neg];rintro rfl;exact hw mZ
 .rw[fg,if_neg af];exact lS c af
theorem Good.alloc {o:gv}{x:Obj}{q:Nat×Nat}(jz:eX P X A ρ s.heap.get w)(lS:∀b,s.next<=b->s.heap.get b=none)(hA:∀i,A i->i<s.next)
  (fg:∀c,s'.heap.get c=if c=s.next then some o else s.heap.get c)(VH:s'.next=s.next+1)(mZ:In s'.wr s.next)
  (hq:w.heap.size<=q.1)(hx:w'.heap[q.1]?=some x)(ho:FI P A ρ q o x)(hf:Fr w w' λ_=>False):Good P X A ρ s s' w w' (ρ.at s.next q):=by
 have Ao:∀i,A i->ρ.at s.next q i=ρ i:=λi hi=>ig.uo ρ q (by have:=hA i hi;omega)
 have dz:∀c o2,X c->s.heap.get c=some o2->(ρ c).1<w.heap.size:=λc o2 hc h=>jz.lt hc h
 refine' zbh;refine⟨af,λi hi=>ig.uo ρ q af,⟨λc o2 hc h=>?_,λc c' o2 o3 hc tg h h' e=>?_⟩,⟨hf.os,hf.tape,hf.output,hf.size,λr hr ht=>hf.block r hr λe=>e⟩,λc hc h=>?_,λc h1 h2 h3=>?_,λc hc hw=>?_,λc hc=>?_⟩
 .rw[fg] at h;split at h
  .subst c;cases h
   rw[ig.q9];exact⟨.inr ⟨cC _,af⟩,x,hx,ho.mono (λi hi=>.inl hi) Ao⟩
  .obtain⟨h1,y,h2,h3⟩:=jz.kK c o2 hc h;rw[Ao c h1];refine⟨.inl h1,y,?_,h3.mono (λi hi=>.inl hi) Ao⟩;rw[hf.block _ (uK.1 h2).1 (λe=>e)];exact h2
 .rw[fg] at h h';split at h<;>split at h'
  .omega
  .subst c;rw[ig.q9,ig.uo ρ q (gh c' o3 h')] at e;have:=dz c' o3 tg h';omega
  .subst c';rw[ig.q9,ig.uo ρ q (gh c o2 h)] at e;have:=dz c o2 hc h;omega
  .rw[ig.uo ρ q (gh c o2 h),ig.uo ρ q (gh c' o3 h')] at e;exact jz.inj c c' o2 o3 hc tg h h' e
 .rw[fg,if_neg af] at h;exact h
 .have:c=s.next:=by omega
  subst c;rw[ig.q9];exact .inl hq
 .rw[fg,if_neg af]
 .rw[fg,if_neg af];exact lS c af
theorem Good.renew {b:Nat}{o o':gv}{x':Obj}(jz:eX P X A ρ s.heap.get w)(lS:∀b,s.next<=b->s.heap.get b=none)(hA:∀i,A i->i<s.next)(hx:X b)(hg:s.heap.get b=some o)
  (fg:∀c,s'.heap.get c=if c=s.next then some o' else if c=b then none else s.heap.get c)(VH:s'.next=s.next+1)(mZ:In s'.wr b)(hwn:In s'.wr s.next)
  (te:w'.heap[(ρ b).1]?=some x')(ho:FI P A ρ (ρ b) o' x')(hf:Fr w w' λr=>r=(ρ b).1):Good P X A ρ s s' w w' (ρ.at s.next (ρ b)):=by
 have Ao:∀i,A i->ρ.at s.next (ρ b) i=ρ i:=λi hi=>ig.uo ρ (ρ b) (by have:=hA i hi;omega)
 refine' zbh;refine⟨af,λi hi=>ig.uo ρ _ af,⟨λc o2 hc h=>?_,λc c' o2 o3 hc tg h h' e=>?_⟩,⟨hf.os,hf.tape,hf.output,hf.size,λr hr ht=>hf.block r hr λe=>ht ⟨b,o,mZ,hx,hg,e.symm⟩⟩,λc hc h=>?_,λc h1 h2 h3=>?_,λc hc hw=>?_,λc hc=>?_⟩
 .rw[fg] at h;split at h
  .subst c;cases h
   rw[ig.q9];exact⟨.inr ⟨cC _,af⟩,x',te,ho.mono (λi hi=>.inl hi) Ao⟩
  .split at h
   .cases h
   .rename_i hcb;obtain⟨h1,y,h2,h3⟩:=jz.kK c o2 hc h;rw[Ao c h1];refine⟨.inl h1,y,?_,h3.mono (λi hi=>.inl hi) Ao⟩;rw[hf.block _ (uK.1 h2).1 (λe=>hcb (jz.inj c b o2 o hc hx h hg e))];exact h2
 .rw[fg] at h h';split at h<;>split at h'
  .omega
  .subst c;split at h'
   .cases h'
   .rename_i hcb;rw[ig.q9,ig.uo ρ _ (gh c' o3 h')] at e;exact absurd (jz.inj c' b o3 o tg hx h' hg e.symm) hcb
  .subst c';split at h
   .cases h
   .rename_i hcb;rw[ig.q9,ig.uo ρ _ (gh c o2 h)] at e;exact absurd (jz.inj c b o2 o hc hx h hg e) hcb
  .split at h
   .cases h
   .split at h'
    .cases h'
    .rw[ig.uo ρ _ (gh c o2 h),ig.uo ρ _ (gh c' o3 h')] at e;exact jz.inj c c' o2 o3 hc tg h h' e
 .rw[fg,if_neg af] at h;split at h
  .exact absurd rfl h
  .exact h
 .have:c=s.next:=by omega
  subst c;rw[ig.q9];exact .inr ⟨b,o,mZ,hx,hg,rfl⟩
 .rw[fg,if_neg af,if_neg];rintro rfl;exact hw mZ
 .rw[fg,if_neg af];split
  .rfl
  .exact lS c af
theorem Good.drop {b:Nat}(jz:eX P X A ρ s.heap.get w)(lS:∀b,s.next<=b->s.heap.get b=none)
  (fg:∀c,s'.heap.get c=if c=b then none else s.heap.get c)(VH:s'.next=s.next)(mZ:In s'.wr b){o:gv}(hx:X b)(hg:s.heap.get b=some o)
  (hf:Fr w w' λr=>r=(ρ b).1):Good P X A ρ s s' w w' ρ:=by
 refine⟨af,λi hi=>rfl,⟨λc o2 hc h=>?_,λc c' o2 o3 hc tg h h' e=>?_⟩,⟨hf.os,hf.tape,hf.output,hf.size,λr hr ht=>hf.block r hr λe=>ht ⟨b,o,mZ,hx,hg,e.symm⟩⟩,λc hc h=>?_,λc h1 h2 h3=>by omega,λc hc hw=>?_,λc hc=>?_⟩
 .rw[fg] at h;split at h
  .cases h
  .rename_i hcb;obtain⟨h1,y,h2,h3⟩:=jz.kK c o2 hc h;refine⟨.inl h1,y,?_,h3.mono (λi hi=>.inl hi) (λ_ _=>rfl)⟩;rw[hf.block _ (uK.1 h2).1 (λe=>hcb (jz.inj c b o2 o hc hx h hg e))];exact h2
 .rw[fg] at h h';split at h
  .cases h
  .split at h'
   .cases h'
   .exact jz.inj c c' o2 o3 hc tg h h' e
 .rw[fg] at h;split at h
  .exact absurd rfl h
  .exact h
 .rw[fg,if_neg];rintro rfl;exact hw mZ
 .rw[fg];split
  .rfl
  .exact lS c af
theorem Fr.alloc (w:World)(o:Obj):Fr w (w.alloc o) λ_=>False:=⟨rfl,rfl,rfl,ay,λr hr _=>by first|exact heap_alloc_old w o r hr|exact heap_alloc_old w o hr⟩
theorem Fr.GP (w:World)(o:Obj):Fr w (w.drew.alloc o) λ_=>False:=⟨rfl,rfl,rfl,ay,λr hr _=>by first|exact heap_alloc_old w.drew o r hr|exact heap_alloc_old w.drew o hr⟩
theorem Fr.setRow (w:World)(g:Nat)(cs:Array Value):Fr w (w.setRow g cs) λr=>r=g:=⟨rfl,rfl,rfl,ay,λr _ h=>setRow_other w g r cs h⟩
variable {m:Sem Value}
def Gl (A:Nat->Prop)(ρ:ig):Prop:=∀g,g<16->A g/\(ρ g).1=g
structure pb (P:Program)(X A:Nat->Prop)(ρ:ig)(s s':St)(w:World):Prop where
 lt:∀i,A i->i<s.next
 dI:∀b,s.next<=b->s.heap.get b=none
 cV:∀b,In s'.cV b->X b
 st:eX P X A ρ s.heap.get w
def cJ (P:Program)(X A:Nat->Prop)(ρ:ig)(s s':St)(w:World)(v:Value)(m:Sem Value):Prop:=
 ∃v' w' eb,m.run P w= .ok v' w'/\VR (dg A s.next s'.next) eb v v'/\Good P X A ρ s s' w w' eb
theorem cJ.same (h:pb P X A ρ s s' w)(hn:s'.next=s.next)(hg:s'.heap=s.heap)(hr:m.run P w= .ok v' w)(hv:VR A ρ v v'):cJ P X A ρ s s' w v m:=
 ⟨v',w,ρ,hr,hv.mono (λi hi=>.inl hi) (λ_ _=>rfl),Good.VG h.st h.dI hn hg rfl rfl rfl rfl⟩
theorem cJ.pure (h:pb P X A ρ s s w)(hr:m.run P w= .ok v' w)(hv:VR A ρ v v'):cJ P X A ρ s s w v m:=cJ.same h rfl rfl hr hv
theorem fQ (s:St)(b:Nat):In (s.aU b).cV b:=by rw[se];exact(gO _ _ _).2 (.inr rfl)
theorem fh (s:St)(b:Nat)(o:Option gv):In (s.put b o).cV b:=by rw[q8];exact(gO _ _ _).2 (.inr rfl)
theorem ix (s:St)(b:Nat)(o:Option gv):In (s.put b o).wr b:=by rw[td];exact(gO _ _ _).2 (.inr rfl)
theorem j9 (s:St)(o:gv):In (s.new o).wr s.next:=by rw[xw];exact(gO _ _ _).2 (.inr rfl)
theorem qo (e:TypeId)(cs:Array Value)(w:World):(newRow e cs).run P w= .ok ⟨w.heap.size,0,none⟩ (w.alloc (.cells cs e)):=rfl
theorem QL {c:aY}{t:TypeId}(h:Oo s c t=some (v,s')):aH s s'/\∀X A ρ w c',pb P X A ρ s s' w->LR A ρ c c'->cJ P X A ρ s s' w v (do pure (.pointer (some (<-newRow t ⟨c'⟩)))):=by
 simp only[Oo,aM,rG,cw] at h;obtain⟨rfl,rfl⟩:=h;refine⟨aH.jd s _,λX A ρ w c' hp hc=>⟨.pointer (some ⟨w.heap.size,0,none⟩),w.alloc (.cells ⟨c'⟩ t),ρ.at s.next (w.heap.size,c.length),?_,?_,?_⟩⟩
 .simp only[Sem.run_bind,qo,Result.andThen_ok];rfl
 .have:=VR.ptr (A:=dg A s.next (s.new (.cells c t false)).next) (ρ:=ρ.at s.next (w.heap.size,c.length)) (b:=s.next) (o:=0) (s:=none) (.inr ⟨cC _,ay⟩);simpa using this
 .refine Good.alloc (o:=.cells c t false) (x:=.cells ⟨c'⟩ t) hp.st hp.dI hp.lt (λc=>by simp) ay (j9 s _) (cC _) (heap_alloc_new w _) ?_ (Fr.alloc w _);exact⟨c',[],(0,0),ay,hc,(λh=>by cases h),λ_=>⟨.inl ⟨rfl,rfl⟩,cC _⟩⟩
theorem SC (hE:cW E P){t:TypeId}(h:IK E s t=some (v,s')):aH s s'/\∀X A ρ w,pb P X A ρ s s' w->cJ P X A ρ s s' w v (Instr.alloc t true (.tuple #[])):=by
 obtain⟨z,hz,h⟩:=aF h;obtain⟨hg,hk⟩:=QL (P:=P) h;refine⟨hg,λX A ρ w hp=>?_⟩;have hc:LR A ρ (bZ z) z.cells.toList:=by rw[gT];exact(VR.ground (mE hE hz)).cells
 obtain⟨v',w',eb,h1,h2,h3⟩:=hk X A ρ w _ hp hc;refine⟨v',w',eb,?_,h2,h3⟩;rw[<-h1];unfold Instr.alloc;simp only[Sem.run_bind,j8 hE hz,Result.andThen_ok];rfl
theorem IQ {β:Type}{x:Value}{k:Nat->Nat->Option β}{r:β}(h:Fv x k=some r):∃b o,x= .pointer (some ⟨b,o,none⟩)/\k b o=some r:=by
 unfold Fv at h;split at h
 .exact⟨_,_,rfl,h⟩
 .cases h
theorem VR.nR {b o:Nat}{t:Option Nat}(h:VR A ρ (.pointer (some ⟨b,o,t⟩)) v'):v'= .pointer (some ⟨(ρ b).1,o,t⟩):=by rw[<-h.self,nf]
theorem VR.fR {b o l c:Nat}(h:VR A ρ (.slice (some ⟨b,o,none⟩) l c) v'):v'= .slice (some ⟨(ρ b).1,o,none⟩) l (de (ρ b) c):=by rw[<-h.self,eA]
theorem VR.ti {a:Addr}{l c:Nat}(h:VR A ρ (.slice (some a) l c) v'):∃a',v'= .slice (some a') l (de (ρ a.block) c):=by obtain⟨a',h1⟩:=sd ρ a l c;exact⟨a',by rw[<-h.self,h1]⟩
theorem VR.je {l c:Nat}(h:VR A ρ (.slice none l c) v'):v'= .slice none l c:=by rw[<-h.self];simp
theorem aao (hE:cW E P){t:TypeId}{a:Value}(h:(Fv a λb o=>lM E s t b o)=some (v,s')):aH s s'/\∀X A ρ w a',pb P X A ρ s s' w->VR A ρ a a'->cJ P X A ρ s s' w v (Instr.loadAt t a'):=by obtain⟨b,o,rfl,h'⟩:=IQ h;clear h;replace h:=h';clear h';obtain⟨rfl,hk⟩:=K2 hE h;refine⟨aH.aU s b,λX A ρ w a' hp ha=>?_⟩;obtain⟨v',h1,h2⟩:=hk X A ρ w (hp.cV b (fQ s b)) hp.st;refine cJ.same hp ay ay ?_ h2;rw[ha.nR];exact h1
theorem VI (hE:cW E P){t:TypeId}{a x:Value}(h:(Fv a λb o=>nc E s t b o x)=some (v,s')):aH s s'/\∀X A ρ w a' x',pb P X A ρ s s' w->VR A ρ a a'->VR A ρ x x'->
  v= .tuple ⟨[]⟩/\∃w' eb,(Instr.storeAt t a' x').run P w= .ok () w'/\Good P X A ρ s s' w w' eb:=by
 obtain⟨b,o,rfl,h'⟩:=IQ h;clear h;replace h:=h';clear h';obtain⟨c,e,u,hg,h⟩:=mo h;obtain⟨n,hn,h⟩:=aF h;obtain⟨hl,h⟩:=bq h;obtain⟨hf,h⟩:=bq h;obtain⟨cs,qm,h⟩:=aF h;simp only[rG,cw] at h;obtain⟨rfl,rfl⟩:=h;refine⟨(aH.aU s b).trans (aH.put _ b _ (by rw[gB,hg];simp)),λX A ρ w a' x' hp ha hx=>⟨rfl,?_⟩⟩;have hX:X b:=hp.cV b (fh _ b _);obtain⟨hA,c',aE,fr,h2,h3,h4,h5,h6,h7⟩:=hp.st.row hX hg;rw[gT] at qm hl hf;rw[c8] at hl;obtain⟨h8,h9⟩:=n4 _ _ qm;have hxc:=hx.cells;have FL:=hxc.length;have jA:x'.cells.toList.length=n:=by rw[FL];simpa using hl
 rw[ha.nR];refine⟨w.setRow (ρ b).1 (⟨(c'++aE).take o++x'.cells.toList++(c'++aE).drop (o+x'.cells.toList.length)⟩),ρ,?_,?_⟩
 .unfold Instr.storeAt Instr.sureAddr storeVar;have iX:x'.cells.size=n:=by simpa using jA
  have oc:=mm P (ρ b).1 o e fr x'.cells.toList 0 ⟨c'++aE⟩ w h2 (by simpa using h5) (by simp at h8 FL⊢;omega) (λy hy=>by rw[<-K1];exact hxc.ku ((n9 _).1 hf) y hy);simp only[Sem.run_bind,Sem.run_pure,Result.andThen_ok,run_sizeOf hE hn,iX,ne_eq,not_true,pQ,ite_false];simpa using oc
 .have cX:(c'++aE).take o++x'.cells.toList++(c'++aE).drop (o+x'.cells.toList.length)=(c'.take o++x'.cells.toList++c'.drop (o+x'.cells.toList.length))++aE:=by
   rw[yz af,Oh af];simp
  refine Good.bh (o:=.cells c e u) (o':=.cells cs e u) hp.st hp.dI hX hg (λc=>by simp) ay (ix _ b _) (setRow_heap w _ _ _ _ _ h2) ?_ (Fr.setRow w _ _);have h8':o+x.cells.size<=c.length:=by simpa using h8
  have uA:cs.length=c.length:=by rw[h9];simp;omega
  refine⟨c'.take o++x'.cells.toList++c'.drop (o+x'.cells.toList.length),aE,fr,by rw[cX],?_,?_,?_⟩
  .rw[h9,FL];exact((h3.take o).append hxc).append (h3.drop _)
  .rw[uA];exact h6
  .rw[uA];exact h7
variable {x y x' y':Value}
theorem rJ (a b:Int):Vb a b=decide (a<b):=by
 unfold Vb;split
 .rename_i x y;rw[pd];simp[Sm]
 .rename_i x y;simp only[Bool.false_eq,mQ,Int.ofNat_eq_natCast];omega
 .rename_i x y;simp only[Bool.true_eq,bR,Int.ofNat_eq_natCast];omega
 .rename_i x y;rw[pd];simp only[pe,bR];omega
theorem jB (a b:Int):yE a b=(a== b):=by
 unfold yE;split
 .rename_i x y;rw[pd];simp only[zZ,Ae,Int.ofNat_eq_natCast];omega
 .rename_i x y;rw[pd];simp
 .rename_i h1 h2;rw[pd];simp only[jN,Ae,false_iff];rintro rfl;cases a with
  |ofNat x=>exact h1 x x rfl rfl
  |negSucc x=>exact h2 x x rfl rfl
theorem jR (k:IntKind)(n:Int):qf k n=k.wrap n:=by
 unfold qf;split
 .rename_i m;rw[dJ];split
  .rename_i h;simp only[pe] at h;cases k<;>simp[half,IntKind.wrap,IntKind.bits,IntKind.signed] at h⊢<;>omega
  .rfl
 .rfl
theorem vK {k j:IntKind}(h:qg k j=true):k=j:=by cases k<;>cases j<;>first|rfl|(exact absurd h bT)
theorem eQ (x:List UInt8):∀y,gz x y=(x== y):=by
 induction x with
 |nil=>intro y;cases y<;>rfl
 |cons a x ih=>intro y;cases y with
  |nil=>rfl
  |cons b y=>
   have h:gz (a::x) (b::y)=bo (Nat.beq a.toNat b.toNat) (gz x y) false:=rfl;rw[h,ih,dJ,pd];simp[sW]
theorem tj (x:List UInt8):∀y,oD x y=Op.bytesLess x y:=by
 induction x with
 |nil=>intro y;cases y<;>simp[Op.bytesLess]<;>rfl
 |cons a x ih=>intro y;cases y with
  |nil=>simp[Op.bytesLess];rfl
  |cons b y=>
   have h:oD (a::x) (b::y)=bo (Nat.ble (Nat.succ a.toNat) b.toNat) true (bo (Nat.beq a.toNat b.toNat) (oD x y) false):=rfl;rw[h,ih,dJ,dJ];simp only[Op.bytesLess,pe,zZ,Sm,<-Sp,sW];rw[pd];by_cases h1:a<b<;>by_cases h2:a=b<;>simp[h1,h2]
theorem toList_data (s:ByteArray):s.toList=s.data.toList:=ByteArray.toList_eq s
theorem VJ {β:Type}{b:Bool}{x:Option β}{r:β}(h:bo b none x=some r):b=false/\x=some r:=by
 cases b with
 |true=>cases h
 |false=>exact⟨rfl,h⟩
theorem VK {op:BinOp}{k:IntKind}{a b:Int}(h:KS op k a b=some v)(t:TypeId)(w:World):(binOp op t (.int k a) (.int k b)).run P w= .ok v w/\∀ρ,bX ρ v=v:=by
 cases op<;>simp only[KS,rG,reduceCtorEq] at h
 case quo=>
  refine' zaR
 case rem=>
  refine' zaR
 case xor=>
  unfold agE at h;split at h
  .rename_i m n;obtain⟨h0,h⟩:=bq h;simp only[rG] at h;subst h;simp only[bI,pe] at h0;refine⟨?_,λρ=>by simp⟩;have hm:m<2^ 8:=by omega
   have hn:n<2^ 8:=by omega
   have hx:(BitVec.ofInt 8 (Int.ofNat m)^^^ BitVec.ofInt 8 (Int.ofNat n)).toNat=m^^^ n:=by
    rw[BitVec.toNat_xor];have e1:(BitVec.ofInt 8 (Int.ofNat m)).toNat=m:=by
     rw[show(Int.ofNat m)=((m:Nat):Int) from rfl,aaa,aab,IE hm]
    have e2:(BitVec.ofInt 8 (Int.ofNat n)).toNat=n:=by
     rw[show(Int.ofNat n)=((n:Nat):Int) from rfl,aaa,aab,IE hn]
    rw[e1,e2]
   have dz:m^^^ n<2^ 8:=Nat.xor_lt_two_pow hm hn;simp only[binOp,Op.intBits,IntKind.bits,Sem.run_pure,Result.ok.injEq,Value.int.injEq,FF,Af,ne_eq,not_true_eq_false,pQ,ite_false];show IntKind.u8.wrap ((((BitVec.ofInt 8 (Int.ofNat m))^^^ (BitVec.ofInt 8 (Int.ofNat n)):BitVec 8).toNat:Nat):Int)=((m^^^ n:Nat):Int);rw[hx];generalize m^^^ n=z at dz⊢;simp[IntKind.wrap,IntKind.bits,IntKind.signed];omega
  .rename_i m n;obtain⟨h0,h⟩:=bq h;simp only[rG] at h;subst h;simp only[bI,pe] at h0;refine⟨?_,λρ=>by simp⟩;have hm:m<2^ 62:=by omega
   (have hm':m<2^ 64:=by omega);(have hn:n<2^ 62:=by omega);have hn':n<2^ 64:=by omega
   have hx:(BitVec.ofInt 64 (Int.ofNat m)^^^ BitVec.ofInt 64 (Int.ofNat n)).toNat=m^^^ n:=by
    rw[BitVec.toNat_xor];have e1:(BitVec.ofInt 64 (Int.ofNat m)).toNat=m:=by
     rw[show(Int.ofNat m)=((m:Nat):Int) from rfl,aaa,aab,IE hm']
    have e2:(BitVec.ofInt 64 (Int.ofNat n)).toNat=n:=by
     rw[show(Int.ofNat n)=((n:Nat):Int) from rfl,aaa,aab,IE hn']
    rw[e1,e2]
   have dz:m^^^ n<2^ 62:=Nat.xor_lt_two_pow hm hn;simp only[binOp,Op.intBits,IntKind.bits,Sem.run_pure,Result.ok.injEq,Value.int.injEq,FF,Af,ne_eq,not_true_eq_false,pQ,ite_false];show IntKind.i64.wrap ((((BitVec.ofInt 64 (Int.ofNat m))^^^ (BitVec.ofInt 64 (Int.ofNat n)):BitVec 64).toNat:Nat):Int)=((m^^^ n:Nat):Int);rw[hx];generalize m^^^ n=z at dz⊢;simp[IntKind.wrap,IntKind.bits,IntKind.signed];omega
  .cases h
 all_goals
  subst h;refine⟨?_,λρ=>by simp⟩;first
                                  |(simp[binOp,Op.intArith,Op.intCmp,jR];done)
                                  |(simp[binOp,Op.intArith,Op.intCmp,rJ,jB];done)
                                  |(simp only[binOp,Op.intCmp,rJ,jB,ne_eq,not_true,pQ,ite_false,Sem.run_pure,Result.ok.injEq,Af,Value.bool.injEq];rw[pd];simp;done)
                                  |(simp[binOp,Op.intArith,Op.intCmp,jR];rfl)
theorem VL {op:BinOp}{a b:List UInt8}(h:VB op a b=some v)(t:TypeId)(w:World):(binOp op t (.string ⟨⟨a⟩⟩) (.string ⟨⟨b⟩⟩)).run P w= .ok v w/\∀ρ,bX ρ v=v:=by
 cases op<;>simp only[VB,rG,reduceCtorEq] at h
 case add=>
  obtain⟨h0,h⟩:=bq h;simp only[rG] at h;subst h;refine⟨?_,λρ=>by simp⟩;have iX:¬(IntKind.max .i64<(((⟨⟨a⟩⟩:ByteArray).size+(⟨⟨b⟩⟩:ByteArray).size:Nat):Int)):=by
   (have h1:a.length+b.length<=1000000000:=by simpa using h0);have h2:(⟨⟨a⟩⟩:ByteArray).size=a.length:=rfl;have h3:(⟨⟨b⟩⟩:ByteArray).size=b.length:=rfl;simp only[IntKind.max,IntKind.signed,IntKind.bits,h2,h3];simp;omega
  have akj:((⟨⟨a⟩⟩:ByteArray)++(⟨⟨b⟩⟩:ByteArray))=⟨⟨a++b⟩⟩:=by
   rw[ByteArray.mk_append_mk];try rfl
  simp only[binOp,Op.stringOp,gt_iff_lt,if_neg iX,akj,Sem.run_pure]
 all_goals
  subst h;refine⟨?_,λρ=>by simp⟩;simp[binOp,Op.stringOp,toList_data,eQ,tj,dJ]
theorem IS {op:BinOp}{r:Option Bool}(h:Ai op r=some v):∃b,r=some b/\((op= .eql/\v= .bool b)\/(op= .neq/\v= .bool !b)):=by
 unfold Ai at h;split at h
 .obtain⟨b,h1,h2⟩:=aF h;exact⟨b,h1,.inl ⟨rfl,by simpa using h2.symm⟩⟩
 .obtain⟨b,h1,h2⟩:=aF h;exact⟨b,h1,.inr ⟨rfl,by simpa using h2.symm⟩⟩
 .cases h
theorem lu (x y:Value)(xs ys:aY):fP (x::xs) (y::ys)=ob (lP x y) λe=>ob (fP xs ys) λr=>some (bo e r false):=rfl
theorem uX:fP [] []=some true:=rfl
theorem FM {b:Bool}(h:lP x y=some b):(∀ρ,bX ρ x=x)/\(∀ρ,bX ρ y=y):=by
 unfold lP at h;split at h
 .exact⟨λρ=>by simp,λρ=>by simp⟩
 .exact⟨λρ=>by simp,λρ=>by simp⟩
 .exact⟨λρ=>by simp,λρ=>by simp⟩
 .cases h
theorem uY (xs:aY):∀(ys:aY)(r:Bool),fP xs ys=some r->(∀ρ,xs.map (bX ρ)=xs)/\(∀ρ,ys.map (bX ρ)=ys):=by
 induction xs with
 |nil=>intro ys r h;cases ys with
  |nil=>simp
  |cons y ys=>cases h
 |cons x xs ih=>
  intro ys r h;cases ys with
  |nil=>cases h
  |cons y ys=>
   rw[lu] at h;obtain⟨e,he,h1⟩:=aF h;obtain⟨r',h2,h3⟩:=aF h1;obtain⟨g1,g2⟩:=FM he;obtain⟨g3,g4⟩:=ih _ _ h2;exact⟨λρ=>by rw[xg,g1,g3],λρ=>by rw[xg,g2,g4]⟩
theorem IT (v:Value)(xs:aY)(k:Nat)(ks:List Nat):eV (v::xs) (k::ks)=bo (Nat.beq (yF v) k) (bo (Nat.ble k 2) (eV xs ks) false) false:=rfl
theorem ng {v:Value}{xs:aY}{k:Nat}{ks:List Nat}(h:eV (v::xs) (k::ks)=true):yF v=k/\k<=2/\eV xs ks=true:=by
 rw[IT,dJ,dJ] at h;split at h
 .rename_i h1;split at h
  .rename_i h2;exact⟨by simpa using h1,by simpa using h2,h⟩
  .cases h
 .cases h
theorem Ap {v:Value}(h:yF v=0):∃n,v= .int .i64 n:=by
 unfold yF at h;split at h
 .exact⟨_,rfl⟩
 all_goals cases h
theorem Aq {v:Value}(h:yF v=1):∃z,v= .string ⟨⟨z⟩⟩:=by
 unfold yF at h;split at h
 .cases h
 .rename_i s;obtain⟨⟨z⟩⟩:=s;exact⟨z,rfl⟩
 all_goals cases h
theorem xx {v:Value}(h:yF v=2):∃b,v= .bool b:=by
 unfold yF at h;split at h
 .cases h
 .cases h
 .exact⟨_,rfl⟩
 .cases h
theorem uZ:∀(xs:aY)(ks:List Nat),eV xs ks=true->∀ρ,xs.map (bX ρ)=xs
 |[],_,_,ρ=>rfl
 |v::xs,[],h,ρ=>by cases h
 |v::xs,k::ks,h,ρ=>by
  obtain⟨h1,h2,h3⟩:=ng h;rw[xg,uZ xs ks h3 ρ];have:k=0\/k=1\/k=2:=by omega
  rcases this with h|h|h
  .obtain⟨n,rfl⟩:=Ap (h1.trans h);simp
  .obtain⟨n,rfl⟩:=Aq (h1.trans h);simp
  .obtain⟨n,rfl⟩:=xx (h1.trans h);simp
theorem u0 (t:Nat)(xs:aY):∀l:List (TypeId×List Nat),yG t xs l=true->∃ks,(t,ks)∈l/\eV xs ks=true
 |[],h=>by cases h
 |p::r,h=>by
  have h2:bo (bo (Nat.beq t p.1) (eV xs p.2) false) true (yG t xs r)=true:=h;rw[dJ] at h2;split at h2
  .rename_i h3;rw[dJ] at h3;split at h3
   .rename_i h4;have:t=p.1:=by simpa using h4
    exact⟨p.2,by rw[this];exact ga ..,h3⟩
   .cases h3
  .obtain⟨ks,h5,h6⟩:=u0 t xs r h2;exact⟨ks,iV _ h5,h6⟩
theorem K3 {t:Nat}{xs:aY}{l:List (TypeId×List Nat)}(h:yG t xs l=true):∀ρ,xs.map (bX ρ)=xs:=by obtain⟨ks,_,h2⟩:=u0 t xs l h;exact uZ xs ks h2
theorem binOp_eql {t:TypeId}{x y:Value}{b:Bool}(hx:∀k n,x≠ .int k n)(hf:∀k n,x≠ .float k n)(hc:∀k m n,x≠ .complex k m n)(hs:∀s,x≠ .string s)(h:(Op.equal t x y).run P w= .ok b w):
  (binOp .eql t x y).run P w= .ok (.bool b) w/\(binOp .neq t x y).run P w= .ok (.bool !b) w:=by
 unfold binOp;constructor<;>split<;>simp_all
theorem pH (op:BinOp)(t:TypeId)(ox oy:Operand){x y:Value}(hn:¬(x= .nilIface/\y= .nilIface))(ha:∀a b,¬(x= .agg a/\y= .agg b)):(eqGuard op t ox oy x y).run P w= .ok () w:=by
 unfold eqGuard;cases op<;>simp only[Oi,IF,jN,pQ,if_true,ite_false,ite_true]<;>first|rfl|skip
 all_goals
  split
  .exact absurd ⟨rfl,rfl⟩ hn
  .exact absurd ⟨rfl,rfl⟩ (ha _ _)
  .rfl
theorem VM (hE:cW E P){t:TypeId}{d:TypeDesc}{b:Bool}(hd:gX E t=some d)(h:Z2 E d x y=some b)(hx:VR A ρ x x')(hy:VR A ρ y y')(w:World):(Op.equal t x' y').run P w= .ok b w:=by
 have hu:=dW hE hd;unfold Op.equal Op.maxDepth;unfold Op.equalIn;simp only[Sem.run_bind,run_underlying hu,Result.andThen_ok];unfold Z2 at h;split at h
 .rw[hx.tc,hy.tc];simpa using h
 .have:=hx.self;simp only[GM] at this;subst this;rename_i a;have xy:=hy.self;rw[<-xy];cases a with
  |none=>simpa using h
  |some a=>obtain⟨b,o,s⟩:=a;simp only[nf];simpa using h
 .rename_i a;obtain⟨b,o,s⟩:=a;rw[hx.nR];have xy:=hy.self;simp only[GM] at xy;subst xy;simpa using h
 .obtain⟨n,hn,h⟩:=aF h;obtain⟨h1,h3⟩:=bq h;clear h;have hb:=iU h3;clear h3;rw[bI] at h1;obtain⟨h1,h2⟩:=h1;have e1:=nV h1;have e2:=nV h2;subst e1 e2 hb;rw[hx.nR,hy.nR];simp only[Sem.run_bind,run_sizeOf hE hn,Result.andThen_ok];split
  .simp[sameAddr]
  .simp
 .have:=hx.je;subst this;rename_i a l2 c2;cases a with
  |none=>have:=hy.je;subst this;simpa using h
  |some a=>obtain⟨a',xy⟩:=hy.ti;rw[xy];simpa using h
 .rename_i a l1 c1 l2 c2;obtain⟨a',te⟩:=hx.ti;rw[te,hy.je];simpa using h
 .have h1:=hx.self;have h2:=hy.self;simp only[ta] at h1 h2;subst h1 h2;simpa using h
 .have h1:=hx.self;simp only[ta] at h1;subst h1;rename_i fn f c;obtain⟨f⟩:=f;obtain⟨c⟩:=c;obtain⟨f',c',rfl,_,_⟩:=hy.C5;simpa using h
 .have h1:=hy.self;simp only[ta] at h1;subst h1;rename_i fn f c;obtain⟨f⟩:=f;obtain⟨c⟩:=c;obtain⟨f',c',rfl,_,_⟩:=hx.C5;simpa using h
 .cases h
theorem FN (op:BinOp)(t:TypeId){ox oy:Operand}(hc:(isC ox||isC oy)=true)(w:World):(eqGuard op t ox oy .nilIface .nilIface).run P w= .ok () w:=by
 cases ox<;>cases oy<;>first
  |(cases op<;>(simp[eqGuard];done))
  |(simp[isC] at hc;done)
def odd (x:Value):Bool:=match x with
 |.bool _=>true
 |.pointer _=>true
 |.slice .. =>true
 |.func .. =>true
 |.nilFunc=>true
 |_=>false
theorem VN (ρ:ig)(v:Value):odd (bX ρ v)=odd v:=by
 cases v<;>try(simp[bX,odd];done)
 .rename_i a;cases a<;>simp[bX,odd]
 .rename_i a l c;cases a with
  |none=>simp[bX,odd]
  |some a=>
   obtain⟨a',h⟩:=sd ρ a l c;rw[h];simp[odd]
 .rename_i a;cases a<;>simp[bX,odd]
theorem aap {d:TypeDesc}{b:Bool}(h:Z2 E d x y=some b):odd x=true:=by unfold Z2 at h;split at h<;>first|rfl|(cases h;done)
theorem aaq (hE:cW E P){op:BinOp}{t:TypeId}{ox oy:Operand}(h:Su E op t (isC ox||isC oy) x y=some v)(hx:VR A ρ x x')(hy:VR A ρ y y')(w:World):
  ∃v',(do eqGuard op t ox oy x' y';binOp op t x' y').run P w= .ok v' w/\VR A ρ v v':=by
 simp only[Sem.run_bind];unfold Su at h;split at h
 .rename_i k a k' b;rw[dJ] at h;split at h
  .rw[hx.mD,hy.mD,pH op t ox oy ay ay];have hb:GF k=k.bits:=by cases k<;>rfl
   have SD:∀m:Nat,C0 m (GF k)=min m k.bits:=λm=>by
    unfold C0;rw[dJ,hb];simp only[pe];split<;>omega
   unfold shV at h;split at h
   .rename_i m n _;have:=iU h;subst this;refine⟨_,?_,VR.int _ _⟩;simp only[Result.andThen_ok,binOp,Op.shift];have h0:¬(Int.ofNat n<0):=by simp
    rw[if_neg h0,SD];simp only[Sem.run_pure]
    congr 2
    show Int.fdiv (Int.ofNat m) (2^ (min (Int.toNat (Int.ofNat n)) k.bits))=_;have e1:(2:Int)^ (min (Int.toNat (Int.ofNat n)) k.bits)=((2^ (min n k.bits):Nat):Int):=by
     simp
    rw[e1];show Int.fdiv ((m:Nat):Int) _=((Nat.shiftRight m (min n k.bits):Nat):Int);rw[Int.fdiv_eq_ediv_of_nonneg _ (KE _),<-Int.natCast_ediv]
    congr 1
    exact(Nat.shiftRight_eq_div_pow m _).symm
   .rename_i m n _;have:=iU h;subst this;refine⟨_,?_,VR.int _ _⟩;simp only[Result.andThen_ok,binOp,Op.shift];have h0:¬(Int.ofNat n<0):=by simp
    rw[if_neg h0,SD,jR];simp only[Sem.run_pure]
    congr 3
    have e1:(2:Int)^ (min (Int.toNat (Int.ofNat n)) k.bits)=((2^ (min n k.bits):Nat):Int):=by
     simp
    rw[e1];show((m:Nat):Int)*((2^ (min n k.bits):Nat):Int)=((Nat.shiftLeft m (min n k.bits):Nat):Int);rw[<-Int.natCast_mul]
    congr 1
    exact(Nat.shiftLeft_eq m _).symm
   .cases h
  obtain⟨h1,h0⟩:=IP h;clear h;have:=vK h1;subst this;rw[hx.mD,hy.mD];obtain⟨h2,h3⟩:=VK (P:=P) h0 t w;rw[pH op t ox oy ay ay];exact⟨v,h2,VR.ground h3⟩
 .rename_i a b;rw[hx.uW,hy.uW];obtain⟨h2,h3⟩:=VL (P:=P) h t w;rw[pH op t ox oy ay ay];exact⟨v,h2,VR.ground h3⟩
 .obtain⟨hc,h⟩:=bq h;obtain⟨d,hd,h⟩:=aF h;obtain⟨hi,h⟩:=bq h;have te:=hx.self;have xy:=hy.self;simp only[FH] at te xy;subst te xy;have hu:=dW hE hd;have hg:=FN (P:=P) op t hc w;have he:(Op.equal t .nilIface .nilIface).run P w= .ok true w:=by
   unfold Op.equal Op.maxDepth Op.equalIn;simp only[Sem.run_bind,run_underlying hu,Result.andThen_ok];cases d<;>simp_all [isIface]
  rw[hg];obtain⟨b,hb,h⟩:=IS h;simp only[rG] at hb;subst hb;obtain⟨h1,h2⟩:=binOp_eql (P:=P) (w:=w) (t:=t) (x:=.nilIface) (y:=.nilIface) ay ay ay ay he;rcases h with⟨rfl,rfl⟩|⟨rfl,rfl⟩
  .exact⟨_,h1,VR.bool _⟩
  .exact⟨_,h2,VR.bool _⟩
 .rename_i xs ys;obtain⟨hq,h⟩:=bq h;obtain⟨b,hb,h⟩:=IS h;obtain⟨h1,h2⟩:=uY _ _ _ hb;obtain⟨xs',rfl,N0⟩:=hx.QK;obtain⟨ys',rfl,hys⟩:=hy.QK;have e1:=N0.self;rw[h1] at e1;subst e1;have e2:=hys.self;rw[h2] at e2;subst e2;obtain⟨h4,h5⟩:=hE.eqs _ _ hq ys b hb w;rw[h5 op ox oy];obtain⟨h6,h7⟩:=binOp_eql (P:=P) (w:=w) (t:=t) ay ay ay ay h4;rcases h with⟨rfl,rfl⟩|⟨rfl,rfl⟩
  .exact⟨_,h6,VR.bool _⟩
  .exact⟨_,h7,VR.bool _⟩
 .obtain⟨d,hd,h⟩:=aF h;obtain⟨b,hb,h⟩:=IS h;have he:=VM hE hd hb hx hy w;have akk:odd x'=true:=by rw[<-hx.self,VN];exact aap hb
  have Ct:(∀k n,x'≠ .int k n)/\(∀k n,x'≠ .float k n)/\(∀k m n,x'≠ .complex k m n)/\(∀s,x'≠ .string s)/\x'≠ .nilIface/\(∀a,x'≠ .agg a):=by
   refine⟨?_,?_,?_,?_,?_,?_⟩<;>intros<;>rintro rfl<;>cases akk
  obtain⟨s1,s2,s3,s4,s5,s6⟩:=Ct;rw[pH op t ox oy (λhh=>s5 hh.1) (λa b hh=>s6 a hh.1)];obtain⟨h6,h7⟩:=binOp_eql (P:=P) (w:=w) (t:=t) s1 s2 s3 s4 he;rcases h with⟨rfl,rfl⟩|⟨rfl,rfl⟩
  .exact⟨_,h6,VR.bool _⟩
  .exact⟨_,h7,VR.bool _⟩
theorem aJ {v:Value}{s:St}{r:Value×St}(h:aM v s=some r):r=(v,s):=by simpa[aM] using h.symm
theorem ad3 {op:UnOp}(h:unV op x s=some (v,s')):s'=s/\∀A ρ x',VR A ρ x x'->∃v',(∀w,(Op.unary op x').run P w= .ok v' w)/\VR A ρ v v':=by
 unfold unV at h;split at h
 .rename_i b;have:=aJ h;simp only[cw] at this;obtain⟨rfl,rfl⟩:=this;refine⟨rfl,λA ρ x' hx=>⟨.bool !b,λw=>?_,VR.bool _⟩⟩;rw[hx.tc];rfl
 .cases h
theorem K4 {i:Nat}(h:yJ s x i=some (v,s')):s'=s/\∀A ρ x',VR A ρ x x'->∃v',(∀w,(Instr.extract x' i).run P w= .ok v' w)/\VR A ρ v v':=by
 unfold yJ at h;split at h
 .rename_i vs;obtain⟨u,hu,h2⟩:=aF h;have:=aJ h2;simp only[cw] at this;obtain⟨rfl,rfl⟩:=this;refine⟨rfl,λA ρ x' hx=>?_⟩;obtain⟨Cu,rfl,hl⟩:=hx.aal;rw[dO] at hu;obtain⟨u',K5,hr⟩:=hl.get hu;refine⟨u',λw=>?_,hr⟩;simp[Instr.extract,K5]
 .cases h
theorem SE (hE:cW E P){t:TypeId}(h:IN E s t x y=some (v,s')):s'=s/\∀A ρ x' y',VR A ρ x x'->VR A ρ y y'->∃v',(∀w,(Instr.index t x' y').run P w= .ok v' w)/\VR A ρ v v':=by
 obtain⟨d,hd,h1⟩:=aF h;clear h;split at h1
 .rename_i z k i;obtain⟨c,hc,h2⟩:=aF h1;have:=aJ h2;simp only[cw] at this;obtain⟨rfl,rfl⟩:=this;refine⟨rfl,λA ρ x' y' hx hy=>⟨.int .u8 c.toNat,λw=>?_,VR.int _ _⟩⟩;rw[hx.uW,hy.mD];rw[dO] at hc;have hb:(⟨⟨z⟩⟩:ByteArray)[i]?=some c:=by
   have dz:=(sV.1 hc).1;have iX:(⟨⟨z⟩⟩:ByteArray).size=z.length:=rfl;rw[getElem?_pos _ _ (by rw[iX];exact dz)];have:=(sV.1 hc).2;rw[<-this];rfl
  unfold Instr.index;simp only[Sem.run_bind,asIntOf,Sem.run_pure,Result.andThen_ok,run_underlying (dW hE hd)];simp[hb]
 .cases h1
theorem SF (hE:cW E P){t:TypeId}{i:Nat}(h:IM E s t x i=some (v,s')):s'=s/\∀A ρ x',VR A ρ x x'->∃v',(∀w,(Instr.field t x' i).run P w= .ok v' w)/\VR A ρ v v':=by
 obtain⟨d,hd,h1⟩:=aF h;clear h;split at h1
 .rename_i fs cs;obtain⟨f,hf,h2⟩:=aF h1;obtain⟨df,uB,h3⟩:=aF h2;obtain⟨hb,h4⟩:=bq h3;obtain⟨u,hu,h5⟩:=aF h4;have:=aJ h5;simp only[cw] at this;obtain⟨rfl,rfl⟩:=this;refine⟨rfl,λA ρ x' hx=>?_⟩;obtain⟨cs',rfl,hl⟩:=hx.QK;rw[dO] at hu hf;obtain⟨u',K5,hr⟩:=hl.get hu;refine⟨u',λw=>?_,hr⟩;have ha:xl df=false:=by simpa using hb
  have hff:(⟨fs⟩:Array Field)[i]?=some f:=by simpa using hf
  have Vc:(⟨cs'⟩:Array Value)[f.offset]?=some u':=by simpa using K5
  unfold Instr.field part;simp only[Sem.run_bind,run_underlying (dW hE hd),Result.andThen_ok,hff,asAgg,Sem.run_pure,vH hE uB,ha,Vc,pQ,jN]
 .cases h1
theorem FO (hE:cW E P){t:TypeId}{i:Nat}(h:nZ E s t x i=some (v,s')):s'=s/\∀A ρ x',(∀v v',VR A ρ v v'->True)->VR A ρ x x'->∃v',(∀w,(Instr.fieldAt t x' i).run P w= .ok v' w)/\VR A ρ v v':=by
 obtain⟨d,hd,h1⟩:=aF h;clear h;split at h1
 .rename_i fs;obtain⟨f,hf,h2⟩:=aF h1;obtain⟨n,hn,h3⟩:=aF h2;obtain⟨hb,h4⟩:=bq h3;obtain⟨b,o,rfl,h5⟩:=IQ h4;have:=aJ h5;simp only[cw] at this;obtain⟨rfl,rfl⟩:=this;refine⟨rfl,λA ρ x' _ hx=>⟨.pointer (some ⟨(ρ b).1,o+f.offset,none⟩),λw=>?_,λeb e=>?_⟩⟩
  .rw[hx.nR];rw[dO] at hf;have vJ:n≠0:=by simp at hb;omega
   unfold Instr.fieldAt;simp only[Sem.run_bind,run_underlying (dW hE hd),Result.andThen_ok];(have hf':(⟨fs⟩:Array Field)[i]?=some f:=by simpa using hf);simp only[hf',Instr.sureAddr,Sem.run_bind,Sem.run_pure,Result.andThen_ok,fieldPlace,run_sizeOf hE hn,vJ,pQ,ite_false,add_lit]
  .have h1:=(hx eb e).trans hx.self.symm;simp only[nf,Value.pointer.injEq,rG,Addr.mk.injEq,Af] at h1;rw[nf,h1];rfl
 .cases h1
theorem FP (hE:cW E P){t:TypeId}(h:n3 E s t x y=some (v,s')):s'=s/\∀A ρ x' y',VR A ρ x x'->VR A ρ y y'->∃v',(∀w,(Instr.indexAt t x' y').run P w= .ok v' w)/\VR A ρ v v':=by
 obtain⟨d,hd,h1⟩:=aF h;clear h;split at h1
 .rename_i n e b o k i;obtain⟨hb,h2⟩:=bq h1;obtain⟨sz,iX,h3⟩:=aF h2;have:=aJ h3;simp only[cw] at this;obtain⟨rfl,rfl⟩:=this;refine⟨rfl,λA ρ x' y' hx hy=>⟨.pointer (some ⟨(ρ b).1,o+i*sz,none⟩),λw=>?_,λeb e=>?_⟩⟩
  .rw[hx.nR,hy.mD];have hi:i<n:=by simpa[Sm] using hb
   unfold Instr.indexAt;simp only[Sem.run_bind,asIntOf,Sem.run_pure,Result.andThen_ok,run_underlying (dW hE hd),Instr.sureAddr];(have hc:(0:Int)<=Int.ofNat i/\Int.ofNat i<(n:Int):=by constructor<;>simp<;>omega);simp[hc,hi,run_sizeOf hE iX,add_lit]
  .have h1:=(hx eb e).trans hx.self.symm;simp only[nf,Value.pointer.injEq,rG,Addr.mk.injEq,Af] at h1;rw[nf,h1];rfl
 .rename_i e b o n cap k i;obtain⟨hb,h2⟩:=bq h1;obtain⟨sz,iX,h3⟩:=aF h2;have:=aJ h3;simp only[cw] at this;obtain⟨rfl,rfl⟩:=this;refine⟨rfl,λA ρ x' y' hx hy=>⟨.pointer (some ⟨(ρ b).1,o+i*sz,none⟩),λw=>?_,λeb e=>?_⟩⟩
  .rw[hx.fR,hy.mD];have hi:i<n:=by simpa[Sm] using hb
   unfold Instr.indexAt;simp only[Sem.run_bind,asIntOf,Sem.run_pure,Result.andThen_ok,run_underlying (dW hE hd)];simp[hi,run_sizeOf hE iX,add_lit]
  .have h1:=(hx eb e).trans hx.self.symm;simp only[eA,Value.slice.injEq,rG,Addr.mk.injEq,Af] at h1;rw[nf,h1.1];rfl
 .cases h1
theorem aar (hE:cW E P){t ty:TypeId}(h:Sw E t x=some v):∀A ρ x' ts,VR A ρ x x'->ts[0]?=some t->∃v',(∀w,(Builtin.len_ ts ty #[x']).run P w= .ok v' w)/\VR A ρ v v':=by
 obtain⟨d,hd,h1⟩:=aF h;clear h;split at h1
 .rename_i z;have:=iU h1;subst this;refine λA ρ x' ts hx hts=>⟨.int .i64 (.ofNat z.length),λw=>?_,by simpa using VR.int _ _⟩
  rw[hx.uW];simp[Builtin.len_,hts,run_underlying (dW hE hd),goInt];rfl
 .rename_i e a n c;have:=iU h1;subst this;refine λA ρ x' ts hx hts=>⟨.int .i64 (.ofNat n),λw=>?_,VR.int _ _⟩
  cases a with
  |none=>rw[hx.je];simp[Builtin.len_,hts,run_underlying (dW hE hd),goInt]
  |some a=>obtain⟨a',te⟩:=hx.ti;rw[te];simp[Builtin.len_,hts,run_underlying (dW hE hd),goInt]
 .cases h1
theorem aas (h:aaj x y s=some (v,s')):s'=s/\∀A ρ x' y' ts ty,VR A ρ x x'->VR A ρ y y'->∃v',(∀w,(Builtin.max_ ts ty #[x',y']).run P w= .ok v' w)/\VR A ρ v v':=by
 unfold aaj at h;split at h
 .rename_i k a k' b;obtain⟨hk,h2⟩:=bq h;have:=aJ h2;simp only[cw] at this;obtain⟨rfl,rfl⟩:=this;refine⟨rfl,λA ρ x' y' ts ty hx hy=>⟨_,λw=>?_,VR.int _ _⟩⟩;rw[hx.mD,hy.mD];simp only[Builtin.max_,List.foldlM,Builtin.max2];simp[dJ,rJ]
 .cases h
def Ow (A:Nat->Prop)(ρ:ig):Option Value->Option Value->Prop
 |none,none=>True
 |some v,some v'=>VR A ρ v v'
 |_,_=>False
theorem Ow.none {o:Option Value}(h:Ow A ρ none o):o=none:=by cases o<;>simp_all [Ow]
theorem Ow.some {v:Value}{o:Option Value}(h:Ow A ρ (some v) o):∃v',o=some v'/\VR A ρ v v':=by
 cases o with
 |none=>simp[Ow] at h
 |some v'=>exact⟨v',rfl,h⟩
theorem tk {y i:Nat}(h:pG v y=some i):i<=y/\∃k,v= .int k (.ofNat i):=by
 unfold pG at h;split at h
 .rename_i k j;obtain⟨h1,h2⟩:=IP h;have:=iU h2;subst this;exact⟨by simpa using h1,k,rfl⟩
 .cases h
theorem run_sliceBound {y i:Nat}(h:pG v y=some i)(hv:VR A ρ v v')(z:Nat)(hz:y<=z)(code:BoundsCode)(w:World):(Instr.sliceBound v' z code).run P w= .ok i w:=by
 obtain⟨h1,k,rfl⟩:=tk h;rw[hv.mD];unfold Instr.sliceBound;simp only[Sem.run_bind,asIntOf,Sem.run_pure,Result.andThen_ok];have:(0:Int)<=Int.ofNat i/\Int.ofNat i<=(z:Int):=by constructor<;>simp<;>omega
 simp[this];omega
theorem sf {β:Type}{len cap:Nat}{lo hi mx:Option Value}{k:Nat->Nat->Nat->Option β}{r:β}(h:bounds len cap lo hi mx k=some r):
  ∃l h m,k l h m=some r/\(m<=cap/\(mx=none->m=cap))/\l<=h/\(len<=cap->mx=none->h<=cap)/\
   ∀A ρ GQ fb IU,Ow A ρ lo GQ->Ow A ρ hi fb->Ow A ρ mx IU->∀(P:Program)(sl:Bool) w C7,cap<=C7->(Instr.sliceBounds sl len C7 GQ fb IU).run P w= .ok (l,h,if mx=none then C7 else m) w:=by
 obtain⟨m,hm,h1⟩:=aF h;obtain⟨hh,Z3,h2⟩:=aF h1;obtain⟨l,hl,h3⟩:=aF h2;clear h h1 h2;have hm':m<=cap/\(mx=none->m=cap):=by
  cases mx with
  |none=>have:=iU hm;exact⟨af,λ_=>this.symm⟩
  |some v=>exact⟨(tk hm).1,λh=>by cases h⟩
 have jA:l<=hh:=by
  cases lo with
  |none=>have:=iU hl;subst this;exact iK _
  |some v=>exact(tk hl).1
 refine⟨l,hh,m,h3,hm',jA,λhc hmx=>?_,λA ρ GQ fb IU o1 o2 o3 P sl w C7 Vc=>?_⟩
 .subst hmx;cases hi with
  |none=>have:=iU Z3;omega
  |some v=>have:=(tk Z3).1;have:=hm'.1;omega
 .unfold Instr.sliceBounds;cases mx with
  |none=>
   have:=iU hm;subst this;rw[o3.none];cases hi with
   |none=>
    have:=iU Z3;subst this;rw[o2.none];cases lo with
    |none=>have:=iU hl;subst this;rw[o1.none];simp
    |some v=>obtain⟨v',rfl,hv⟩:=o1.some;simp[run_sliceBound (P:=P) hl hv _ (cC _)]
   |some u=>
    obtain⟨u',rfl,hu⟩:=o2.some;cases lo with
    |none=>have:=iU hl;subst this;rw[o1.none];simp[run_sliceBound (P:=P) Z3 hu C7 Vc]
    |some v=>obtain⟨v',rfl,hv⟩:=o1.some;simp[run_sliceBound (P:=P) Z3 hu C7 Vc,run_sliceBound (P:=P) hl hv _ (cC _)]
  |some q=>
   obtain⟨q',rfl,hq⟩:=o3.some;cases hi with
   |none=>cases Z3
   |some u=>
    obtain⟨u',rfl,hu⟩:=o2.some;cases lo with
    |none=>have:=iU hl;subst this;rw[o1.none];simp[run_sliceBound (P:=P) hm hq C7 Vc,run_sliceBound (P:=P) Z3 hu _ (cC _)]
    |some v=>obtain⟨v',rfl,hv⟩:=o1.some;simp[run_sliceBound (P:=P) hm hq C7 Vc,run_sliceBound (P:=P) Z3 hu _ (cC _),run_sliceBound (P:=P) hl hv _ (cC _)]
theorem extract_mk (z:List UInt8)(l h:Nat):(⟨⟨z⟩⟩:ByteArray).extract l h=⟨⟨(z.drop l).take (h-l)⟩⟩:=by apply ByteArray.ext;rw[ByteArray.data_extract];apply wC;simp[List.take_drop]
theorem fE {q:Nat×Nat}{c:Nat}(h:c<dS):de q c=c:=by unfold de;rw[if_neg af]
theorem C8 (a:Addr)(n:Nat):rZ (some a) n=some (a.add n):=by obtain⟨b,o,s⟩:=a;simp only[rZ,dJ,zZ,Addr.add];split<;>rfl
theorem QM {α:Type}{o:Option α}(h:aah o=true):o=none:=by cases o<;>simp_all [aah]
theorem SG (hE:cW E P){t:TypeId}{lo hi mx:Option Value}(h:kH E s t x lo hi mx=some (v,s')):aH s s'/\∀X A ρ w x' GQ fb IU,pb P X A ρ s s' w->VR A ρ x x'->Ow A ρ lo GQ->Ow A ρ hi fb->Ow A ρ mx IU->
  cJ P X A ρ s s' w v (Instr.sliceAt t x' GQ fb IU):=by
 obtain⟨d,hd,h1⟩:=aF h;clear h;have hu:=dW hE hd;split at h1
 .rename_i z;obtain⟨u,K5,h2⟩:=aF h1;have:=aJ h2;simp only[cw] at this;obtain⟨rfl,rfl⟩:=this;refine⟨aH.refl _,λX A ρ w x' GQ fb IU hp hx o1 o2 o3=>?_⟩;obtain⟨pR,h3⟩:=bq K5;have:=QM pR;subst this;rw[o3.none];obtain⟨l,hh,m,h4,h5,h6,h7,h8⟩:=sf h3;have:=iU h4;subst this;refine cJ.pure hp ?_ (VR.str _);rw[hx.uW];have hb:=h8 A ρ GQ fb none o1 o2 (by simp[Ow]) P false w (dX z) (cC _);unfold Instr.sliceAt;simp only[Sem.run_bind,run_underlying hu,Result.andThen_ok];unfold Instr.slice;simp only[Sem.run_bind,run_underlying hu,Result.andThen_ok,Option.isSome_none,jN,pQ];have iX:(⟨⟨z⟩⟩:ByteArray).size=z.length:=rfl;rw[c8] at hb;simp[iX,hb,extract_mk]
 .rename_i elem a len cap
  replace h1:=bq h1
  obtain⟨sS,h1⟩:=h1;obtain⟨sz,iX,h2⟩:=aF h1;cases hk:Nat.ble dS cap with
  |false=>
   rw[hk,eG] at h2;obtain⟨u,K5,h3⟩:=aF h2;have:=aJ h3;simp only[cw] at this;obtain⟨rfl,rfl⟩:=this;refine⟨aH.refl _,λX A ρ w x' GQ fb IU hp hx o1 o2 o3=>?_⟩;obtain⟨l,hh,m,h4,h5,h6,h7,h8⟩:=sf K5;have:=iU h4;subst this;have u3:cap<dS:=by
    rcases lq cap dS with h|h
    .exact h
    .rw[gb h] at hk;cases hk
   have hb:=h8 A ρ GQ fb IU o1 o2 o3 P true w cap (cC _);have hm:(if mx=none then cap else m)=m:=by
    split
    .rename_i hmx;exact(h5.2 hmx).symm
    .rfl
   rw[hm] at hb;have oc:∀a',(Instr.sliceAt t (.slice a' len cap) GQ fb IU).run P w= .ok (.slice (if m=l then a' else a'.map (·.add (l*sz))) (hh-l) (m-l)) w:=by
    intro a';unfold Instr.sliceAt;simp only[Sem.run_bind,run_underlying hu,Result.andThen_ok];unfold Instr.slice;simp only[Sem.run_bind,run_underlying hu,Result.andThen_ok,hb,run_sizeOf hE iX];rfl
   have VO:m-l<dS:=by have:=h5.1;omega
   cases a with
   |none=>
    rw[hx.je];refine cJ.pure hp (oc none) ?_;simp only[rZ,dJ,Option.map_none,ite_self];exact VR.ground ay
   |some a=>
    obtain⟨b,o,q⟩:=a;cases q with
    |some q=>cases sS
    |none=>
    rw[hx.fR,fE u3];(refine cJ.pure hp (oc _) λeb e=>?_);have h1:=(hx eb e).trans hx.self.symm;simp only[eA,Value.slice.injEq,rG,Addr.mk.injEq,Af] at h1;rw[dJ,C8];simp only[zZ];by_cases K6:m=l
    .simp only[K6,if_true,Ag];rw[eA,h1.1,show l.sub l=0 from Ag l,fE (show 0<dS by decide)];rfl
    .simp only[K6,pQ,uL,Addr.add];by_cases hz:l*sz=0
     .simp only[show Nat.mul l sz=0 from hz,hz,if_true];rw[eA,h1.1,fE (c:=m.sub l) VO];rfl
     .simp only[show ¬Nat.mul l sz=0 from hz,hz,pQ];rw[eA,h1.1,fE (c:=m.sub l) VO];rfl
  |true=>
   rw[hk,gA] at h2;have u3:dS<=cap:=mR hk;cases hz:nX lo hi mx with
   |true=>
    rw[hz,gA] at h2;unfold nY at h2;split at h2
    rotate_left
    .cases h2
    rename_i b o;have:=aJ h2;simp only[cw] at this;obtain⟨rfl,rfl⟩:=this;unfold nX at hz;split at hz
    rotate_left
    .cases hz
    rename_i k;refine⟨aH.refl _,λX A ρ w x' GQ fb IU hp hx o1 o2 o3=>?_⟩;rw[hx.fR,o1.none,o3.none];obtain⟨u',rfl,K5⟩:=o2.some;rw[K5.mD];refine cJ.pure hp (v':=.slice (some ⟨(ρ b).1,o,none⟩) 0 (de (ρ b) cap)) ?_ λeb e=>?_
    .unfold Instr.sliceAt;simp only[Sem.run_bind,run_underlying hu,Result.andThen_ok];unfold Instr.slice;simp only[Sem.run_bind,run_underlying hu,Result.andThen_ok];have hb:(Instr.sliceBounds true len (de (ρ b) cap) none (some (.int k (.ofNat 0))) none).run P w= .ok (0,0,de (ρ b) cap) w:=by
      unfold Instr.sliceBounds;have h0:(Instr.sliceBound (.int k (.ofNat 0)) (de (ρ b) cap) .sliceAcap).run P w= .ok 0 w:=by
       unfold Instr.sliceBound;simp[asIntOf]
      simp[Instr.sliceBound,asIntOf]
     simp only[hb,Result.andThen_ok,run_sizeOf hE iX,uL,add_lit,KF,xj,Nat.sub_zero,ite_self];try rfl
    .have h1:=(hx eb e).trans hx.self.symm;simp only[eA,Value.slice.injEq,rG,Addr.mk.injEq,Af,FF] at h1;rw[eA,h1.1,h1.2]
   |false=>
   rw[hz,eG] at h2;unfold iC at h2;split at h2
   .rename_i b o;obtain⟨c,e,wd,hg,h3⟩:=mo h2;obtain⟨hc,h4⟩:=bq h3;simp only[bI,zZ,pe,c8] at hc;obtain⟨⟨⟨hw,he⟩,ho⟩,cX⟩:=hc;subst he;split at h4
    rotate_left
    .rename_i mx0;obtain⟨akl,h4⟩:=bq h4;obtain⟨u,K5,h3⟩:=aF h4;have:=aJ h3;simp only[cw] at this;obtain⟨rfl,rfl⟩:=this;refine⟨aH.aU s b,λX A ρ w x' GQ fb IU hp hx o1 o2 o3=>?_⟩;obtain⟨hA,c',aE,fr,r1,r2,r3,r4,r5,r6⟩:=hp.st.row (hp.cV b (fQ s b)) hg;have IV:(cap-dS)+len<=(ρ b).2:=by
      refine' zag
     (have hcm:de (ρ b) cap=(ρ b).2-(cap-dS):=by unfold de;rw[if_pos u3]);have hlu:len<dS:=mR akl;obtain⟨l,hh,m,h4,h5,h6,h7,h8⟩:=sf K5;have:=iU h4;subst this;have hb:=h8 A ρ GQ fb IU o1 o2 o3 P true w (de (ρ b) cap) (by rw[hcm];omega);simp only[reduceCtorEq,pQ] at hb;(have VO:m-l<dS:=by have:=h5.1;omega);refine cJ.same hp ay ay (v':=.slice (if m=l then some ⟨(ρ b).1,o,none⟩ else some ((⟨(ρ b).1,o,none⟩:Addr).add (l*sz))) (hh-l) (m-l)) ?_ λeb ee=>?_
     .rw[hx.fR];unfold Instr.sliceAt;simp only[Sem.run_bind,run_underlying hu,Result.andThen_ok];unfold Instr.slice;simp only[Sem.run_bind,run_underlying hu,Result.andThen_ok,hb,run_sizeOf hE iX,uL];rfl
     .rw[dJ,C8];simp only[zZ];by_cases K6:m=l
      .simp only[K6,if_true,Ag];rw[eA,ee b hA,show l.sub l=0 from Ag l,fE (show 0<dS by decide)];rfl
      .simp only[K6,pQ,add_lit];rw[eA,ee b hA,fE (c:=m.sub l) VO];rfl
    obtain⟨l,hh,m,h5,h6,h7,Ox,h8⟩:=sf h4;rw[dJ] at h5;split at h5
    rotate_left
    .rename_i hlh;have:=aJ h5;simp only[cw] at this;obtain⟨rfl,rfl⟩:=this;refine⟨aH.aU s b,λX A ρ w x' GQ fb IU hp hx o1 o2 o3=>?_⟩;obtain⟨hA,c',aE,fr,r1,r2,r3,r4,r5,r6⟩:=hp.st.row (hp.cV b (fQ s b)) hg;have IV:(cap-dS)+len<=(ρ b).2:=by
      refine' zag
     have hcm:de (ρ b) cap=(ρ b).2-(cap-dS):=by unfold de;rw[if_pos u3]
     have hb:=h8 A ρ GQ fb IU o1 o2 o3 P true w (de (ρ b) cap) (by rw[hcm];omega);rw[o3.none] at hb⊢;simp only[if_true] at hb;have h77:=Ox (cC _) rfl;have hll:hh=l:=by
      simp only[mh,zZ,pe,not_or] at hlh;have:Nat.succ l=l+1:=rfl;omega
     refine cJ.same hp ay ay ?_ (v':=.slice (some ⟨(ρ b).1,if(ρ b).2-(cap-dS)-l=0 then o else o+l*sz,none⟩) 0 ((ρ b).2-(cap-dS)-l)) λeb ee=>?_
     .rw[hx.fR];unfold Instr.sliceAt;simp only[Sem.run_bind,run_underlying hu,Result.andThen_ok];unfold Instr.slice;simp only[Sem.run_bind,run_underlying hu,Result.andThen_ok,hb,run_sizeOf hE iX,uL,add_lit];rw[hcm,hll];have hle:l<=(ρ b).2-(cap-dS):=by omega
      by_cases hq:(ρ b).2-(cap-dS)=l
      .simp[hq]
      .simp[hq];intro h0;omega
     .rw[K0,ee b hA];have:de (ρ b) (Nat.add cap l)=(ρ b).2-(cap-dS)-l:=by
       have h3:Nat.add cap l=cap+l:=rfl;unfold de;rw[h3,if_pos af];omega
      rw[this];rfl
    rename_i hlh;have h9:=h5;have:=aJ h9;simp only[cw] at this;obtain⟨rfl,rfl⟩:=this;refine⟨aH.aU s b,λX A ρ w x' GQ fb IU hp hx o1 o2 o3=>?_⟩;obtain⟨hA,c',aE,fr,r1,r2,r3,r4,r5,r6⟩:=hp.st.row (hp.cV b (fQ s b)) hg;have IV:(cap-dS)+len<=(ρ b).2:=by
     refine' zag
    (have hcm:de (ρ b) cap=(ρ b).2-(cap-dS):=by unfold de;rw[if_pos u3]);have hb:=h8 A ρ GQ fb IU o1 o2 o3 P true w (de (ρ b) cap) (by rw[hcm];omega);rw[o3.none] at hb⊢;simp only[if_true] at hb;refine cJ.same hp ay ay ?_ (v':=.slice (some ⟨(ρ b).1,o+l*sz,none⟩) (hh-l) ((ρ b).2-(cap-dS)-l)) λeb ee=>?_
    .rw[hx.fR];unfold Instr.sliceAt;simp only[Sem.run_bind,run_underlying hu,Result.andThen_ok];unfold Instr.slice;simp only[Sem.run_bind,run_underlying hu,Result.andThen_ok,hb,run_sizeOf hE iX,uL,add_lit];have hll:l=0\/l<hh:=by simpa[Sm] using hlh
     have h77:=Ox (cC _) rfl;rw[hcm];by_cases hq:(ρ b).2-(cap-dS)=l
     .have:l=0:=by omega
      subst this;simp[hq]
     .simp[hq]
    .rw[eA,ee b hA];have:de (ρ b) (Nat.add cap l)=(ρ b).2-(cap-dS)-l:=by
      have h3:Nat.add cap l=cap+l:=rfl;unfold de;rw[h3,if_pos af];omega
     rw[this];rfl
   .cases h2
 .rename_i n elem b o;obtain⟨sz,iX,h3⟩:=aF h1;obtain⟨hn,h4⟩:=bq h3;have hn:n<dS:=mR hn;obtain⟨u,K5,h5⟩:=aF h4;have:=aJ h5;simp only[cw] at this;obtain⟨rfl,rfl⟩:=this;refine⟨aH.refl _,λX A ρ w x' GQ fb IU hp hx o1 o2 o3=>?_⟩;obtain⟨l,hh,m,h6,h7,h8,h9,Fx⟩:=sf K5;have:=iU h6;subst this;have hb:=Fx A ρ GQ fb IU o1 o2 o3 P false w n (cC _);have hm:(if mx=none then n else m)=m:=by
   split
   .rename_i hmx;exact(h7.2 hmx).symm
   .rfl
  rw[hm] at hb;have VO:m-l<dS:=by have:=h7.1;omega
  rw[hx.nR];refine cJ.pure hp (v':=.slice (some (if m=l then⟨(ρ b).1,o,none⟩ else(⟨(ρ b).1,o,none⟩:Addr).add (l*sz))) (hh-l) (m-l)) ?_ λeb e=>?_
  .unfold Instr.sliceAt;simp only[Sem.run_bind,run_underlying hu,Result.andThen_ok,Instr.sureAddr,Sem.run_pure,hb,run_sizeOf hE iX]
  .have h1:=(hx eb e).trans hx.self.symm;simp only[nf,Value.pointer.injEq,rG,Addr.mk.injEq,Af] at h1;rw[dJ,C8];simp only[zZ];by_cases K6:m=l
   .simp only[K6,if_true,Ag];rw[eA,h1,show l.sub l=0 from Ag l,fE (show 0<dS by decide)];rfl
   .simp only[K6,pQ,add_lit];rw[eA,h1,fE (c:=m.sub l) VO];rfl
 .cases h1
theorem GR (off:Nat):∀(vs:aY)(i:Nat)(cs:Array Value),off+i+vs.length<=cs.size->
  (vs.zipIdx i).foldl (λcs (x:Value×Nat)=>cs.setIfInBounds (off+x.2) x.1) cs=⟨cs.toList.take (off+i)++vs++cs.toList.drop (off+i+vs.length)⟩
 |[],i,cs,_=>by simp
 |v::vs,i,cs,h=>by
  simp only[cU] at h;rw[List.zipIdx_cons,Ah,GR off vs (i+1) _ (by simp;omega)];rw[Array.toList_setIfInBounds,show off+(i+1)=off+i+1 by omega,rI _ _ _ (by simp;omega),wU,cU,show off+i+1+vs.length=off+i+(vs.length+1) by omega];simp
theorem Oy (bP:Nat->Option (Nat×Nat))(p:Nat×Value)(l:List (Nat×Value))(cells:aY):
  sa bP (p::l) cells=ob (bP p.1) λq=>dN (Nat.beq (dX (bZ p.2)) q.2)<| ob (eF q.1 (bZ p.2) cells) λcs=>sa bP l cs:=rfl
def PR (A:Nat->Prop)(ρ:ig):List (Nat×Value)->List (Nat×Value)->Prop
 |[],l=>l=[]
 |p::ps,l=>∃v' r,l=(p.1,v')::r/\VR A ρ p.2 v'/\PR A ρ ps r
theorem yP (bP:Nat->Option (Nat×Nat))(Oz:Nat->Option (Nat×Nat)):∀(l:List (Nat×Value))(cells:aY){r:aY},sa bP l cells=some r->(∀i q,bP i=some q->Oz i=some q)->
  ∀A ρ l' u4,PR A ρ l l'->LR A ρ cells u4->∃r',Instr.fill Oz ⟨u4⟩ l'=some ⟨r'⟩/\LR A ρ r r'
 |[],cells,r,h,_,A,ρ,l',u4,hl,hc=>by
  have:cells=r:=iU h;subst this;have:l'=[]:=hl;subst this;exact⟨u4,rfl,hc⟩
 |p::l,cells,r,h,sS,A,ρ,l',u4,hl,hc=>by
  rw[Oy] at h;obtain⟨q,hq,h1⟩:=aF h;obtain⟨hb,h2⟩:=bq h1;obtain⟨cs,qm,h3⟩:=aF h2;obtain⟨v',r',rfl,hv,hr⟩:=hl;rw[gT] at hb qm;obtain⟨h4,h5⟩:=n4 _ _ qm;have hvc:=hv.cells;have hvl:=hvc.length;have uA:=hc.length;have cX:p.2.cells.toList.length=q.2:=by simpa using hb
  have agP:v'.cells.size=q.2:=by have:=hvl;simp at this cX;omega
  obtain⟨r2,h6,h7⟩:=yP bP Oz l cs h3 sS A ρ r' (u4.take q.1++v'.cells.toList++u4.drop (q.1+v'.cells.toList.length)) hr (by
   rw[h5,hvl];exact((hc.take q.1).append hvc).append (hc.drop _))
  refine⟨r2,?_,h7⟩;unfold Instr.fill;rw[sS _ _ hq];obtain⟨off,sz⟩:=q;simp only at agP h4 cX h6⊢;rw[if_neg (by simp at h4 uA cX⊢;omega)];rw[<-h6]
  congr 1
  have:=GR off v'.cells.toList 0 ⟨u4⟩ (by simp at h4 uA cX⊢;omega);simp only[xj] at this;rw[<-this];rw[<-Array.foldl_toList,Array.toList_zipIdx]
theorem tn (ev N1:Operand->Value):∀(l:List (Nat×Operand)),(∀p∈l,VR A ρ (ev p.2) (N1 p.2))->PR A ρ (sY ev l) (l.map λx=>(x.1,N1 x.2))
 |[],_=>rfl
 |p::l,h=>⟨N1 p.2,_,rfl,h p ay,tn ev N1 l λq hq=>h q (by simp[hq])⟩
theorem vL (zs:aY)(n:Nat):lW zs (n+1)=zs++lW zs n:=rfl
theorem Bu (zs:aY)(n:Nat):(lW zs n).length=n*zs.length:=by
 induction n with
 |zero=>show([]:aY).length=_;simp
 |succ n ih=>rw[vL,bn,ih,Nat.succ_mul];omega
theorem VP (zs:aY)(n:Nat):∀k,k<n*zs.length->(lW zs n)[k]?=zs[k% zs.length]?:=by
 induction n with
 |zero=>intro k h;simp at h
 |succ n ih=>
  intro k h;rw[Nat.succ_mul] at h;rw[vL];rcases lq k zs.length with h1|h1
  .rw[wB h1,IE h1]
  .rw[Ad h1,ih _ af,Nat.mod_eq_sub_mod h1]
theorem yQ (z:Value)(n sz:Nat)(hz:z.cells.size=sz)(h0:0<sz):(Array.range (n*sz)).map (z.cells[·% z.cells.size]!)=⟨lW z.cells.toList n⟩:=by
 apply wC;apply Sq;intro k;simp only[Array.toList_map,Array.toList_range,wD];rcases lq k (n*sz) with h|h
 .rw[Sr h];simp only[uL];rw[VP _ _ k (by simpa[hz] using h)];have hm:k% z.cells.size<z.cells.size:=Ss _ af;simp[hm]
 .rw[qP (by simpa using h),qP (by rw[Bu];simpa[hz] using h)];rfl
theorem u5 {zs:aY}(h:∀ρ,zs.map (bX ρ)=zs)(n:Nat):LR A ρ (lW zs n) (lW zs n):=by
 intro eb _;induction n with
 |zero=>show([]:aY).map _=[];rfl
 |succ n ih=>rw[vL,Qw,h,ih]
theorem pI {z:Value}(h:∀ρ,bX ρ z=z)(ρ:ig):z.cells.toList.map (bX ρ)=z.cells.toList:=by rw[<-xv,h]
theorem pS {β:Type}{t:Option TypeId}{k:TypeId->Option β}{r:β}(h:elemOf E t k=some r):∃t' e,t=some t'/\gX E t'=some (.slice e)/\k e=some r:=by
 obtain⟨t',h1,h2⟩:=aF h;obtain⟨d,h3,h4⟩:=aF h2;split at h4
 .exact⟨t',_,h1,h3,h4⟩
 .cases h4
theorem GS {c:aY}{e:TypeId}{c':aY}(l k:Nat)(hk:k<dS)(hp:pb P X A ρ s (s.new (.cells c e false)) w)(hc:LR A ρ c c'){m:Sem Value}
  (hm:m.run P w= .ok (.slice (some ⟨w.heap.size,0,none⟩) l k) (w.alloc (.cells ⟨c'⟩ e))):cJ P X A ρ s (s.new (.cells c e false)) w (.slice (some ⟨s.next,0,none⟩) l k) m:=by
 refine⟨_,_,ρ.at s.next (w.heap.size,c.length),hm,?_,?_⟩
 .have:=VR.slice (A:=dg A s.next (s.new (.cells c e false)).next) (ρ:=ρ.at s.next (w.heap.size,c.length)) (b:=s.next) (o:=0) (l:=l) (c:=k) (.inr ⟨cC _,ay⟩);rw[fE hk] at this;simpa using this
 .refine Good.alloc (o:=.cells c e false) (x:=.cells ⟨c'⟩ e) hp.st hp.dI hp.lt (λc=>by simp) ay (j9 s _) (cC _) (heap_alloc_new w _) ?_ (Fr.alloc w _);exact⟨c',[],(0,0),ay,hc,(λh=>by cases h),λ_=>⟨.inl ⟨rfl,rfl⟩,cC _⟩⟩
theorem GU (hE:cW E P)(w:World):∀(fs:List Field){pl:List (Nat×Nat)},places E fs=some pl->(fs.mapM λf=>do pure (f.offset,<-sizeOf f.type):Sem (List (Nat×Nat))).run P w= .ok pl w
 |[],pl,h=>by have:=iU h;subst this;simp
 |f::fs,pl,h=>by
  have h':ob (size E f.type) (λsz=>ob (places E fs) λr=>some ((f.offset,sz)::r))=some pl:=h;obtain⟨sz,h1,h2⟩:=aF h';obtain⟨r,h3,h4⟩:=aF h2;have:=iU h4;subst this;have ih:=GU hE w fs h3;simp only[FG,Sem.run_bind,run_sizeOf hE h1,Sem.run_pure,Result.andThen_ok,ih]
theorem SH (hE:cW E P){t:TypeId}{ev:Operand->Value}{ps:List (Nat×Operand)}(h:IL E ev s t ps=some (v,s')):s'=s/\∀A ρ (N1:Operand->Value),(∀p∈ps,VR A ρ (ev p.2) (N1 p.2))->
  ∃v',(∀w,(Instr.build t (ps.map λx=>(x.1,N1 x.2)).toArray).run P w= .ok v' w)/\VR A ρ v v':=by
 obtain⟨z,hz,h1⟩:=aF h;obtain⟨d,hd,h2⟩:=aF h1;clear h h1;have hu:=dW hE hd;split at h2
 .rename_i fs;obtain⟨pl,sS,h3⟩:=aF h2;obtain⟨cs,qm,h4⟩:=aF h3;have:=aJ h4;simp only[cw] at this;obtain⟨rfl,rfl⟩:=this;refine⟨rfl,λA ρ N1 hev=>?_⟩;obtain⟨r',h5,h6⟩:=yP (jc pl) (pl.toArray[·]?) _ _ qm (λi q hq=>by simpa using hq) A ρ _ z.cells.toList (tn ev N1 ps hev) (by rw[gT];exact λeb _=>pI (mE hE hz) eb);refine⟨.agg ⟨r'⟩,λw=>?_,VR.agg h6⟩;unfold Instr.build;simp only[Sem.run_bind,j8 hE hz,Result.andThen_ok,run_underlying hu];have hmm:((⟨fs⟩:Array Field).mapM λf=>do pure (f.offset,<-sizeOf f.type):Sem (Array (Nat×Nat))).run P w= .ok pl.toArray w:=by
   have:=GU hE w fs sS;rw[Array.mapM_eq_mapM_toList];simp only[map_eq_pure_bind,Sem.run_bind,this,Result.andThen_ok,Sem.run_pure]
  simp only[hmm,Result.andThen_ok];simp only[h5];rfl
 .rename_i n e;obtain⟨sz,iX,h3⟩:=aF h2;obtain⟨cs,qm,h4⟩:=aF h3;have:=aJ h4;simp only[cw] at this;obtain⟨rfl,rfl⟩:=this;refine⟨rfl,λA ρ N1 hev=>?_⟩;obtain⟨r',h5,h6⟩:=yP (oL sz) (λi=>some (i*sz,sz)) _ _ qm (λi q hq=>hq) A ρ _ z.cells.toList (tn ev N1 ps hev) (by rw[gT];exact λeb _=>pI (mE hE hz) eb);refine⟨.agg ⟨r'⟩,λw=>?_,VR.agg h6⟩;unfold Instr.build;simp only[Sem.run_bind,j8 hE hz,Result.andThen_ok,run_underlying hu,run_sizeOf hE iX];simp only[h5];rfl
 .cases h2
theorem C9 (hE:cW E P){t:TypeId}{n:Nat}{ev:Operand->Value}{ps:List (Nat×Operand)}(h:uR E ev s t n ps=some (v,s')):aH s s'/\∀X A ρ w (N1:Operand->Value),pb P X A ρ s s' w->(∀p∈ps,VR A ρ (ev p.2) (N1 p.2))->
  cJ P X A ρ s s' w v (Instr.buildSlice t n (ps.map λx=>(x.1,N1 x.2)).toArray):=by
 obtain⟨t',e,ht,hd,h1⟩:=pS h;have:=iU ht;subst this;obtain⟨sz,iX,h2⟩:=aF h1;obtain⟨z,hz,h3⟩:=aF h2;obtain⟨hc,h4⟩:=bq h3;obtain⟨cs,qm,h5⟩:=aF h4;have:=aJ h5;simp only[cw] at this;obtain⟨rfl,rfl⟩:=this;clear h h1 h2 h3 h4 h5 ht;simp only[bI,zZ,pe,c8,gT] at hc;obtain⟨⟨vM,qQ⟩,IW⟩:=hc;have hmul:Nat.mul n sz=n*sz:=rfl;rw[hmul] at IW;have hu:=dW hE hd;refine⟨aH.jd s _,λX A ρ w N1 hp hev=>?_⟩;rw[gT] at qm;obtain⟨r',h5,h6⟩:=yP (oL sz) (λi=>some (i*sz,sz)) _ _ qm (λi q hq=>hq) A ρ _ _ (tn ev N1 ps hev) (u5 (pI (mE hE hz)) n);refine GS n n (by simp[dS];have:n<=n*sz:=Vr n qQ;omega) hp h6 ?_;unfold Instr.buildSlice;simp only[Sem.run_bind,run_underlying hu,Result.andThen_ok,run_sizeOf hE iX];rw[if_neg af];have hm:=yQ z n sz (by simpa using vM) qQ;by_cases h0:n*sz=0
 .have hn:n=0:=by
   rcases Nat.mul_eq_zero.1 h0 with h|h
   .exact h
   .omega
  subst hn;simp only[KF,if_true,Sem.run_pure,Result.andThen_ok];have e1:∀f:Nat->Value,(Array.map f (Array.range 0))=⟨lW z.cells.toList 0⟩:=λf=>by
   apply wC;show _=([]:aY);simp
  simp only[Sem.run_bind,Sem.run_pure,Result.andThen_ok,e1,h5,qo]
 .simp only[h0,pQ,Sem.run_bind,j8 hE hz,Result.andThen_ok,Sem.run_pure];rw[hm,h5];simp only[Sem.run_bind,qo,Result.andThen_ok,Sem.run_pure]
theorem FQ (hE:cW E P){t:TypeId}(h:xp E s t x y=some (v,s')):aH s s'/\∀X A ρ w x' y',pb P X A ρ s s' w->VR A ρ x x'->VR A ρ y y'->cJ P X A ρ s s' w v (Instr.makeSlice t x' y'):=by
 obtain⟨t',e,ht,hd,h1⟩:=pS h;have:=iU ht;subst this;obtain⟨i,hi,h2⟩:=aF h1;obtain⟨z,hz,h3⟩:=aF h2;clear h h1 h2 ht;split at h3
 .rename_i kl l kc c;obtain⟨hc,h4⟩:=bq h3;have:=aJ h4;simp only[cw] at this;obtain⟨rfl,rfl⟩:=this;clear h3 h4;simp only[bI,zZ,pe,c8,gT] at hc;obtain⟨⟨⟨⟨vM,qQ⟩,IW⟩,Vd⟩,hc5⟩:=hc;have hu:=dW hE hd;have hI:=hE.ty _ _ hi;refine⟨aH.jd s _,λX A ρ w x' y' hp hx hy=>?_⟩;rw[hx.mD,hy.mD];rw[gT] at hp⊢;refine GS l c (by simp[dS];omega) hp (u5 (pI (hE.zs _ _ _ hi hz)) c) ?_;have hb:(i.bytes:Int)*(c:Int)<=281474976710656:=by
   have:i.bytes*c<=1000000*1000000:=Nat.mul_le_mul IW qQ;have h2:((i.bytes*c:Nat):Int)<=281474976710656:=by omega
   rwa [Int.natCast_mul] at h2
  have:=run_makeSlice (P:=P) w t e i z hu hI hz kl kc (l:Int) (c:Int) af af;rw[show(Int.ofNat l)=(l:Int) from rfl,show(Int.ofNat c)=(c:Int) from rfl];rw[run_make w t e i z hu hI hz kl kc (l:Int) (c:Int) af af hb af];simp only[uM];have hm:=yQ z c i.size (by simpa using Vd) hc5;rw[show madeCells z.cells (c*i.size)=⟨lW z.cells.toList c⟩ from hm]
 .cases h3
theorem aat (h:adZ x s=some (v,s')):s'=s/\v=x/\((∃a,x= .pointer (some a))\/∃f a b,x= .func (.func f) a b):=by
 unfold adZ at h;split at h
 .rename_i a;have:=aJ h;simp only[cw] at this;exact⟨this.2.symm▸rfl,this.1▸rfl,.inl ⟨a,rfl⟩⟩
 .rename_i f a b;have:=aJ h;simp only[cw] at this;exact⟨this.2.symm▸rfl,this.1▸rfl,.inr ⟨f,a,b,rfl⟩⟩
 .cases h
theorem strCells_eq (l:List UInt8):strCells l=l.map λc=>Value.int .u8 (c.toNat:Int):=by
 induction l with
 |nil=>rfl
 |cons c l ih=>exact eC (Value.int .u8 (c.toNat:Int)::·) ih
theorem jS (l:List UInt8)(ρ:ig):(strCells l).map (bX ρ)=strCells l:=by rw[strCells_eq,List.map_map];apply yx;intro c _;simp
theorem eX.drew {g:Nat->Option gv}(h:eX P X A ρ g w):eX P X A ρ g w.drew:=⟨h.kK,h.inj⟩
theorem QN {β:Type}{sz:Nat}{k:Nat->aY->St->Option β}{r:β}(h:KT s sz x k=some r):∃n new s1,k n new s1=some r/\s1.heap=s.heap/\s1.next=s.next/\s1.wr=s.wr/\aH s s1/\new.length=n*sz/\
  ∀X A ρ w x',(∀b,In s1.cV b->X b)->eX P X A ρ s.heap.get w->VR A ρ x x'->∃fL,LR A ρ new fL/\fL=new.map (bX ρ)/\
   ∀w2,w2.heap=w.heap->(Builtin.lenOf x').run P w2= .ok n w2/\∀m,m<=n->(Builtin.firstCells sz m x').run P w2= .ok ⟨fL.take (m*sz)⟩ w2:=by
 unfold KT at h;split at h
 .rename_i z;obtain⟨h1,h2⟩:=bq h;have h1:sz=1:=by simpa using h1
  subst h1;refine⟨_,_,s,h2,rfl,rfl,rfl,aH.refl s,by rw[strCells_eq];simp,λX A ρ w x' hX jz hx=>⟨strCells z,λeb _=>jS z eb,(jS z ρ).symm,λw2 hw=>⟨?_,λm hm=>?_⟩⟩⟩
  .rw[hx.uW,c8];rfl
  .rw[hx.uW];unfold Builtin.firstCells;simp only[Sem.run_pure,extract_mk,Nat.sub_zero,IG,uz]
   congr 1
   apply wC;simp[strCells_eq,List.map_take]
 .rename_i n c;obtain⟨h1,h2⟩:=bq h;have h1:n=0:=by simpa using h1
  subst h1;refine⟨_,_,s,h2,rfl,rfl,rfl,aH.refl s,ay,λX A ρ w x' hX jz hx=>⟨[],LR.nil,rfl,λw2 hw=>⟨?_,λm hm=>?_⟩⟩⟩
  .rw[hx.je];rfl
  .rw[hx.je];simp[Builtin.firstCells]
 .rename_i b o n c;obtain⟨cs,e,u,hg,h1⟩:=mo h;obtain⟨new,hn,h2⟩:=aF h1;rw[qi] at hn;obtain⟨h3,h4⟩:=kJ hn;rw[eP] at h3;have hmul:Nat.mul n sz=n*sz:=rfl;rw[hmul] at h3 h4;refine⟨_,_,s.aU b,h2,ay,ay,ay,aH.aU s b,by rw[h4];simp;omega,λX A ρ w x' hX jz hx=>?_⟩;obtain⟨hA,c',aE,fr,r1,r2,r3,r4,r5,r6⟩:=jz.row (hX b (fQ s b)) hg;refine⟨(c'.drop o).take (n*sz),?_,?_,λw2 hw=>⟨?_,λm hm=>?_⟩⟩
  .rw[h4];exact(r2.drop o).take _
  .rw[h4,<-r2.self,List.map_take,List.map_drop]
  .rw[hx.fR];rfl
  .rw[hx.fR];unfold Builtin.firstCells;have hms:m*sz<=n*sz:=wE _ hm;rcases xh (m*sz) with h0|h0
   .simp only[h0,loadCells,loadCellsFrom,List.take_zero];rfl
   .rw[gU P (by rw[hw];exact r1) o (m*sz) (by simp;omega)]
    congr 1
    apply wC;simp only[];rw[Oh af,yz (by simp;omega),Oj,yA hms]
 .rename_i b o q n c;obtain⟨h1,h2⟩:=bq h;have h1:n=0:=by simpa using h1
  subst h1;refine⟨_,_,s,h2,rfl,rfl,rfl,aH.refl s,ay,λX A ρ w x' hX jz hx=>⟨[],LR.nil,rfl,λw2 hw=>⟨?_,λm hm=>?_⟩⟩⟩
  .obtain⟨a',te⟩:=hx.ti;rw[te];rfl
  .obtain⟨a',te⟩:=hx.ti;have B4:m=0:=Nat.eq_zero_of_le_zero hm;subst B4;rw[te];simp[Builtin.firstCells,loadCells,loadCellsFrom]
 .cases h
theorem OA {e:TypeId}{i:TypeInfo}(hi:P.info? e=some i)(w:World):(typeInfo e).run P w= .ok i w:=by simp[typeInfo,hi]
theorem gV {ts:Array TypeId}{ty t xt e:TypeId}{xd:TypeDesc}{i:TypeInfo}(h0:ts[0]?=some t)(h1:ts[1]?=some xt)(ht:P.underlying t=some (.slice e))(IX:P.underlying xt=some xd)(Fy:isInt xd=false)(hi:P.info? e=some i)
  {len n cap:Nat}{base:aS}{new:aY}(hl:(Builtin.lenOf x').run P w= .ok n w)(hf:(Builtin.firstCells i.size n x').run P w= .ok ⟨new⟩ w)(hr:len+n<=cap)
  (hn:base=none->w'=w)(hs:∀a,base=some a->(storeCells (a.add (len*i.size)) new).run P w= .ok () w'):
  (Builtin.append_ ts ty #[.slice base len cap,x']).run P w= .ok (.slice base (len+n) cap) w':=by
 cases xd<;>first|(cases Fy;done)|skip
 all_goals
  unfold Builtin.append_;simp only[h0,h1,KG,aad,aae,Sem.run_bind,run_underlying ht,run_underlying IX,Result.andThen_ok,sizeOf,OA hi,Sem.run_pure,jN,pQ,hl,hr,if_true,IF,hf];cases base with
  |none=>simp[hn rfl]
  |some a=>simp[hs a rfl]
theorem lz {ts:Array TypeId}{ty t xt e:TypeId}{xd:TypeDesc}{i:TypeInfo}{z:Value}(h0:ts[0]?=some t)(h1:ts[1]?=some xt)(ht:P.underlying t=some (.slice e))(IX:P.underlying xt=some xd)(Fy:isInt xd=false)(hi:P.info? e=some i)(hz:i.zero=some z)
  {len n cap:Nat}{base:aS}{old new:aY}(hl:(Builtin.lenOf x').run P w= .ok n w)(hf:(Builtin.firstCells i.size n x').run P w.drew= .ok ⟨new⟩ w.drew)(ho:(Builtin.firstCells i.size len (.slice base len cap)).run P w.drew= .ok ⟨old⟩ w.drew)(hr:¬len+n<=cap)
  (hsm:len+n<=1000000)(hby:i.bytes<=1000000):
  (Builtin.append_ ts ty #[.slice base len cap,x']).run P w= .ok (.slice (some ⟨w.heap.size,0,none⟩) (len+n) (grownCap w (len+n) cap e)) (w.drew.alloc (.cells (⟨old⟩++⟨new⟩++Builtin.zeroCells z.cells (grownCap w (len+n) cap e-(len+n))) e)):=by
 have hb:(len+n)*i.bytes<=140737488355328:=by
  have:(len+n)*i.bytes<=1000000*1000000:=Nat.mul_le_mul hsm hby;omega
 have hgs:=growslice_fits (need:=len+n) (old:=cap) (bytes:=i.bytes) af hb;have h48:¬(2^ 48<Builtin.nextslicecap (len+n) cap*i.bytes):=by omega
 have h63:¬(((len+n:Nat):Int)>IntKind.i64.max):=by
  have:IntKind.i64.max=9223372036854775807:=rfl;rw[this];omega
 have hq:(Question.appendCap (len+n) cap e).forced=false:=rfl;have dP:(choose (.appendCap (len+n) cap e)).run P w= .ok (grownCap w (len+n) cap e) w.drew:=by
  rfl
 have har:∀k,(askRoom k).run P w.drew= .ok () w.drew:=by
  intro k;unfold askRoom;split<;>simp[mark,Sem.run]
 cases xd<;>first|(cases Fy;done)|skip
 all_goals
  unfold Builtin.append_;simp only[h0,h1,KG,aad,aae,Sem.run_bind,run_underlying ht,run_underlying IX,Result.andThen_ok,sizeOf,OA hi,Sem.run_pure,jN,pQ,hl,hr,IF,if_true,h63,false_and,gt_iff_lt,h48];simp only[dP,har,ho,hf,Result.andThen_ok,zeroValue,Sem.run_bind,OA hi,Sem.run_pure,hz,qo];rfl
theorem Da (z:Array Value)(n:Nat):(Builtin.zeroCells z n).toList.length=n*z.size:=by simp[Builtin.zeroCells]
theorem yR {c c':aY}{e:TypeId}{i:TypeInfo}{z:Value}{len cap:Nat}(hp:pb P X A ρ s (s.new (.cells c e true)) w)(hc:LR A ρ c c')(hi:P.info? e=some i)(hzs:z.cells.size=i.size)(h0:0<i.size)(hl:c.length=len*i.size)(cX:len<=1000000){m:Sem Value}
  (hm:m.run P w= .ok (.slice (some ⟨w.heap.size,0,none⟩) len (grownCap w len cap e)) (w.drew.alloc (.cells ⟨c'++(Builtin.zeroCells z.cells (grownCap w len cap e-len)).toList⟩ e))):
  cJ P X A ρ s (s.new (.cells c e true)) w (bJ s len) m:=by
 have Z4:P.cellsOf e=i.size:=by simp[Program.cellsOf,hi]
 have hge:=grownCap_ge w len cap e;have hle:=grownCap_le_maxLen w len cap e (by unfold maxLen;omega);refine⟨_,_,ρ.at s.next (w.heap.size,grownCap w len cap e),hm,?_,?_⟩
 .have:=VR.slice (A:=dg A s.next (s.new (.cells c e true)).next) (ρ:=ρ.at s.next (w.heap.size,grownCap w len cap e)) (b:=s.next) (o:=0) (l:=len) (c:=dS) (.inr ⟨cC _,ay⟩);simpa[de,bJ] using this
 .refine Good.alloc (o:=.cells c e true) (x:=.cells ⟨c'++(Builtin.zeroCells z.cells (grownCap w len cap e-len)).toList⟩ e) hp.st hp.dI hp.lt (λc=>by simp) ay (j9 s _) (cC _) (heap_alloc_new w.drew _) ?_ (Fr.GP w _);refine⟨c',_,(0,0),rfl,hc,λ_=>⟨rfl,?_,by rw[Z4];exact h0,hle⟩,λh=>by cases h⟩;rw[Da,hzs,hl,Z4,<-lU]
  congr 1;omega
theorem Good.IY {s1:St}{eb:ig}(h1:s1.heap=s.heap)(h2:s1.next=s.next)(g:Good P X A ρ s1 s' w w' eb):Good P X A ρ s s' w w' eb:=by obtain⟨a,b,c,d,e,f,g,h⟩:=g;rw[h2] at a b c e f g;rw[h1] at d e f g;exact⟨a,b,c,d,e,f,g,h⟩
theorem cJ.IY {s1:St}{m:Sem Value}(h1:s1.heap=s.heap)(h2:s1.next=s.next)(g:cJ P X A ρ s1 s' w v m):cJ P X A ρ s s' w v m:=by obtain⟨v',w',eb,a,b,c⟩:=g;exact⟨v',w',eb,a,by rw[<-h2];exact b,c.IY h1 h2⟩
theorem pb.IY {s1 s2:St}(h1:s1.heap=s.heap)(h2:s1.next=s.next)(kL:∀b,In s2.cV b->In s'.cV b)(h:pb P X A ρ s s' w):pb P X A ρ s1 s2 w:=
 ⟨by rw[h2];exact h.lt,by rw[h1,h2];exact h.dI,λb hb=>h.cV b (kL b hb),by rw[h1];exact h.st⟩
theorem sg {g:Nat}{cs:aY}{e:TypeId}{fr:Nat×Nat}(hg:w.heap[g]?=some (.cells ⟨cs⟩ e fr))(C6:fr=(0,0)\/cs.length<=fr.1)(o:Nat)(vs:aY)(hl:o+vs.length<=cs.length)(hf:∀v∈vs,flat v=true):
  (storeCells ⟨g,o,none⟩ vs).run P w= .ok () (w.setRow g ⟨cs.take o++vs++cs.drop (o+vs.length)⟩):=by
 have:=mm P g o e fr vs 0 ⟨cs⟩ w hg (by simpa using C6) (by simpa using hl) (λv hv=>by rw[<-K1];exact hf v hv);simpa using this
theorem QO (c' aE fL:aY)(k:Nat)(h:c'.length=k):(c'++aE).take k++fL++(c'++aE).drop (k+fL.length)=(c'++fL)++aE.drop fL.length:=by subst h;rw[List.take_left,List.drop_append,Ac af];simp
theorem IZ (c' aE fL:aY)(k:Nat)(h:k+fL.length<=c'.length):(c'++aE).take k++fL++(c'++aE).drop (k+fL.length)=(c'.take k++fL++c'.drop (k+fL.length))++aE:=by rw[yz af,Oh af];simp
theorem aau (a b:aY)(c:Array Value):((⟨a⟩:Array Value)++(⟨b⟩:Array Value)++c)=⟨a++b++c.toList⟩:=by apply wC;simp
theorem K7 (hE:cW E P){elem t xt:TypeId}{xd:TypeDesc}{i:TypeInfo}{z:Value}{base:aS}{len cap n:Nat}{new:aY}{s1:St}
  (h:qh elem i.size base len cap n new s1=some (v,s'))(hi:P.info? elem=some i)(hz:i.zero=some z)(hzs:z.cells.size=i.size)(iX:0<i.size)(hby:i.bytes<=1000000)(pJ:new.length=n*i.size)(OB:∀v∈new,flat v=true)(cX:len+n<=1000000)
  (ht:P.underlying t=some (.slice elem))(IX:P.underlying xt=some xd)(Fy:isInt xd=false):
  aH s1 s'/\∀X A ρ w b' x' fL (ts:Array TypeId) ty,pb P X A ρ s1 s' w->VR A ρ (.slice base len cap) b'->LR A ρ new fL->ts[0]?=some t->ts[1]?=some xt->
   (∀w2,w2.heap=w.heap->(Builtin.lenOf x').run P w2= .ok n w2/\(Builtin.firstCells i.size n x').run P w2= .ok ⟨fL⟩ w2)->cJ P X A ρ s1 s' w v (Builtin.append_ ts ty #[b',x']):=by
 have Z4:P.cellsOf elem=i.size:=by simp[Program.cellsOf,hi]
 unfold qh at h;split at h
 .obtain⟨hc,h2⟩:=bq h;simp only[bI,zZ] at hc;obtain⟨rfl,rfl⟩:=hc;cases hn:Nat.beq n 0 with
  |true=>
   rw[hn,gA] at h2;(have vJ:n=0:=by simpa using hn);subst vJ;have:=aJ h2;simp only[cw] at this;obtain⟨rfl,rfl⟩:=this;refine⟨aH.refl _,λX A ρ w b' x' fL ts ty hp hb mq h0 h1 hx=>?_⟩;rw[hb.je];have hr:=gV (ty:=ty) (w':=w) h0 h1 ht IX Fy hi (hx w rfl).1 (hx w rfl).2 (len:=0) (cap:=0) (base:=none) af (λ_=>rfl) (λa h=>by cases h);exact cJ.pure hp hr (VR.ground ay)
  |false=>
   rw[hn,eG] at h2;(have vJ:n≠0:=by intro e;subst e;cases hn);have:=aJ h2;simp only[cw] at this;obtain⟨rfl,rfl⟩:=this;refine⟨aH.jd s1 _,λX A ρ w b' x' fL ts ty hp hb mq h0 h1 hx=>?_⟩;rw[hb.je];have hr:=lz (ty:=ty) h0 h1 ht IX Fy hi hz (hx w rfl).1 (hx w.drew rfl).2 (len:=0) (cap:=0) (base:=none) (old:=[]) (by simp[Builtin.firstCells]) af af hby;simp only[mS] at hr;refine yR (cap:=0) hp mq hi hzs iX pJ af (hr.trans ?_);rw[aau,pF]
 .rename_i b o;obtain⟨c,e,wd,hg,h3⟩:=mo h;cases hk:Nat.ble dS cap with
  |true=>
   rw[hk,gA] at h3;obtain⟨hc,h4⟩:=bq h3;simp only[bI,zZ,c8] at hc;obtain⟨⟨⟨hw,he⟩,u3⟩,ho⟩:=hc;subst hw he u3 ho;have hmul:Nat.mul len i.size=len*i.size:=rfl;have QP:∀ρ:ig,de (ρ b) dS=(ρ b).2:=λρ=>by simp[de]
   cases hbq:Nat.beq (dX c) (Nat.mul len i.size) with
   |false=>
    rw[hbq,eG] at h4;obtain⟨old,agQ,h4⟩:=aF h4;obtain⟨h5,h6⟩:=kJ agQ;rw[hmul] at h5 h6;have:=aJ h4;simp only[cw] at this;obtain⟨rfl,rfl⟩:=this;have Z5:aH s1 (((s1.aU b).put b none).new (.cells (old++new) e true)):=((aH.aU s1 b).trans (aH.put _ b _ (by rw[gB,hg];simp))).trans (aH.jd _ _);refine⟨Z5,λX A ρ w b' x' fL ts ty hp hb mq h0 h1 hx=>?_⟩;have hX:X b:=hp.cV b ((aH.jd _ _).cV b (fh _ b _));obtain⟨hA,c',aE,fr,r1,r2,r3,r4,r5,r6⟩:=hp.st.row hX hg;obtain⟨r7,r8,r9,r10⟩:=r5 rfl;rw[Z4] at r8;subst r7;rw[hb.fR,QP];have VQ:=mq.length;(have GV:(c'.take (len*i.size)).length=len*i.size:=by rw[cO];omega);(have Ku:LR A ρ (old++new) (c'.take (len*i.size)++fL):=by rw[h6];exact(r2.take _).append mq);by_cases uq:len+n<=(ρ b).2
    .have SI:len*i.size+n*i.size<=c.length+aE.length:=by rw[r8,<-lU];exact wE _ uq
     have jz:=sg (P:=P) r1 r4 (len*i.size) fL (by simp;omega) (mq.ku OB);have hr:=gV (ty:=ty) (w':=w.setRow (ρ b).1 ⟨(c'++aE).take (len*i.size)++fL++(c'++aE).drop (len*i.size+fL.length)⟩) h0 h1 ht IX Fy hi (hx w rfl).1 (hx w rfl).2 (len:=len) (cap:=(ρ b).2) (base:=some ⟨(ρ b).1,0,none⟩) uq (λh=>by cases h) (λa h=>by
      have:=iU h;subst this;rw[add_lit,mS];exact jz)
     refine⟨_,_,ρ.at s1.next (ρ b),hr,?_,?_⟩
     .have:=VR.slice (A:=dg A s1.next (((s1.aU b).put b none).new (.cells (old++new) e true)).next) (ρ:=ρ.at s1.next (ρ b)) (b:=s1.next) (o:=0) (l:=len+n) (c:=dS) (.inr ⟨cC _,ay⟩);simpa[de,bJ] using this
     .refine Good.renew (o:=.cells c e true) (o':=.cells (old++new) e true) hp.st hp.dI hp.lt hX hg (λc=>by simp) ay ((aH.jd _ _).wr b (ix _ b _)) ?_ (setRow_heap w _ _ _ _ _ r1) ?_ (Fr.setRow w _ _)
      .have:=j9 ((s1.aU b).put b none) (.cells (old++new) e true);simpa using this
      .refine⟨c'.take (len*i.size)++fL,(c'.drop (len*i.size)++aE).drop fL.length,(0,0),?_,Ku,λ_=>⟨rfl,?_,r9,r10⟩,λh=>by cases h⟩
       .rw[show c'++aE=c'.take (len*i.size)++(c'.drop (len*i.size)++aE) by rw[<-iL,yy],QO _ _ fL _ GV]
       .rw[Z4,bn,eP,bn,eP,h6,cO,yA h5];omega
    .have hold:(Builtin.firstCells i.size len (.slice (some ⟨(ρ b).1,0,none⟩) len (ρ b).2)).run P w.drew= .ok ⟨c'.take (len*i.size)⟩ w.drew:=by
      unfold Builtin.firstCells;rw[gU P (w:=w.drew) r1 0 (len*i.size) (by simp;omega)];rw[IG,yz af]
     have hr:=lz (ty:=ty) h0 h1 ht IX Fy hi hz (hx w rfl).1 (hx w.drew rfl).2 (len:=len) (cap:=(ρ b).2) (base:=some ⟨(ρ b).1,0,none⟩) hold uq cX hby;have yO:Good P X A ρ s1 ((s1.aU b).put b none) w w ρ:=Good.drop (o:=.cells c e true) hp.st hp.dI (λc=>by simp) ay (ix _ b _) hX hg (Fr.refl w _);have hp2:pb P X (dg A s1.next ((s1.aU b).put b none).next) ρ ((s1.aU b).put b none) (((s1.aU b).put b none).new (.cells (old++new) e true)) w:=
      ⟨λj hj=>by
         rcases hj with hj|hj
         .have:=hp.lt j hj;simp;exact this
         .simp at hj;omega,λc hc=>yO.dI c hc,hp.cV,yO.state⟩
     obtain⟨v',w',eb,g1,g2,g3⟩:=yR (cap:=(ρ b).2) (m:=Builtin.append_ ts ty #[.slice (some ⟨(ρ b).1,0,none⟩) len (ρ b).2,x']) hp2 (Ku.mono (λi hi=>.inl hi) (λ_ _=>rfl)) hi hzs iX (len:=len+n) (by rw[bn,h6,cO,yA h5,pJ,lU]) cX (hr.trans (by rw[aau]));refine⟨v',w',eb,g1,?_,?_⟩
     .have:bJ ((s1.aU b).put b none) (len+n)=bJ s1 (len+n):=by simp[bJ]
      refine VR.mono (g2) (λj hj=>?_) (λ_ _=>rfl);rcases hj with(hj|hj)|hj
      .exact .inl hj
      .simp at hj;omega
      .exact .inr (by simpa using hj)
     .exact Good.trans hp.cV ((aH.aU s1 b).trans (aH.put _ b _ (by rw[gB,hg];simp))) (aH.jd _ _) hp.lt yO g3
   |true=>
   rw[hbq,gA] at h4;have uA:c.length=len*i.size:=by rw[<-c8];exact nV hbq
   cases hn:Nat.beq n 0 with
   |true=>
    rw[hn,gA] at h4;have vJ:n=0:=by simpa using hn
    subst vJ;have:=aJ h4;simp only[cw] at this;obtain⟨rfl,rfl⟩:=this;refine⟨aH.aU s1 b,λX A ρ w b' x' fL ts ty hp hb mq h0 h1 hx=>?_⟩;obtain⟨hA,c',aE,fr,r1,r2,r3,r4,r5,r6⟩:=hp.st.row (hp.cV b (fQ s1 b)) hg;obtain⟨r7,r8,r9,r10⟩:=r5 rfl;rw[Z4] at r8;rw[hb.fR,QP];have hle:len<=(ρ b).2:=aac (c:=i.size) af iX;have hn':fL=[]:=mj (by rw[mq.length,pJ];omega);have hr:=gV (ty:=ty) (w':=w) h0 h1 ht IX Fy hi (hx w rfl).1 (hx w rfl).2 (len:=len) (cap:=(ρ b).2) (base:=some ⟨(ρ b).1,0,none⟩) af (λh=>by cases h) (λa h=>by
     subst hn';simp[storeCells])
    refine cJ.same hp ay ay hr ?_;have:=VR.slice (A:=A) (ρ:=ρ) (b:=b) (o:=0) (l:=len) (c:=dS) hA;rw[QP] at this;exact this
   |false=>
    rw[hn,eG] at h4;have:=aJ h4;simp only[cw] at this;obtain⟨rfl,rfl⟩:=this;have Z5:aH s1 (((s1.aU b).put b none).new (.cells (c++new) e true)):=((aH.aU s1 b).trans (aH.put _ b _ (by rw[gB,hg];simp))).trans (aH.jd _ _);refine⟨Z5,λX A ρ w b' x' fL ts ty hp hb mq h0 h1 hx=>?_⟩;have hX:X b:=hp.cV b ((aH.jd _ _).cV b (fh _ b _));obtain⟨hA,c',aE,fr,r1,r2,r3,r4,r5,r6⟩:=hp.st.row hX hg;obtain⟨r7,r8,r9,r10⟩:=r5 rfl;rw[Z4] at r8;subst r7;rw[hb.fR,QP];have VQ:=mq.length;have Ku:LR A ρ (c++new) (c'++fL):=r2.append mq;by_cases uq:len+n<=(ρ b).2
    .have SI:len*i.size+n*i.size<=c.length+aE.length:=by rw[r8,<-lU];exact wE _ uq
     have jz:=sg (P:=P) r1 r4 (len*i.size) fL (by simp;omega) (mq.ku OB);have hr:=gV (ty:=ty) (w':=w.setRow (ρ b).1 ⟨(c'++aE).take (len*i.size)++fL++(c'++aE).drop (len*i.size+fL.length)⟩) h0 h1 ht IX Fy hi (hx w rfl).1 (hx w rfl).2 (len:=len) (cap:=(ρ b).2) (base:=some ⟨(ρ b).1,0,none⟩) uq (λh=>by cases h) (λa h=>by
      have:=iU h;subst this;rw[add_lit,mS];exact jz)
     refine⟨_,_,ρ.at s1.next (ρ b),hr,?_,?_⟩
     .have:=VR.slice (A:=dg A s1.next (((s1.aU b).put b none).new (.cells (c++new) e true)).next) (ρ:=ρ.at s1.next (ρ b)) (b:=s1.next) (o:=0) (l:=len+n) (c:=dS) (.inr ⟨cC _,ay⟩);simpa[de,bJ] using this
     .refine Good.renew (o:=.cells c e true) (o':=.cells (c++new) e true) hp.st hp.dI hp.lt hX hg (λc=>by simp) ay ((aH.jd _ _).wr b (ix _ b _)) ?_ (setRow_heap w _ _ _ _ _ r1) ?_ (Fr.setRow w _ _)
      .have:=j9 ((s1.aU b).put b none) (.cells (c++new) e true);simpa using this
      .have akm:c'.length=len*i.size:=by omega
       refine⟨c'++fL,aE.drop fL.length,(0,0),?_,Ku,λ_=>⟨rfl,?_,r9,r10⟩,λh=>by cases h⟩
       .rw[QO c' aE fL _ akm]
       .rw[Z4,bn,eP];omega
    .have hold:(Builtin.firstCells i.size len (.slice (some ⟨(ρ b).1,0,none⟩) len (ρ b).2)).run P w.drew= .ok ⟨c'⟩ w.drew:=by
      unfold Builtin.firstCells;rw[gU P (w:=w.drew) r1 0 (len*i.size) (by simp;omega)];rw[IG,yz af,rT af]
     have hr:=lz (ty:=ty) h0 h1 ht IX Fy hi hz (hx w rfl).1 (hx w.drew rfl).2 (len:=len) (cap:=(ρ b).2) (base:=some ⟨(ρ b).1,0,none⟩) hold uq cX hby;have yO:Good P X A ρ s1 ((s1.aU b).put b none) w w ρ:=Good.drop (o:=.cells c e true) hp.st hp.dI (λc=>by simp) ay (ix _ b _) hX hg (Fr.refl w _);have hp2:pb P X (dg A s1.next ((s1.aU b).put b none).next) ρ ((s1.aU b).put b none) (((s1.aU b).put b none).new (.cells (c++new) e true)) w:=
      ⟨λj hj=>by
         rcases hj with hj|hj
         .have:=hp.lt j hj;simp;exact this
         .simp at hj;omega,λc hc=>yO.dI c hc,hp.cV,yO.state⟩
     obtain⟨v',w',eb,g1,g2,g3⟩:=yR (cap:=(ρ b).2) (m:=Builtin.append_ ts ty #[.slice (some ⟨(ρ b).1,0,none⟩) len (ρ b).2,x']) hp2 (Ku.mono (λi hi=>.inl hi) (λ_ _=>rfl)) hi hzs iX (len:=len+n) (by rw[bn,uA,pJ,lU]) cX (hr.trans (by rw[aau]));refine⟨v',w',eb,g1,?_,?_⟩
     .have:bJ ((s1.aU b).put b none) (len+n)=bJ s1 (len+n):=by simp[bJ]
      refine VR.mono (g2) (λj hj=>?_) (λ_ _=>rfl);rcases hj with(hj|hj)|hj
      .exact .inl hj
      .simp at hj;omega
      .exact .inr (by simpa using hj)
     .exact Good.trans hp.cV ((aH.aU s1 b).trans (aH.put _ b _ (by rw[gB,hg];simp))) (aH.jd _ _) hp.lt yO g3
  |false=>
   rw[hk,eG] at h3;have u3:cap<dS:=by
    rcases lq cap dS with h|h
    .exact h
    .rw[gb h] at hk;cases hk
   cases hr:Nat.ble (Nat.add len n) cap with
   |true=>
    rw[hr,gA] at h3;have uq:len+n<=cap:=mR hr;cases hn:Nat.beq n 0 with
    |true=>
     rw[hn,gA] at h3;have vJ:n=0:=by simpa using hn
     subst vJ;have:=aJ h3;simp only[cw] at this;obtain⟨rfl,rfl⟩:=this;refine⟨aH.aU s1 b,λX A ρ w b' x' fL ts ty hp hb mq h0 h1 hx=>?_⟩;rw[hb.fR,fE u3];have hn':fL=[]:=mj (by rw[mq.length,pJ];omega);have hr:=gV (ty:=ty) (w':=w) h0 h1 ht IX Fy hi (hx w rfl).1 (hx w rfl).2 (len:=len) (cap:=cap) (base:=some ⟨(ρ b).1,o,none⟩) uq (λh=>by cases h) (λa h=>by
      subst hn';simp[storeCells])
     have hA:=(hp.st.row (hp.cV b (fQ s1 b)) hg).1;refine cJ.same hp ay ay hr ?_;have:=VR.slice (A:=A) (ρ:=ρ) (b:=b) (o:=o) (l:=len) (c:=cap) hA;rw[fE u3] at this;exact this
    |false=>
     rw[hn,eG] at h3;obtain⟨cs,qm,h4⟩:=aF h3;have:=aJ h4;simp only[cw] at this;obtain⟨rfl,rfl⟩:=this;obtain⟨h8,h9⟩:=n4 _ _ qm;refine⟨(aH.aU s1 b).trans (aH.put _ b _ (by rw[gB,hg];simp)),λX A ρ w b' x' fL ts ty hp hb mq h0 h1 hx=>?_⟩;have hX:X b:=hp.cV b (fh _ b _);obtain⟨hA,c',aE,fr,r1,r2,r3,r4,r5,r6⟩:=hp.st.row hX hg;rw[hb.fR,fE u3];have VQ:=mq.length;have FK:Nat.add o (Nat.mul len i.size)=o+len*i.size:=rfl;rw[FK] at h8 h9;have jz:=sg (P:=P) r1 r4 (o+len*i.size) fL (by simp;omega) (mq.ku OB);have hr:=gV (ty:=ty) (w':=w.setRow (ρ b).1 ⟨(c'++aE).take (o+len*i.size)++fL++(c'++aE).drop (o+len*i.size+fL.length)⟩) h0 h1 ht IX Fy hi (hx w rfl).1 (hx w rfl).2 (len:=len) (cap:=cap) (base:=some ⟨(ρ b).1,o,none⟩) uq (λh=>by cases h) (λa h=>by
      have:=iU h;subst this;rw[add_lit];exact jz)
     refine⟨_,_,ρ,hr,?_,?_⟩
     .have:=VR.slice (A:=dg A s1.next ((s1.aU b).put b (some (.cells cs e wd))).next) (ρ:=ρ) (b:=b) (o:=o) (l:=len+n) (c:=cap) (.inl hA);rw[fE u3] at this;exact this
     .refine Good.bh (o:=.cells c e wd) (o':=.cells cs e wd) hp.st hp.dI hX hg (λc=>by simp) ay (ix _ b _) (setRow_heap w _ _ _ _ _ r1) ?_ (Fr.setRow w _ _);have uA:cs.length=c.length:=by rw[h9];simp;omega
      refine⟨c'.take (o+len*i.size)++fL++c'.drop (o+len*i.size+fL.length),aE,fr,?_,?_,?_,?_⟩
      .rw[IZ c' aE fL _ af]
      .rw[h9,VQ];exact((r2.take _).append mq).append (r2.drop _)
      .rw[uA];exact r5
      .rw[uA];exact r6
   |false=>
    rw[hr,eG] at h3;have uq:¬len+n<=cap:=λh=>by
     have:Nat.ble (Nat.add len n) cap=true:=gb h;rw[this] at hr;cases hr
    obtain⟨old,hold,h4⟩:=aF h3;have:=aJ h4;simp only[cw] at this;obtain⟨rfl,rfl⟩:=this;rw[qi] at hold;obtain⟨h5,h6⟩:=kJ hold;have hmul:Nat.mul len i.size=len*i.size:=rfl;rw[hmul] at h5 h6;rw[eP] at h5;refine⟨(aH.aU s1 b).trans (aH.jd _ _),λX A ρ w b' x' fL ts ty hp hb mq h0 h1 hx=>?_⟩;have hX:X b:=hp.cV b ((aH.jd _ _).cV b (fQ s1 b));obtain⟨hA,c',aE,fr,r1,r2,r3,r4,r5,r6⟩:=hp.st.row hX hg;rw[hb.fR,fE u3];have agR:(Builtin.firstCells i.size len (.slice (some ⟨(ρ b).1,o,none⟩) len cap)).run P w.drew= .ok ⟨(c'.drop o).take (len*i.size)⟩ w.drew:=by
     unfold Builtin.firstCells;rcases xh (len*i.size) with z6|z6
     .simp only[z6,loadCells,loadCellsFrom,List.take_zero];rfl
     .rw[gU P (w:=w.drew) r1 o (len*i.size) (by simp;omega)]
      congr 1
      apply wC;simp only[];rw[Oh af,yz (by simp;omega)]
    have hr:=lz (ty:=ty) h0 h1 ht IX Fy hi hz (hx w rfl).1 (hx w.drew rfl).2 (len:=len) (cap:=cap) (base:=some ⟨(ρ b).1,o,none⟩) agR uq cX hby;have Ku:LR A ρ (old++new) ((c'.drop o).take (len*i.size)++fL):=by rw[h6];exact((r2.drop o).take _).append mq
    have QQ:(old++new).length=(len+n)*i.size:=by
     rw[bn,pJ,h6,cO,eP,yA h5,lU]
    have pT:pb P X A ρ (s1.aU b) ((s1.aU b).new (.cells (old++new) elem true)) w:=hp.IY ay ay (λ_ h=>h);have:=yR (cap:=cap) (m:=Builtin.append_ ts ty #[.slice (some ⟨(ρ b).1,o,none⟩) len cap,x']) pT Ku hi hzs iX (len:=len+n) QQ cX (hr.trans (by rw[aau]));have pf:bJ (s1.aU b) (Nat.add len n)=bJ (s1.aU b) (len+n):=rfl;rw[pf];exact this.IY ay ay
 .cases h
theorem OC (hE:cW E P){ts:List TypeId}(h:Cm E s ts x y=some (v,s')):aH s s'/\∀X A ρ w x' y' ty,pb P X A ρ s s' w->VR A ρ x x'->VR A ρ y y'->cJ P X A ρ s s' w v (Builtin.append_ ⟨ts⟩ ty #[x',y']):=by
 obtain⟨t,elem,ht,hd,h1⟩:=pS h;obtain⟨xt,IX,h2⟩:=aF h1;obtain⟨xd,Fy,h3⟩:=aF h2;obtain⟨Z6,h4⟩:=bq h3;obtain⟨i,hi,h5⟩:=aF h4;obtain⟨z,hz,h6⟩:=aF h5;obtain⟨hc,h7⟩:=bq h6;obtain⟨n,new,s1,h8,e1,e2,e3,yO,anp,VS⟩:=QN (P:=P) h7;obtain⟨pJ,h9⟩:=bq h8;obtain⟨OB,Fx⟩:=bq h9;clear h h1 h2 h3 h4 h5 h6 h7 h8 h9;rw[dO] at ht IX;simp only[bI,pe,zZ,c8,gT] at hc;obtain⟨⟨vM,qQ⟩,IW⟩:=hc;have pJ:new.length=n*i.size:=by simpa using pJ
 have OB:=(n9 new).1 OB;split at Fx
 .rename_i base len cap;obtain⟨cX,Z7⟩:=bq Fx;have cX:len+n<=1000000:=mR cX;have hI:=hE.ty _ _ hi;obtain⟨Cr,hk⟩:=K7 hE Z7 hI hz (by simpa using IW) vM qQ pJ OB cX (dW hE hd) (dW hE Fy) (by simpa using Z6);refine⟨yO.trans Cr,λX A ρ w x' y' ty hp hx hy=>?_⟩;obtain⟨fL,Ar,h13,h14⟩:=VS X A ρ w y' (λb hb=>hp.cV b (Cr.cV b hb)) hp.st hy;refine(hk X A ρ w x' y' fL ⟨ts⟩ ty (hp.IY e1 e2 λ_ h=>h) hx Ar (by simpa using ht) (by simpa using IX) λw2 SJ=>?_).IY e1 e2;obtain⟨h15,FR⟩:=h14 w2 SJ;refine⟨h15,?_⟩;rw[FR n (cC _),rT (by rw[Ar.length,pJ];exact cC _)]
 .cases Fx
theorem VT (hE:cW E P){ts:List TypeId}(h:copyV E s ts x y=some (v,s')):aH s s'/\∀X A ρ w x' y' ty,pb P X A ρ s s' w->VR A ρ x x'->VR A ρ y y'->cJ P X A ρ s s' w v (Builtin.copy_ ⟨ts⟩ ty #[x',y']):=by
 unfold copyV at h;split at h
 .rename_i b o n cap;obtain⟨t,e,ht,hd,h1⟩:=pS h;obtain⟨sz,iX,h2⟩:=aF h1;obtain⟨k,new,s1,h3,e1,e2,e3,yO,pJ,VS⟩:=QN (P:=P) h2;unfold Aj at h3;obtain⟨OB,h4⟩:=bq h3;obtain⟨ad4,GW,h5⟩:=aF h4;obtain⟨c,ee,wd,hg,h6⟩:=mo h5;obtain⟨cs,qm,h7⟩:=aF h6;have:=aJ h7;simp only[cw] at this;obtain⟨rfl,rfl⟩:=this;clear h h1 h2 h3 h4 h5 h6 h7;rw[dO] at ht;have OB:=(n9 new).1 OB;obtain⟨h8,h9⟩:=kJ GW;have SD:C0 k n=Nat.min k n:=by
   unfold C0;rw[dJ];simp only[pe];show _=min k n;rw[Nat.min_def]
  rw[SD] at h8 h9⊢;have mF:Nat.min k n<=k:=Nat.min_le_left k n;have hmul:Nat.mul (Nat.min k n) sz=Nat.min k n*sz:=rfl;rw[hmul] at h8 h9;obtain⟨Fx,Z7⟩:=n4 _ _ qm;have Z5:aH s1 ((s1.aU b).put b (some (.cells cs ee wd))):=(aH.aU s1 b).trans (aH.put _ b _ (by rw[gB,hg];simp));refine⟨yO.trans Z5,λX A ρ w x' y' ty hp hx hy=>?_⟩;have hX:X b:=hp.cV b (fh _ b _);have VU:pb P X A ρ s1 ((s1.aU b).put b (some (.cells cs ee wd))) w:=hp.IY e1 e2 λ_ h=>h
  obtain⟨hA,c',aE,fr,r1,r2,r3,r4,r5,r6⟩:=VU.st.row hX hg;obtain⟨fL,Ar,h13,h14⟩:=VS X A ρ w y' (λj hj=>hp.cV j (Z5.cV j hj)) hp.st hy;obtain⟨h15,FR⟩:=h14 w rfl;rw[hx.fR];have ad5:LR A ρ ad4 (fL.take (Nat.min k n*sz)):=by rw[h9];exact Ar.take _
  have ur:=ad5.length;have jz:=sg (P:=P) r1 r4 o (fL.take (Nat.min k n*sz)) (by rw[ur,bn];omega) (ad5.ku λu hu=>by rw[h9] at hu;exact OB u (B2 hu));have hf:=FR _ mF;have hu:=dW hE hd;have oc:(Builtin.copy_ ⟨ts⟩ ty #[.slice (some ⟨(ρ b).1,o,none⟩) n (de (ρ b) cap),y']).run P w= .ok (.int .i64 (.ofNat (Nat.min k n))) (w.setRow (ρ b).1 ⟨(c'++aE).take o++fL.take (Nat.min k n*sz)++(c'++aE).drop (o+(fL.take (Nat.min k n*sz)).length)⟩):=by
   unfold Builtin.copy_;(have ht':(⟨ts⟩:Array TypeId)[0]?=some t:=by simpa using ht);simp only[ht',KG,aad,aae,Sem.run_bind,run_underlying hu,Result.andThen_ok,h15,run_sizeOf hE iX,hf,jz];rfl
  refine cJ.IY e1 e2 ⟨_,_,ρ,oc,VR.int _ _,?_⟩;refine Good.bh (o:=.cells c ee wd) (o':=.cells cs ee wd) VU.st VU.dI hX hg (λc=>by simp) ay (ix _ b _) (setRow_heap w _ _ _ _ _ r1) ?_ (Fr.setRow w _ _);have uA:cs.length=c.length:=by rw[Z7];simp;omega
  refine⟨c'.take o++fL.take (Nat.min k n*sz)++c'.drop (o+(fL.take (Nat.min k n*sz)).length),aE,fr,?_,?_,?_,?_⟩
  .rw[IZ c' aE _ _ af]
  .rw[Z7,ur];exact((r2.take _).append ad5).append (r2.drop _)
  .rw[uA];exact r5
  .rw[uA];exact r6
 .cases h
theorem GX {zs:aY}(h:∀y∈zs,flat y=true):∀(n:Nat),∀y∈lW zs n,flat y=true
 |0,_,hy=>by cases hy
 |n+1,y,hy=>by
  rw[vL] at hy;exact(eW.1 hy).elim (h y) (GX h n y)
theorem SK (hE:cW E P){ts:List TypeId}(h:Ak E s ts x=some (v,s')):aH s s'/\∀X A ρ w x' ty,pb P X A ρ s s' w->VR A ρ x x'->cJ P X A ρ s s' w v (Builtin.clear_ ⟨ts⟩ ty #[x']):=by
 unfold Ak at h;split at h
 .rename_i n c;obtain⟨t,e,ht,hd,h1⟩:=pS h;have:=aJ h1;simp only[cw] at this;obtain⟨rfl,rfl⟩:=this;rw[dO] at ht;have hu:=dW hE hd;refine⟨aH.refl _,λX A ρ w x' ty hp hx=>cJ.pure hp (v':=.tuple #[]) ?_ (VR.ground ay)⟩;rw[hx.je];simp[Builtin.clear_,ht,run_underlying hu]
 .rename_i b o q n c;obtain⟨t,e,ht,hd,h1⟩:=pS h;rw[dO] at ht;have hu:=dW hE hd;cases hn:Nat.beq n 0 with
  |true=>
   rw[show Nat.beq n (nat_lit 0)=true from hn,gA] at h1;(have vJ:n=0:=by simpa using hn);subst vJ;have:=aJ h1;simp only[cw] at this;obtain⟨rfl,rfl⟩:=this;refine⟨aH.refl _,λX A ρ w x' ty hp hx=>cJ.pure hp (v':=.tuple #[]) ?_ (VR.ground ay)⟩;obtain⟨a',rfl⟩:=hx.ti;simp[Builtin.clear_,ht,run_underlying hu]
  |false=>
   rw[show Nat.beq n (nat_lit 0)=false from hn,eG] at h1;obtain⟨hq,h2⟩:=bq h1;have:=QM hq;subst this;obtain⟨QR,e',wd,hg,h3⟩:=mo h2;obtain⟨sz,iX,h4⟩:=aF h3;obtain⟨z,hz,h5⟩:=aF h4;obtain⟨hc,h6⟩:=bq h5;obtain⟨cs,qm,h7⟩:=aF h6;have:=aJ h7;simp only[cw] at this;obtain⟨rfl,rfl⟩:=this;simp only[bI,pe,zZ,c8,gT] at hc;obtain⟨⟨vM,qQ⟩,IW⟩:=hc;rw[gT] at qm;refine⟨(aH.aU s b).trans (aH.put _ b _ (by rw[gB,hg];simp)),λX A ρ w x' ty hp hx=>?_⟩;have hX:X b:=hp.cV b (fh _ b _);obtain⟨hA,c',aE,fr,r2,r3,r4,r5,r6,r7⟩:=hp.st.row hX hg;obtain⟨h8,h9⟩:=n4 _ _ qm;(have VV:(lW z.cells.toList n).length=n*sz:=by rw[<-vM];exact Bu _ _);have hrf:∀y∈lW z.cells.toList n,flat y=true:=GX ((n9 _).1 IW) n;have SL:LR A ρ (lW z.cells.toList n) (lW z.cells.toList n):=u5 (λeb=>by rw[<-xv,mE hE hz]) n;have uA:c'.length=QR.length:=r3.length;have vJ:n≠0:=by rintro rfl;cases hn
   rw[hx.fR];have oc:(Builtin.clear_ ⟨ts⟩ ty #[.slice (some ⟨(ρ b).1,o,none⟩) n (de (ρ b) c)]).run P w= .ok (.tuple #[]) (w.setRow (ρ b).1 ⟨(c'++aE).take o++lW z.cells.toList n++(c'++aE).drop (o+(lW z.cells.toList n).length)⟩):=by
    have Fx:=sg (P:=P) (g:=(ρ b).1) (cs:=c'++aE) (e:=e') (fr:=fr) (w:=w) r2 (by simpa using r5) o (lW z.cells.toList n) (by rw[bn];omega) hrf;have hm:=yQ z n sz (by simpa using vM) qQ;have hzc:Builtin.zeroCells z.cells n=⟨lW z.cells.toList n⟩:=by
     unfold Builtin.zeroCells;rw[show z.cells.size=sz by simpa using vM];rw[show z.cells.size=sz by simpa using vM] at hm;exact hm
    unfold Builtin.clear_;simp only[KG,ht,Sem.run_bind,run_underlying hu,Result.andThen_ok];simp only[KG,aad,Sem.run_bind,run_underlying hu,Result.andThen_ok];rw[j8 hE hz];simp only[Result.andThen_ok,hzc];rw[show(storeCells ⟨(ρ b).1,o,none⟩ (⟨lW z.cells.toList n⟩:Array Value).toList).run P w=_ from Fx];rfl
   refine⟨_,_,ρ,oc,VR.ground ay,?_⟩;refine Good.bh (o:=.cells QR e' wd) (o':=.cells cs e' wd) hp.st hp.dI hX hg (λc=>by simp) ay (ix _ b _) (setRow_heap w _ _ _ _ _ r2) ?_ (Fr.setRow w _ _);(have hle:cs.length=QR.length:=by rw[h9];simp;omega);refine⟨c'.take o++lW z.cells.toList n++c'.drop (o+(lW z.cells.toList n).length),aE,fr,by rw[IZ c' aE _ o af],?_,?_,?_⟩
   .rw[h9];exact((r3.take o).append SL).append (r3.drop _)
   .rw[hle];exact r6
   .rw[hle];exact r7
 .cases h
theorem FT (h:sZ x s=some (v,s')):aH s s'/\∀X A ρ w x' ts ty,pb P X A ρ s s' w->VR A ρ x x'->cJ P X A ρ s s' w v (Builtin.unsafeSliceData_ ts ty #[x']):=by
 unfold sZ at h;split at h
 .rename_i b n cap;obtain⟨hc,h1⟩:=bq h;obtain⟨c,e,wd,hg,h2⟩:=mo h1;obtain⟨hw,h3⟩:=bq h2;have:=aJ h3;simp only[cw] at this;obtain⟨rfl,rfl⟩:=this;have hc:cap=dS:=by simpa using hc
  subst hc;simp only[bI,pe,c8] at hw;obtain⟨rfl,hl⟩:=hw;refine⟨aH.aU s b,λX A ρ w x' ts ty hp hx=>?_⟩;obtain⟨hA,c',aE,fr,r1,r2,r3,r4,r5,r6⟩:=hp.st.row (hp.cV b (fQ s b)) hg;obtain⟨r7,r8,r9,r10⟩:=r5 rfl;rw[hx.fR];refine cJ.same hp ay ay (Lib.run_unsafeSliceData_row w ts ty _ n _ ?_) (VR.ptr hA);simp only[de,cC,if_true,Ag,Nat.sub_zero];rintro h0;rw[h0] at r8;omega
 .cases h
theorem OD (v:Value)(l:aY):yH (v::l)=match v with
  |.int .u8 (.ofNat k)=>dN (Nat.ble (Nat.succ k) 256)<| ob (yH l) λr=>some (UInt8.ofNat k::r)
  |_=>none:=rfl
theorem Db:∀(l:aY){bs:List UInt8},yH l=some bs->l=strCells bs
 |[],bs,h=>by have:=iU h;subst this;rfl
 |v::l,bs,h=>by
  rw[OD] at h;split at h
  .rename_i k;obtain⟨h1,h2⟩:=bq h;obtain⟨r,h3,h4⟩:=aF h2;have:=iU h4;subst this;have hk:k<256:=by simpa[Sm] using h1
   have ih:=Db l h3;rw[strCells_eq,xg,ih,strCells_eq]
   congr 2
   (have:(UInt8.ofNat k).toNat=k:=by simp[UInt8.toNat_ofNat,IE hk]);rw[this];rfl
  .cases h
theorem Fr.freeze (w:World)(g n:Nat):Fr w (w.freeze ⟨g,0,none⟩ n) λr=>r=g:=by
 unfold World.freeze;split
 .exact Fr.refl w _
 .refine⟨rfl,rfl,rfl,ay,λr hr gh=>?_⟩;simp only[Ol];rw[if_neg (λe=>gh e.symm)]
theorem As (hE:cW E P){ts:List TypeId}(h:oE E ts x y s=some (v,s')):aH s s'/\∀X A ρ w x' y' ty,pb P X A ρ s s' w->VR A ρ x x'->VR A ρ y y'->cJ P X A ρ s s' w v (Builtin.unsafeString_ ⟨ts⟩ ty #[x',y']):=by
 unfold oE at h;split at h
 .rename_i pt it b n;obtain⟨c,e,wd,hg,h1⟩:=mo h;obtain⟨d,hd,h2⟩:=aF h1;split at h2
  .rename_i e';obtain⟨sz,iX,h3⟩:=aF h2;obtain⟨hc,h4⟩:=bq h3;obtain⟨l,hl,h5⟩:=aF h4;obtain⟨bs,hbs,h6⟩:=aF h5;have:=aJ h6;simp only[cw] at this;obtain⟨rfl,rfl⟩:=this;simp only[bI,pe,zZ] at hc;obtain⟨⟨⟨he,u6⟩,QS⟩,GW⟩:=hc;subst he u6;have hu:=dW hE hd;refine⟨(aH.aU s b).trans (aH.put _ b _ (by rw[gB,hg];simp)),λX A ρ w x' y' ty hp hx hy=>?_⟩;have hX:X b:=hp.cV b (fh _ b _);obtain⟨hA,c',aE,fr,r1,r2,r3,r4,r5,r6⟩:=hp.st.row hX hg;rw[hx.nR,hy.mD];obtain⟨h7,h8⟩:=kJ hl;have h9:=Db _ hbs;have cX:bs.length=n:=by
    have:=eC List.length h9;rw[h8,strCells_eq,uI,cO] at this;omega
   (have Ku:LR A ρ (strCells bs) (c'.take n):=by rw[<-h9,h8];exact r2.take n);have tg:c'.take n=strCells bs:=by rw[<-Ku.self,jS]
   have oc:=Lib.run_unsafeString_row (P:=P) w pt it ty e hu (by rw[oa hE iX]) (ρ b).1 (c'++aE).length (by simp[World.shape?,r1]) bs (by rintro rfl;simp at cX;omega) (by rw[bn];omega) af (λj u hu=>by
    rw[add_lit,mS,vI r1];(have hj:j<n:=by rw[<-cX];exact(sV.1 hu).1);rw[wB af];have:(c'.take n)[j]?=some (.int .u8 (u.toNat:Int)):=by rw[tg,strCells_eq];simp[hu]
    rw[ID,if_pos hj] at this;exact this)
   rw[cX] at oc;refine⟨_,_,ρ,oc,VR.str _,?_⟩;exact Good.drop (o:=.cells c e wd) hp.st hp.dI (λc=>by simp) ay (ix _ b _) hX hg (Fr.freeze w _ n)
  .cases h2
 .cases h
theorem K8 (bs:List UInt8):∀(cV:List UInt8),(bs.map λb=>(b.toNat:Int)).foldl (λ(r:ByteArray) n=>r.push (UInt8.ofNat n.toNat)) ⟨⟨cV⟩⟩=⟨⟨cV++bs⟩⟩:=by
 induction bs with
 |nil=>intro cV;simp
 |cons b bs ih=>
  intro cV;rw[xg,Ah];have:(⟨⟨cV⟩⟩:ByteArray).push (UInt8.ofNat ((b.toNat:Int)).toNat)=⟨⟨cV++[b]⟩⟩:=by
   apply ByteArray.ext;simp[ByteArray.push]
  rw[this,ih];simp
theorem VW (hE:cW E P){src dst:TypeId}(h:qX E s src dst x=some (v,s')):aH s s'/\∀X A ρ w x',pb P X A ρ s s' w->VR A ρ x x'->cJ P X A ρ s s' w v (convert src dst x'):=by
 obtain⟨ds,hs,h1⟩:=aF h;obtain⟨dd,hd,h2⟩:=aF h1;clear h h1;have SM:=dW hE hs;have hud:=dW hE hd;split at h2
 .rename_i k0 k k1 n;have:=aJ h2;simp only[cw] at this;obtain⟨rfl,rfl⟩:=this;refine⟨aH.refl _,λX A ρ w x' hp hx=>cJ.pure hp (v':=.int k (qf k n)) ?_ (VR.int _ _)⟩;rw[hx.mD,jR];unfold convert;simp only[Sem.run_bind,run_underlying SM,run_underlying hud,Result.andThen_ok];rfl
 .rename_i e a n c;obtain⟨d,Dc,h3⟩:=aF h2;obtain⟨hb,h4⟩:=bq h3;have hue:=dW hE Dc;have hd8:d= .int .u8:=by
   unfold isByte at hb;split at hb
   .rfl
   .cases hb
  subst hd8;have VX:∀w x',(∀s,x'≠ .string s)->(∀k n,x'≠ .int k n)->(convert src dst x').run P w=(Conv.bytesToString x').run P w:=by
   intro w x' q1 q2;unfold convert;simp only[Sem.run_bind,run_underlying SM,run_underlying hud,Result.andThen_ok];rw[run_underlying hue];rfl
  unfold Om at h4;split at h4
  .have:=aJ h4;simp only[cw] at this;obtain⟨rfl,rfl⟩:=this;refine⟨aH.refl _,λX A ρ w x' hp hx=>cJ.pure hp (v':=.string ⟨⟨[]⟩⟩) ?_ (VR.str _)⟩;rw[hx.je,VX w _ ay ay];rfl
  .rename_i b o;obtain⟨cs,e2,wd,hg,h5⟩:=mo h4;obtain⟨l,hl,h6⟩:=aF h5;obtain⟨bs,hbs,h7⟩:=aF h6;have:=aJ h7;simp only[cw] at this;obtain⟨rfl,rfl⟩:=this;refine⟨aH.aU s b,λX A ρ w x' hp hx=>?_⟩;obtain⟨hA,c',aE,fr,r1,r2,r3,r4,r5,r6⟩:=hp.st.row (hp.cV b (fQ s b)) hg;rw[hx.fR];rw[qi] at hl;obtain⟨h8,h9⟩:=kJ hl;rw[eP] at h8;have Fx:=Db _ hbs;have Ku:LR A ρ (strCells bs) ((c'.drop o).take n):=by rw[<-Fx,h9];exact(r2.drop o).take n
   have tg:(c'.drop o).take n=strCells bs:=by rw[<-Ku.self,jS]
   refine cJ.same hp ay ay (v':=.string ⟨⟨bs⟩⟩) ?_ (VR.str _);rw[VX w _ ay ay];have agS:(loadCells ⟨(ρ b).1,o,none⟩ n).run P w= .ok ((bs.map λb=>(b.toNat:Int)).map (Value.int .u8)).toArray w:=by
    rcases xh n with h0|h0
    .subst h0;have:bs=[]:=by
      have:=eC List.length tg;simp[strCells_eq] at this;exact mj this.symm
     subst this;rfl
    .rw[gU P r1 o n (by simp;omega)];rw[Oh af,yz (by simp;omega),tg,strCells_eq,List.map_map];rfl
   rw[run_bytesToString w _ n _ _ agS];have:=K8 bs [];rw[pF] at this;rw[<-this];rfl
  .rename_i b o q;obtain⟨h5,h6⟩:=bq h4;have hn:n=0:=nV h5;subst hn;have:=aJ h6;simp only[cw] at this;obtain⟨rfl,rfl⟩:=this;refine⟨aH.refl _,λX A ρ w x' hp hx=>cJ.pure hp (v':=.string ⟨⟨[]⟩⟩) ?_ (VR.str _)⟩;obtain⟨a',te⟩:=hx.ti;rw[te,VX w _ ay ay,run_bytesToString w _ 0 _ [] rfl];rfl
 .rename_i t b;obtain⟨c,e,wd,hg,h3⟩:=mo h2;obtain⟨sz,iX,h4⟩:=aF h3;obtain⟨hc,h5⟩:=bq h4;have:=aJ h5;simp only[cw] at this;obtain⟨rfl,rfl⟩:=this;simp only[bI,pe,c8,rU] at hc;obtain⟨⟨rfl,hl⟩,u6⟩:=hc;refine⟨aH.aU s b,λX A ρ w x' hp hx=>?_⟩;obtain⟨hA,c',aE,fr,r1,r2,r3,r4,r5,r6⟩:=hp.st.row (hp.cV b (fQ s b)) hg;obtain⟨i,Kv,tp⟩:=Cs hE iX;rw[hx.nR];refine cJ.same hp ay ay (Lib.run_to_unsafe w ⟨(ρ b).1,0,none⟩ SM hud Kv af (e:=e) (cells:=(c'++aE).length) (by simp[World.shape?,r1]) (by simp;omega)) (VR.ptr hA)
 .rename_i u b;obtain⟨c,e,wd,hg,h3⟩:=mo h2;obtain⟨sz,iX,h4⟩:=aF h3;obtain⟨hc,h5⟩:=bq h4;have:=aJ h5;simp only[cw] at this;obtain⟨rfl,rfl⟩:=this;simp only[bI,zZ,c8,rU] at hc;obtain⟨⟨⟨rfl,hl⟩,he⟩,hu⟩:=hc;subst he hu;refine⟨aH.aU s b,λX A ρ w x' hp hx=>?_⟩;obtain⟨hA,c',aE,fr,r1,r2,r3,r4,r5,r6⟩:=hp.st.row (hp.cV b (fQ s b)) hg;obtain⟨i,Kv,tp⟩:=Cs hE iX;rcases(r6 rfl).1 with⟨h7,_⟩|⟨h7,_⟩
  .subst h7;rw[hx.nR];refine cJ.same hp ay ay (Lib.run_from_unsafe w ⟨(ρ b).1,0,none⟩ SM hud Kv (e:=E.CZ) (cells:=2) (by simp[World.shape?,r1,r3,hl]) hE.CZ) (VR.ptr hA)
  .exact absurd h7 hE.agL
 .rename_i e z;obtain⟨d,Dc,h3⟩:=aF h2;obtain⟨hb,h4⟩:=bq h3;obtain⟨sz,iX,h5⟩:=aF h4;obtain⟨hc,h6⟩:=bq h5;have:=aJ h6;simp only[cw] at this;obtain⟨rfl,rfl⟩:=this;simp only[bI,zZ,pe,c8] at hc;obtain⟨rfl,hlz⟩:=hc;have hue:=dW hE Dc;have hd8:d= .int .u8:=by
   unfold isByte at hb;split at hb
   .rfl
   .cases hb
  subst hd8;refine⟨aH.jd s _,λX A ρ w x' hp hx=>?_⟩;rw[hx.uW];have acF:(⟨⟨z⟩⟩:ByteArray).size=z.length:=rfl;have hge:=grownCap_ge w z.length 0 e;have oc:(convert src dst (.string ⟨⟨z⟩⟩)).run P w= .ok (.slice (some ⟨w.heap.size,0,none⟩) z.length (grownCap w z.length 0 e)) ((w.drew.alloc (.cells ⟨strCells z++List.replicate (grownCap w z.length 0 e-z.length) (.int .u8 0)⟩ e)).freeze ⟨w.heap.size,grownCap w z.length 0 e,none⟩ 1):=by
   unfold convert;simp only[Sem.run_bind,run_underlying SM,run_underlying hud,Result.andThen_ok,run_underlying hue];have dP:(choose (.appendCap z.length 0 e)).run P w= .ok (grownCap w z.length 0 e) w.drew:=rfl;unfold Conv.stringToBytes;rw[acF];simp only[Sem.run_bind,dP,Result.andThen_ok,qo];have FU:((⟨⟨z⟩⟩:ByteArray).data.map λb=>Value.int .u8 (b.toNat:Int))++Array.replicate (grownCap w z.length 0 e-z.length) (Value.int .u8 0)=⟨strCells z++List.replicate (grownCap w z.length 0 e-z.length) (.int .u8 0)⟩:=by
    apply wC;simp[strCells_eq]
   rw[FU];have Ct:((w.drew.alloc (.cells ⟨strCells z++List.replicate (grownCap w z.length 0 e-z.length) (.int .u8 0)⟩ e)).shape? w.heap.size)=some (e,grownCap w z.length 0 e):=by
    unfold World.shape?;rw[show w.heap.size=w.drew.heap.size from rfl,heap_alloc_new];simp only[rG,cw,FF];show(strCells z++List.replicate (grownCap w z.length 0 e-z.length) (Value.int .u8 0)).length=_;rw[bn,sX,strCells_eq,uI];omega
   unfold markStringish;have e1:w.drew.heap.size=w.heap.size:=rfl;simp only[Sem.run_bind,shape,freeze,Sem.run,e1,Ct,Result.andThen_ok,Sem.run_pure]
  refine⟨_,_,ρ.at s.next (w.heap.size,grownCap w z.length 0 e),oc,?_,?_⟩
  .have:=VR.slice (A:=dg A s.next (s.new (.cells (strCells z) e false)).next) (ρ:=ρ.at s.next (w.heap.size,grownCap w z.length 0 e)) (b:=s.next) (o:=0) (l:=z.length) (c:=dS) (.inr ⟨cC _,ay⟩);simpa[de,bJ] using this
  .refine Good.alloc (o:=.cells (strCells z) e false) (x:=.cells ⟨strCells z++List.replicate (grownCap w z.length 0 e-z.length) (.int .u8 0)⟩ e (grownCap w z.length 0 e,grownCap w z.length 0 e+1)) hp.st hp.dI hp.lt (λc=>by simp) ay (j9 s _) (cC _) ?_ ?_ ?_
   .unfold World.freeze;rw[if_neg bT];simp only[Ol];rw[if_pos trivial,show w.heap.size=w.drew.heap.size from rfl,heap_alloc_new];rfl
   .refine⟨strCells z,_,_,rfl,λeb _=>jS z eb,(λh=>by cases h),λ_=>⟨.inr ⟨hue,oa hE iX,?_⟩,by rw[strCells_eq,uI];exact hge⟩⟩
    .rw[strCells_eq,uI,sX];simp;omega
   .refine⟨rfl,rfl,rfl,?_,λr hr _=>?_⟩
    .unfold World.freeze;rw[if_neg bT];simp
    .unfold World.freeze;rw[if_neg bT];simp only[Ol];rw[if_neg af];exact(Fr.GP w _).block r hr (λh=>h)
 .rename_i e0 e b o n c;obtain⟨d,Dc,h3⟩:=aF h2;obtain⟨hb,h4⟩:=bq h3;obtain⟨cs,e',wd,hg,h5⟩:=mo h4;obtain⟨sz,iX,h6⟩:=aF h5;obtain⟨d',akn,h7⟩:=aF h6;obtain⟨hc,h8⟩:=bq h7;have:=aJ h8;simp only[cw] at this;obtain⟨rfl,rfl⟩:=this;simp only[bI,zZ] at hb hc;obtain⟨hb,rfl⟩:=hb;obtain⟨lO,rfl⟩:=hc;have he0:e0=e:=by rw[hs] at hd;cases hd;rfl
  subst he0;have h8:∀{d:TypeDesc},isByte d=true->d= .int .u8:=λhb=>by
   unfold isByte at hb;split at hb
   .rfl
   .cases hb
  have hd8:=h8 hb;subst hd8;have ako:=h8 lO;subst ako;have hue:=dW hE Dc;have akp:=dW hE akn;refine⟨(aH.aU s b).trans (aH.put _ b _ (by rw[gB,hg];simp)),λX A ρ w x' hp hx=>?_⟩;have hX:X b:=hp.cV b (fh _ b _);obtain⟨hA,c',aE,fr,r1,r2,r3,r4,r5,r6⟩:=hp.st.row hX hg;rw[hx.fR];have qk:P.cellsOf e'=1:=oa hE iX;have cX:(⟨c'++aE⟩:Array Value).size=cs.length+aE.length:=by show(c'++aE).length=_;rw[bn,r3]
  have oc:(convert src src (.slice (some ⟨(ρ b).1,o,none⟩) n (de (ρ b) c))).run P w= .ok (.slice (some ⟨(ρ b).1,o,none⟩) n (de (ρ b) c)) (w.freeze ⟨(ρ b).1,cs.length+aE.length,none⟩ 1):=by
   unfold convert;simp only[Sem.run_bind,run_underlying SM,run_underlying hud,Result.andThen_ok,run_underlying hue];have Ct:w.shape? (ρ b).1=some (e',cs.length+aE.length):=by
    unfold World.shape?;rw[r1];simp only[rG,cw,FF];exact cX
   (have heq:(src== src)=true:=by simp);rw[heq];simp only[run_underlying hue,Result.andThen_ok];unfold markStringish;simp only[Sem.run_bind,shape,freeze,Sem.run,Ct,Result.andThen_ok,Sem.run_pure]
  have hfz:∃fr2:Nat×Nat,(w.freeze ⟨(ρ b).1,cs.length+aE.length,none⟩ 1).heap[(ρ b).1]?=some (.cells ⟨c'++aE⟩ e' fr2)/\cs.length+aE.length<=fr2.1:=by
   unfold World.freeze;rw[if_neg bT];simp only[Ol];rw[if_pos trivial,r1];obtain⟨lo,hi⟩:=fr;refine⟨_,rfl,?_⟩;split
   .exact cC _
   .rename_i gh;rcases r4 with h|h
    .cases h;exact absurd gh ay
    .rw[bn,r3] at h;simp only;simp only at h;omega
  obtain⟨fr2,hf1,hf2⟩:=hfz;refine⟨_,_,ρ,oc,?_,?_⟩
  .exact VR.slice (.inl hA)
  .refine Good.bh (o:=.cells cs e' wd) (o':=.cells cs e' false) hp.st hp.dI hX hg (λc=>by simp) ay (ix _ b _) hf1 ?_ ?_
   .exact⟨c',aE,fr2,rfl,r2,(λh=>by cases h),λ_=>⟨.inr ⟨akp,qk,hf2⟩,by
     cases wd with
     |false=>exact(r6 rfl).2
     |true=>
      have h8:=(r5 rfl).2.1;rw[qk,uz] at h8;omega⟩⟩
   .refine⟨rfl,rfl,rfl,?_,λr hr h2=>?_⟩
    .unfold World.freeze;rw[if_neg bT];simp
    .unfold World.freeze;rw[if_neg bT];simp only[Ol];rw[if_neg (λh=>h2 h.symm)]
 .cases h2
theorem OE (t:TypeId):∀X A ρ w,pb P X A ρ s (s.new (.map [])) w->cJ P X A ρ s (s.new (.map [])) w (.map (some s.next)) (Instr.makeMap t none):=by
 intro X A ρ w hp;refine⟨.map (some w.heap.size),w.alloc (.map #[] 0),ρ.at s.next (w.heap.size,0),rfl,?_,?_⟩
 .have:=VR.ake (A:=dg A s.next (s.new (.map [])).next) (ρ:=ρ.at s.next (w.heap.size,0)) (b:=s.next) (.inr ⟨cC _,ay⟩);simpa using this
 .refine Good.alloc (o:=.map []) (x:=.map #[] 0) hp.st hp.dI hp.lt (λc=>by simp) ay (j9 s _) (cC _) (heap_alloc_new w _) ?_ (Fr.alloc w _);exact⟨[],0,rfl,LR.nil,LR.nil⟩
theorem VR.GY {b:Nat}(h:VR A ρ (.map (some b)) v'):v'= .map (some (ρ b).1):=by rw[<-h.self,GL]
theorem bytes_beq (a b:List UInt8):((⟨⟨a⟩⟩:ByteArray)== (⟨⟨b⟩⟩:ByteArray))=(a== b):=by have h:((⟨⟨a⟩⟩:ByteArray)== (⟨⟨b⟩⟩:ByteArray))=((⟨a⟩:Array UInt8)== (⟨b⟩:Array UInt8)):=rfl;rw[h,pd];simp
theorem tq (k:Value)(p:Value×Value)(l:List (Value×Value)):nQ k (p::l)=ob (jQ k p.1) λb=>bo b (some (some p.2)) (nQ k l):=rfl
theorem vN (k:Value)(p:Value×Value)(l:List (Value×Value)):Sy k (p::l)=ob (jQ k p.1) λb=>bo b (some l) (ob (Sy k l) λr=>some (p::r)):=rfl
theorem GZ (k v:Value)(p:Value×Value)(l:List (Value×Value)):On k v (p::l)=ob (jQ k p.1) λb=>bo b (some ((k,v)::l)) (ob (On k v l) λr=>some (p::r)):=rfl
theorem yS {k k':Value}{b:Bool}(h:jQ k k'=some b)(ρ:ig):bX ρ k'=k':=by
 unfold jQ at h;split at h
 .have:=(uY _ _ _ h).2 ρ;simp[this]
 .simp
 .simp
 .cases h
theorem K9 {x y:Value}(h:lP x y=some true):x=y:=by
 unfold lP at h;split at h
 .rw[jB] at h;simp at h;rw[h]
 .rw[eQ] at h;simp at h;rw[h]
 .rename_i a b;cases a<;>cases b<;>first|rfl|cases h
 .cases h
theorem I0 (xs:aY):∀(ys:aY),fP xs ys=some true->xs=ys:=by
 induction xs with
 |nil=>intro ys h;cases ys with
  |nil=>rfl
  |cons y ys=>cases h
 |cons x xs ih=>
  intro ys h;cases ys with
  |nil=>cases h
  |cons y ys=>
   rw[lu] at h;obtain⟨e,he,h1⟩:=aF h;obtain⟨r,h2,h3⟩:=aF h1;have h4:=iU h3;cases e with
   |false=>cases h4
   |true=>
    rw[gA] at h4;subst h4;rw[K9 he,ih _ h2]
theorem Dd {k k':Value}(h:jQ k k'=some true):k'=k:=by
 unfold jQ at h;split at h
 .rw[I0 _ _ h]
 .obtain⟨h1,h2⟩:=bq h;have:=vK h1;subst this;rw[jB] at h2;simp at h2;rw[h2]
 .rw[eQ] at h;simp at h;rw[h]
 .cases h
theorem tt {kt:TypeId}{d:TypeDesc}{k:Value}(h:xm E kt d k=true):((∃j,d= .int j)/\(∃j n,k= .int j n))\/(d= .string/\∃z,k= .string ⟨⟨z⟩⟩)\/(((∃fs,d= .struct fs)\/∃n e,d= .array n e)/\∃cs,k= .agg ⟨cs⟩/\yG kt cs E.eqs=true):=by
 unfold xm at h;split at h
 .exact .inr (.inr ⟨.inl ⟨_,rfl⟩,_,rfl,h⟩)
 .exact .inr (.inr ⟨.inr ⟨_,_,rfl⟩,_,rfl,h⟩)
 .exact .inl ⟨⟨_,rfl⟩,_,_,rfl⟩
 .rename_i s;obtain⟨⟨z⟩⟩:=s;exact .inr (.inl ⟨rfl,z,rfl⟩)
 .cases h
theorem ra {kt:TypeId}{d:TypeDesc}{k:Value}(h:xm E kt d k=true):(∀ρ,bX ρ k=k):=by
 intro ρ;rcases tt h with⟨_,j,n,rfl⟩|⟨_,z,rfl⟩|⟨_,cs,rfl,hq⟩
 .simp
 .simp
 .simp[K3 hq ρ]
theorem SN {kt:TypeId}{k k':Value}{b:Bool}{d:TypeDesc}(h:jQ k k'=some b)(hd:(∃j,d= .int j)/\(∃j n,k= .int j n)\/(d= .string/\∃z,k= .string ⟨⟨z⟩⟩)):Instr.sameNow d k k'=some b:=by
 rcases hd with⟨⟨j0,rfl⟩,j,n,rfl⟩|⟨rfl,z,rfl⟩
 .unfold jQ at h;split at h
  .simp_all
  .rename_i j1 a j' a' e1;obtain⟨h1,h2⟩:=bq h;have:=vK h1;subst this;have:=iU h2;subst this;cases e1
   simp[Instr.sameNow,jB]
  .simp_all
  .cases h
 .unfold jQ at h;split at h
  .simp_all
  .simp_all
  .rename_i a b' e1;have:=iU h;subst this;cases e1
   simp[Instr.sameNow,eQ,bytes_beq]
  .cases h
def sh (A:Nat->Prop)(ρ:ig)(k:Value)(es:List (Value×Value))(xs:List MapEntry)(i:Nat)(r:Option Value)(r':Option (Nat×Value)):Prop:=match r with
 |none=>r'=none/\Sy k es=some es
 |some v=>∃j v',r'=some (i+j,v')/\VR A ρ v v'/\(xs[j]?).map (·.key)=some k/\Sy k es=some (es.eraseIdx j)/\∀u,On k u es=some (es.set j (k,u))
theorem sh.step {k:Value}{p:Value×Value}{x:MapEntry}{es:List (Value×Value)}{xs:List MapEntry}{i:Nat}{r:Option Value}{r':Option (Nat×Value)}(hb:jQ k p.1=some false)(h:sh A ρ k es xs (i+1) r r'):sh A ρ k (p::es) (x::xs) i r r':=by
 cases r with
 |none=>
  obtain⟨h1,h2⟩:=h;refine⟨h1,?_⟩;rw[vN,hb,h2];rfl
 |some v=>
  obtain⟨j,v',h1,h2,h3,h4,h5⟩:=h;refine⟨j+1,v',by rw[h1];congr 2;omega,h2,by simpa using h3,?_,λu=>?_⟩
  .rw[vN,hb,h4];rfl
  .rw[GZ,hb,h5];rfl
theorem sh.here {k:Value}{p:Value×Value}{x:MapEntry}{es:List (Value×Value)}{xs:List MapEntry}{i:Nat}{v':Value}(hb:jQ k p.1=some true)(hx:x.key=k)(h:VR A ρ p.2 v'):sh A ρ k (p::es) (x::xs) i (some p.2) (some (i,v')):=by
 refine⟨0,v',rfl,h,by simp[hx],?_,λu=>?_⟩
 .rw[vN,hb];rfl
 .rw[GZ,hb];rfl
theorem LR.split {es:List (Value×Value)}{p:Value×Value}{xs:List MapEntry}(h1:LR A ρ ((p::es).map (·.1)) (xs.map (·.key)))(h2:LR A ρ ((p::es).map (·.2)) (xs.map (·.val))):∃x xs',xs=x::xs'/\VR A ρ p.1 x.key/\VR A ρ p.2 x.val/\LR A ρ (es.map (·.1)) (xs'.map (·.key))/\LR A ρ (es.map (·.2)) (xs'.map (·.val)):=by
 cases xs with
 |nil=>have:=h1.length;simp at this
 |cons x xs=>
  simp only[xg] at h1 h2;obtain⟨u,us,e1,hu,SM⟩:=h1.iM;simp only[List.cons.injEq] at e1;obtain⟨rfl,rfl⟩:=e1;obtain⟨u2,us2,e2,VY,VZ⟩:=h2.iM;simp only[List.cons.injEq] at e2;obtain⟨rfl,rfl⟩:=e2;exact⟨x,xs,rfl,hu,VY,SM,VZ⟩
theorem De {k:Value}{d:TypeDesc}(hd:(∃j,d= .int j)/\(∃j n,k= .int j n)\/(d= .string/\∃z,k= .string ⟨⟨z⟩⟩)):∀(es:List (Value×Value))(xs:List MapEntry)(i:Nat){r:Option Value},nQ k es=some r->LR A ρ (es.map (·.1)) (xs.map (·.key))->LR A ρ (es.map (·.2)) (xs.map (·.val))->
  ∃r',Instr.findNow d k xs i=some r'/\sh A ρ k es xs i r r'
 |[],xs,i,r,h,h1,h2=>by
  have:=iU h;subst this;cases xs with
  |nil=>exact⟨none,rfl,rfl,rfl⟩
  |cons x xs=>have:=h1.length;simp at this
 |p::es,xs,i,r,h,h1,h2=>by
  refine' za5
  have hs:=SN (kt:=0) hb hd;unfold Instr.findNow;rw[hk,hs];cases b with
  |true=>
   rw[gA] at h3;have:=iU h3;subst this;exact⟨_,rfl,sh.here hb (by rw[hk,Dd hb]) VY⟩
  |false=>
   rw[eG] at h3;obtain⟨r',h4,h5⟩:=De hd es xs (i+1) h3 SM VZ;exact⟨r',h4,sh.step hb h5⟩
theorem wV (hE:cW E P){kt:TypeId}{cs:aY}(hq:yG kt cs E.eqs=true):∀(es:List (Value×Value))(xs:List MapEntry)(i:Nat){r:Option Value},nQ (.agg ⟨cs⟩) es=some r->LR A ρ (es.map (·.1)) (xs.map (·.key))->LR A ρ (es.map (·.2)) (xs.map (·.val))->
  ∃r',(∀w,(Instr.findAsking kt (.agg ⟨cs⟩) xs i).run P w= .ok r' w)/\sh A ρ (.agg ⟨cs⟩) es xs i r r'
 |[],xs,i,r,h,h1,h2=>by
  have:=iU h;subst this;cases xs with
  |nil=>exact⟨none,λw=>rfl,rfl,rfl⟩
  |cons x xs=>have:=h1.length;simp at this
 |p::es,xs,i,r,h,h1,h2=>by
  refine' za5
  obtain⟨ys,hy⟩:∃ys,p.1= .agg ⟨ys⟩:=by
   revert hb
   cases p.1<;>intro hb<;>first|cases hb|(rename_i q;exact⟨q.toList,rfl⟩)
  have Z4:fP cs ys=some b:=by rw[hy] at hb;exact hb
  have hs:∀w,(Op.equal kt (.agg ⟨cs⟩) x.key).run P w= .ok b w:=λw=>by rw[hk,hy];exact(hE.eqs kt cs hq ys b Z4 w).1
  cases b with
  |true=>
   rw[gA] at h3;have:=iU h3;subst this;refine⟨some (i,x.val),λw=>?_,sh.here hb (by rw[hk,Dd hb]) VY⟩;unfold Instr.findAsking;simp only[Sem.run_bind,hs,Result.andThen_ok,if_true,Sem.run_pure]
  |false=>
   rw[eG] at h3;obtain⟨r',h4,h5⟩:=wV hE hq es xs (i+1) h3 SM VZ;refine⟨r',λw=>?_,sh.step hb h5⟩;unfold Instr.findAsking;simp only[Sem.run_bind,hs,Result.andThen_ok,jN,pQ,h4]
theorem tu (hE:cW E P){kt:TypeId}{d:TypeDesc}{k:Value}(hu:P.underlying kt=some d)(hk:xm E kt d k=true){es:List (Value×Value)}{xs:List MapEntry}{r:Option Value}(h:nQ k es=some r)(h1:LR A ρ (es.map (·.1)) (xs.map (·.key)))(h2:LR A ρ (es.map (·.2)) (xs.map (·.val))):
  ∃r',(∀w,(Instr.findKey kt k xs).run P w= .ok r' w)/\sh A ρ k es xs 0 r r':=by
 have go:((∃j,d= .int j)/\(∃j n,k= .int j n)\/(d= .string/\∃z,k= .string ⟨⟨z⟩⟩))->∃r',(∀w,(Instr.findKey kt k xs).run P w= .ok r' w)/\sh A ρ k es xs 0 r r':=λhd=>by
  obtain⟨r',h3,h4⟩:=De hd es xs 0 h h1 h2;refine⟨r',λw=>?_,h4⟩;unfold Instr.findKey;simp only[Sem.run_bind,run_underlying hu,Result.andThen_ok,h3,Sem.run_pure]
 rcases tt hk with hd|hd|⟨hd,cs,rfl,hq⟩
 .exact go (.inl hd)
 .exact go (.inr hd)
 .obtain⟨r',h3,h4⟩:=wV hE hq es xs 0 h h1 h2;refine⟨r',λw=>?_,h4⟩;unfold Instr.findKey;simp only[Sem.run_bind,run_underlying hu,Result.andThen_ok];cases xs with
  |nil=>
   have:=h3 w;unfold Instr.findNow;simpa[Instr.findAsking] using this
  |cons x xs=>
   have:Instr.findNow d (.agg ⟨cs⟩) (x::xs) 0=none:=by
    unfold Instr.findNow;rcases hd with⟨fs,rfl⟩|⟨n,e,rfl⟩<;>rfl
   rw[this];exact h3 w
theorem run_checkKey (hE:cW E P)(b:Bool){t:TypeId}{d:TypeDesc}{k:Value}(hu:P.underlying t=some d)(hk:xm E t d k=true)(w:World):(Instr.checkKey b 10000 t k).run P w= .ok () w:=by
 rcases tt hk with⟨⟨j0,rfl⟩,j,n,rfl⟩|⟨rfl,z,rfl⟩|⟨hd,cs,rfl,hq⟩
 .show(Instr.checkKey b (9999+1) t _).run P w=_;unfold Instr.checkKey;simp only[Sem.run_bind,run_underlying hu,Result.andThen_ok];rfl
 .show(Instr.checkKey b (9999+1) t _).run P w=_;unfold Instr.checkKey;simp only[Sem.run_bind,run_underlying hu,Result.andThen_ok];rfl
 .exact hE.keys t cs hq b w
theorem Df:∀(xs:aY)(ks:List Nat),eV xs ks=true->∀n,(xs.zip xs).all (λ(x,y)=>Instr.sameBits n x y)=true
 |[],_,_,n=>rfl
 |v::xs,[],h,n=>by cases h
 |v::xs,k::ks,h,n=>by
  obtain⟨h1,h2,h3⟩:=ng h;have ih:=Df xs ks h3 n;have hk:k=0\/k=1\/k=2:=by omega
  have:Instr.sameBits n v v=true:=by
   rcases hk with h|h|h
   .obtain⟨m,rfl⟩:=Ap (h1.trans h);simp[Instr.sameBits]
   .obtain⟨m,rfl⟩:=Aq (h1.trans h);simp[Instr.sameBits,bytes_beq]
   .obtain⟨m,rfl⟩:=xx (h1.trans h);simp[Instr.sameBits]
  simpa[this] using ih
theorem I1 {kt:TypeId}{d:TypeDesc}{k:Value}(hk:xm E kt d k=true)(w:World):(Instr.keyThatStays k k).run P w= .ok k w:=by
 have h:Instr.sameBits 10000 k k=true:=by
  rcases tt hk with⟨_,j,n,rfl⟩|⟨_,z,rfl⟩|⟨_,cs,rfl,hq⟩
  .simp[Instr.sameBits]
  .simp[Instr.sameBits,bytes_beq]
  .obtain⟨ks,_,h2⟩:=u0 kt cs _ hq;have:=Df cs ks h2 9999;show Instr.sameBits (9999+1) (.agg ⟨cs⟩) (.agg ⟨cs⟩)=true;unfold Instr.sameBits;simp only[beq_self_eq_true,uN];exact this
 unfold Instr.keyThatStays;simp only[h,if_true,Sem.run_pure]
theorem si {o:gv}{es:List (Value×Value)}(h:mapOf o=some es):o= .map es:=by
 cases o with
 |cells c e w=>cases h
 |map es'=>have:=iU h;subst this;rfl
 |lL z p=>cases h
 |um m=>cases h
 |nW ws=>cases h
theorem OF (hE:cW E P){t:TypeId}{ok:Bool}(h:s7 E s t x y ok=some (v,s')):aH s s'/\∀X A ρ w x' y',pb P X A ρ s s' w->VR A ρ x x'->VR A ρ y y'->cJ P X A ρ s s' w v (Instr.lookup t x' y' ok):=by
 obtain⟨d,hd,h1⟩:=aF h;clear h;split at h1
 .rename_i kt e b;obtain⟨kd,V0,h2⟩:=aF h1;obtain⟨La,h3⟩:=bq h2;obtain⟨z,hz,h4⟩:=aF h3;obtain⟨o,ho,h5⟩:=aF h4;obtain⟨es,tw,h6⟩:=aF h5;obtain⟨r,hr,h7⟩:=aF h6;have:=si tw;subst this;have hu:=dW hE hd;have Ve:=dW hE V0;have hs':s'=s.aU b:=by
   split at h7
   .have:=aJ h7;simp only[cw] at this;exact this.2.symm▸rfl
   .have:=aJ h7;simp only[cw] at this;exact this.2.symm▸rfl
  refine⟨by rw[hs'];exact aH.aU s b,λX A ρ w x' y' hp hx hy=>?_⟩;obtain⟨hA,xo,Fz,xs,ck,rfl,lQ,ur⟩:=hp.st.kK b _ (hp.cV b (by rw[hs'];exact fQ s b)) ho;have xy:y'=y:=by rw[<-hy.self,ra La]
  subst xy;rw[hx.GY];obtain⟨r',akq,mG⟩:=tu hE Ve La hr lQ ur;have fg:(getObj (ρ b).1).run P w= .ok (.map ⟨xs⟩ ck) w:=by
   simp[getObj,Sem.run,Fz]
  have hfk:(Instr.findKey kt y' (⟨xs⟩:Array MapEntry).toList).run P w= .ok r' w:=akq w;split at h7
  .rename_i u;obtain⟨j,v2,rfl,OG,_⟩:=mG;have:=aJ h7;simp only[cw] at this;obtain⟨rfl,rfl⟩:=this;refine cJ.same hp ay ay (v':=if ok then .tuple #[v2,.bool true] else v2) ?_ ?_
   .unfold Instr.lookup;simp only[Sem.run_bind,run_underlying hu,Result.andThen_ok,fg,Sem.run_pure,run_checkKey hE _ Ve La,hfk]
   .cases ok with
    |true=>exact VR.tuple (LR.cons OG (LR.cons (VR.bool _) LR.nil))
    |false=>exact OG
  .obtain⟨mG,_⟩:=mG;subst mG;have:=aJ h7;simp only[cw] at this;obtain⟨rfl,rfl⟩:=this;refine cJ.same hp ay ay (v':=if ok then .tuple #[z,.bool false] else z) ?_ ?_
   .unfold Instr.lookup;simp only[Sem.run_bind,run_underlying hu,Result.andThen_ok,fg,Sem.run_pure,run_checkKey hE _ Ve La,hfk,j8 hE hz]
   .have hzz:VR A ρ z z:=VR.ground (mE hE hz);cases ok with
    |true=>exact VR.tuple (LR.cons hzz (LR.cons (VR.bool _) LR.nil))
    |false=>exact hzz
 .cases h1
theorem LR.setAt {l l':aY}(h:LR A ρ l l')(hv:VR A ρ v v')(j:Nat):LR A ρ (l.set j v) (l'.set j v'):=λeb e=>by
 rw[List.map_set,h eb e,hv eb e]
theorem mH {α β:Type}(f:α->β):∀(l:List α)(j:Nat),(l.eraseIdx j).map f=(l.map f).eraseIdx j
 |[],j=>by simp
 |x::l,0=>by simp
 |x::l,j+1=>by simp[mH f l j]
theorem modify_eq_set {α:Type}(f:α->α):∀(l:List α)(j:Nat)(x:α),l[j]?=some x->l.modify j f=l.set j (f x)
 |[],j,x,h=>by simp at h
 |y::l,0,x,h=>by simp at h;subst h;simp
 |y::l,j+1,x,h=>by simp at h;simp[modify_eq_set f l j x h]
theorem LR.QT {l l':aY}(h:LR A ρ l l')(j:Nat):LR A ρ (l.eraseIdx j) (l'.eraseIdx j):=λeb e=>by
 rw[mH,h eb e]
theorem Good.yT {b:Nat}{o o':gv}{x x':Obj}(hp:pb P X A ρ s (s.put b (some o')) w)(ho:s.heap.get b=some o)(hx:w.heap[(ρ b).1]?=some x)(hnc:∀c e f,x≠ .cells c e f)(hr:FI P A ρ (ρ b) o' x'):
  (setObj (ρ b).1 x').run P w= .ok () {w with heap:=w.heap.setIfInBounds (ρ b).1 x'}/\Good P X A ρ s (s.put b (some o')) w {w with heap:=w.heap.setIfInBounds (ρ b).1 x'} ρ:=by
 refine⟨by cases x<;>first|(exact absurd rfl (hnc _ _ _))|(simp[setObj,Sem.run,hx]),?_⟩;have dz:=(uK.1 hx).1;refine Good.bh (o:=o) (o':=o') (x':=x') hp.st hp.dI (hp.cV b (fh s b _)) ho (λc=>by simp) ay (ix s b _) ?_ hr ?_
 .simp[dz]
 .refine⟨rfl,rfl,rfl,ay,λr hr gh=>?_⟩;simp only[adV];rw[if_neg (λe=>gh e.symm)]
theorem FV (hE:cW E P){t:TypeId}{u:Value}(h:s8 E s t x y u=some (v,s')):aH s s'/\v= .tuple ⟨[]⟩/\∀X A ρ w x' y' u',pb P X A ρ s s' w->VR A ρ x x'->VR A ρ y y'->VR A ρ u u'->∃w' eb,(Instr.mapUpdate t x' y' u').run P w= .ok () w'/\Good P X A ρ s s' w w' eb:=by
 obtain⟨d,hd,h1⟩:=aF h;clear h;split at h1
 .rename_i kt e b;obtain⟨kd,V0,h2⟩:=aF h1;obtain⟨La,h3⟩:=bq h2;obtain⟨o,ho,h5⟩:=aF h3;obtain⟨es,tw,h6⟩:=aF h5;obtain⟨r,hr,h7⟩:=aF h6;have:=si tw;subst this;have hu:=dW hE hd;have Ve:=dW hE V0;have wW:s.heap.get b≠none:=by rw[show s.heap.get b=some (.map es) from ho];simp
  split at h7
  .obtain⟨wX,he2,h8⟩:=aF h7;have:=aJ h8;simp only[cw] at this;obtain⟨rfl,rfl⟩:=this;refine⟨aH.put s b _ wW,rfl,λX A ρ w x' y' u' hp hx hy K5=>?_⟩;obtain⟨hA,xo,Fz,xs,ck,rfl,lQ,ur⟩:=hp.st.kK b _ (hp.cV b (fh s b _)) ho;have xy:y'=y:=by rw[<-hy.self,ra La]
   subst xy;rw[hx.GY];obtain⟨r',hfk,j,v2,rfl,OG,ad6,aav,oN⟩:=tu hE Ve La hr lQ ur;have akr:wX=es.set j (y',u):=iU (he2.symm.trans (oN u));subst akr;have fg:(getObj (ρ b).1).run P w= .ok (.map ⟨xs⟩ ck) w:=by
    simp[getObj,Sem.run,Fz]
   obtain⟨x0,vO,SO⟩:=Option.map_eq_some_iff.1 ad6;have Z8:=(sV.1 vO).1;obtain⟨dD,rb⟩:=Good.yT (x':=.map ⟨xs.set j {x0 with key:=y',val:=u'}⟩ ck) hp ho Fz ay (by
    refine⟨xs.set j {x0 with key:=y',val:=u'},ck,rfl,?_,?_⟩
    .rw[List.map_set,List.map_set];exact lQ.setAt hy j
    .rw[List.map_set,List.map_set];exact ur.setAt K5 j)
   refine⟨_,ρ,?_,rb⟩;unfold Instr.mapUpdate;have aks:(⟨xs⟩:Array MapEntry).modify (0+j) (λe=>{e with key:=y',val:=u'})=⟨xs.set j {x0 with key:=y',val:=u'}⟩:=by
    apply wC;rw[Array.toList_modify,mS];simp only;rw[modify_eq_set _ _ _ _ vO]
   have hold:(((⟨xs⟩:Array MapEntry)[0+j]?).map (·.key)).getD y'=y':=by
    rw[mS];simp only[KG,ad6,qd]
   simp only[Sem.run_bind,run_underlying hu,Result.andThen_ok,fg,run_checkKey hE _ Ve La,hfk,hold,I1 La,aks,dD]
  .have:=aJ h7;simp only[cw] at this;obtain⟨rfl,rfl⟩:=this;refine⟨aH.put s b _ wW,rfl,λX A ρ w x' y' u' hp hx hy K5=>?_⟩;obtain⟨hA,xo,Fz,xs,ck,rfl,lQ,ur⟩:=hp.st.kK b _ (hp.cV b (fh s b _)) ho;have xy:y'=y:=by rw[<-hy.self,ra La]
   subst xy;rw[hx.GY];obtain⟨r',hfk,mG,_⟩:=tu hE Ve La hr lQ ur;subst mG;have fg:(getObj (ρ b).1).run P w= .ok (.map ⟨xs⟩ ck) w:=by
    simp[getObj,Sem.run,Fz]
   obtain⟨dD,rb⟩:=Good.yT (x':=.map ((⟨xs⟩:Array MapEntry).push {key:=y',val:=u',born:=ck}) (ck+1)) hp ho Fz ay (by
    refine⟨xs++[{key:=y',val:=u',born:=ck}],ck+1,ay,?_,?_⟩
    .rw[Qw,Qw];exact lQ.append (LR.cons hy LR.nil)
    .rw[Qw,Qw];exact ur.append (LR.cons K5 LR.nil))
   refine⟨_,ρ,?_,rb⟩;unfold Instr.mapUpdate;simp only[Sem.run_bind,run_underlying hu,Result.andThen_ok,fg,run_checkKey hE _ Ve La,hfk,dD]
 .cases h1
theorem aaw (h:aai x y s=some (v,s')):s'=s/\∀A ρ x' y' ts ty,VR A ρ x x'->VR A ρ y y'->∃v',(∀w,(Builtin.min_ ts ty #[x',y']).run P w= .ok v' w)/\VR A ρ v v':=by
 unfold aai at h;split at h
 .rename_i k a k' b;obtain⟨hk,h2⟩:=bq h;have:=aJ h2;simp only[cw] at this;obtain⟨rfl,rfl⟩:=this;refine⟨rfl,λA ρ x' y' ts ty hx hy=>⟨_,λw=>?_,VR.int _ _⟩⟩;rw[hx.mD,hy.mD];simp only[Builtin.min_,List.foldlM,Builtin.min2];simp[dJ,rJ]
 .cases h
theorem aax (hE:cW E P){t ty:TypeId}(h:agF E t x s=some (v,s')):s'=s/\∀A ρ x' ts,VR A ρ x x'->ts[0]?=some t->∃v',(∀w,(Builtin.cap_ ts ty #[x']).run P w= .ok v' w)/\VR A ρ v v':=by
 obtain⟨d,hd,h1⟩:=aF h;clear h;split at h1
 .rename_i e a n c;obtain⟨hc,h2⟩:=bq h1;have tg:c<dS:=mR hc;have:=aJ h2;simp only[cw] at this;obtain⟨rfl,rfl⟩:=this;refine⟨rfl,λA ρ x' ts hx hts=>⟨.int .i64 (.ofNat c),λw=>?_,VR.int _ _⟩⟩;have te:∃a',x'= .slice a' n c:=by
   cases a with
   |none=>exact⟨none,hx.je⟩
   |some a=>obtain⟨a',te⟩:=hx.ti;exact⟨some a',by rw[te,fE tg]⟩
  obtain⟨a',rfl⟩:=te;simp[Builtin.cap_,hts,run_underlying (dW hE hd),goInt]
 .cases h1
theorem OH (hE:cW E P){t ty:TypeId}{b:Nat}(h:Cn E s t b=some (v,s')):aH s s'/\∀X A ρ w x' ts,pb P X A ρ s s' w->VR A ρ (.map (some b)) x'->ts[0]?=some t->cJ P X A ρ s s' w v (Builtin.len_ ts ty #[x']):=by
 obtain⟨d,hd,h1⟩:=aF h;clear h;split at h1
 .obtain⟨o,ho,h2⟩:=aF h1;obtain⟨es,tw,h3⟩:=aF h2;have:=si tw;subst this;have:=aJ h3;simp only[cw] at this;obtain⟨rfl,rfl⟩:=this;refine⟨aH.aU s b,λX A ρ w x' ts hp hx hts=>?_⟩;obtain⟨hA,xo,Fz,xs,ck,rfl,lQ,ur⟩:=hp.st.kK b _ (hp.cV b (fQ s b)) ho;have cX:xs.length=es.length:=by have:=lQ.length;simp at this;omega
  refine cJ.same hp ay ay (v':=.int .i64 (.ofNat es.length)) ?_ (by rw[c8];exact VR.int _ _);rw[hx.GY];have fg:(getObj (ρ b).1).run P w= .ok (.map ⟨xs⟩ ck) w:=by
   simp[getObj,Sem.run,Fz]
  simp[Builtin.len_,hts,run_underlying (dW hE hd),fg,goInt,cX]
 .cases h1
theorem B5 {α:Type}(l:List α)(j:Nat):(⟨l⟩:Array α).eraseIdxIfInBounds j=⟨l.eraseIdx j⟩:=by
 unfold Array.eraseIdxIfInBounds;split
 .apply wC;simp
 .rename_i h;rw[List.eraseIdx_of_length_le (by simpa using h)]
theorem OI (hE:cW E P){ts:List TypeId}(h:QE E s ts x y=some (v,s')):aH s s'/\∀X A ρ w x' y' ty,pb P X A ρ s s' w->VR A ρ x x'->VR A ρ y y'->cJ P X A ρ s s' w v (Builtin.delete_ ⟨ts⟩ ty #[x',y']):=by
 obtain⟨t,ht,h0⟩:=aF h;obtain⟨d,hd,h1⟩:=aF h0;clear h h0;rw[dO] at ht;split at h1
 .rename_i kt e b;obtain⟨kd,V0,h2⟩:=aF h1;obtain⟨La,h3⟩:=bq h2;obtain⟨o,ho,h5⟩:=aF h3;obtain⟨es,tw,h6⟩:=aF h5;obtain⟨wX,he2,h7⟩:=aF h6;have:=si tw;subst this;have hu:=dW hE hd;have Ve:=dW hE V0;have:=aJ h7;simp only[cw] at this;obtain⟨rfl,rfl⟩:=this;refine⟨aH.put s b _ (by rw[show s.heap.get b=some (.map es) from ho];simp),λX A ρ w x' y' ty hp hx hy=>?_⟩;obtain⟨hA,xo,Fz,xs,ck,rfl,lQ,ur⟩:=hp.st.kK b _ (hp.cV b (fh s b _)) ho;have xy:y'=y:=by rw[<-hy.self,ra La]
  subst xy;rw[hx.GY];have fg:(getObj (ρ b).1).run P w= .ok (.map ⟨xs⟩ ck) w:=by
   simp[getObj,Sem.run,Fz]
  obtain⟨r,hr⟩:∃r,nQ y' es=some r:=by
   have key:∀(l l2:List (Value×Value)),Sy y' l=some l2->∃r,nQ y' l=some r:=by
    intro l;induction l with
    |nil=>intro _ _;exact⟨none,rfl⟩
    |cons p l ih=>
     intro l2 h;rw[vN] at h;obtain⟨b,hb,h9⟩:=aF h;rw[tq,hb];cases b with
     |true=>exact⟨some p.2,rfl⟩
     |false=>
      rw[eG] at h9;obtain⟨r,hr,_⟩:=aF h9;exact ih _ hr
   exact key _ _ he2
  obtain⟨r',hfk,mG⟩:=tu hE Ve La hr lQ ur;have htt:(⟨ts⟩:Array TypeId)[0]?=some t:=by simpa using ht
  cases r with
  |none=>
   obtain⟨rfl,aav⟩:=mG;have:wX=es:=iU (he2.symm.trans aav);subst this;obtain⟨dD,rb⟩:=Good.yT (x':=.map ⟨xs⟩ ck) hp ho Fz ay ⟨xs,ck,rfl,lQ,ur⟩;refine⟨_,_,ρ,?_,VR.undef,rb⟩;unfold Builtin.delete_;simp[htt,run_underlying hu,fg,run_checkKey hE _ Ve La,hfk,dD]
  |some u=>
   obtain⟨j,v2,rfl,OG,ad6,aav,oN⟩:=mG;have:wX=es.eraseIdx j:=iU (he2.symm.trans aav);subst this;obtain⟨dD,rb⟩:=Good.yT (x':=.map ⟨xs.eraseIdx j⟩ ck) hp ho Fz ay (by
    refine⟨xs.eraseIdx j,ck,rfl,?_,?_⟩
    .rw[mH,mH];exact lQ.QT j
    .rw[mH,mH];exact ur.QT j)
   refine⟨_,_,ρ,?_,VR.undef,rb⟩;unfold Builtin.delete_;simp[htt,run_underlying hu,fg,run_checkKey hE _ Ve La,hfk,dD,B5]
 .cases h1
theorem SP (hE:cW E P){t:TypeId}(h:IJ E s t x=some (v,s')):aH s s'/\∀X A ρ w x',pb P X A ρ s s' w->VR A ρ x x'->cJ P X A ρ s s' w v (Instr.range t x'):=by
 obtain⟨d,hd,h1⟩:=aF h;clear h;have hu:=dW hE hd;split at h1
 .rename_i z;have:=aJ h1;simp only[cw] at this;obtain⟨rfl,rfl⟩:=this;refine⟨aH.jd s _,λX A ρ w x' hp hx=>?_⟩;refine⟨.pointer (some ⟨w.heap.size,0,none⟩),w.alloc (.stringIter ⟨⟨z⟩⟩ 0),ρ.at s.next (w.heap.size,0),?_,?_,?_⟩
  .rw[hx.uW];unfold Instr.range;simp only[Sem.run_bind,run_underlying hu,Result.andThen_ok,Sem.run_pure];rfl
  .have:=VR.ptr (A:=dg A s.next (s.new (.lL z 0)).next) (ρ:=ρ.at s.next (w.heap.size,0)) (b:=s.next) (o:=0) (s:=none) (.inr ⟨cC _,ay⟩);simpa using this
  .refine Good.alloc (o:=.lL z 0) (x:=.stringIter ⟨⟨z⟩⟩ 0) hp.st hp.dI hp.lt (λc=>by simp) ay (j9 s _) (cC _) (heap_alloc_new w _) ?_ (Fr.alloc w _);rfl
 .rename_i kt e b;obtain⟨o,ho,h2⟩:=aF h1;obtain⟨es,tw,h3⟩:=aF h2;have:=si tw;subst this;have:=aJ h3;simp only[cw] at this;obtain⟨rfl,rfl⟩:=this;refine⟨(aH.aU s b).trans (aH.jd _ _),λX A ρ w x' hp hx=>?_⟩;have kL:In ((s.aU b).new (.um b)).cV b:=(aH.jd (s.aU b) (.um b)).cV b (fQ s b);obtain⟨hA,xo,Fz,xs,ck,rfl,lQ,ur⟩:=hp.st.kK b _ (hp.cV b kL) ho;have fg:(getObj (ρ b).1).run P w= .ok (.map ⟨xs⟩ ck) w:=by
   simp[getObj,Sem.run,Fz]
  have hbn:b≠s.next:=by have:=hp.lt b hA;omega
  refine⟨.pointer (some ⟨w.heap.size,0,none⟩),w.alloc (.mapIter (some (ρ b).1) ck #[] ck),ρ.at s.next (w.heap.size,0),?_,?_,?_⟩
  .rw[hx.GY];unfold Instr.range;simp only[Sem.run_bind,run_underlying hu,Result.andThen_ok,Sem.run_pure,fg];rfl
  .have:=VR.ptr (A:=dg A s.next ((s.aU b).new (.um b)).next) (ρ:=ρ.at s.next (w.heap.size,0)) (b:=s.next) (o:=0) (s:=none) (.inr ⟨cC _,ay⟩);simpa using this
  .refine Good.alloc (o:=.um b) (x:=.mapIter (some (ρ b).1) ck #[] ck) hp.st hp.dI hp.lt (λc=>by simp) ay (by have:=j9 (s.aU b) (.um b);simpa using this) (cC _) (heap_alloc_new w _) ?_ (Fr.alloc w _);exact⟨hA,ck,ck,rfl⟩
 .cases h1
theorem I2 (z:List UInt8)(p:Nat)(c:UInt8)(h:z[p]?=some c)(hc:c.toNat<128):Utf8.decode ⟨⟨z⟩⟩ p=(c.toNat,1):=by
 unfold Utf8.decode;have hp:p<z.length:=(sV.1 h).1;have h0:((⟨⟨z⟩⟩:ByteArray).get! (p+0)).toNat=c.toNat:=by
  have:(⟨⟨z⟩⟩:ByteArray).get! (p+0)=c:=by
   show(⟨z⟩:Array UInt8)[p+0]! =c;rw[xj];simp[getElem!_def,h]
  rw[this]
 simp only[h0];rw[if_pos af]
theorem V1 (hE:cW E P){str:Bool}(h:KU s x str=some (v,s')):aH s s'/\∀X A ρ w x' ty,pb P X A ρ s s' w->VR A ρ x x'->cJ P X A ρ s s' w v (Instr.next x' str ty):=by
 unfold KU at h;split at h
 .rename_i b;obtain⟨o,ho,h1⟩:=aF h;clear h;have Bt:s.heap.get b=some o:=ho;split at h1
  .rename_i z p;obtain⟨V2,h2⟩:=bq h1;subst V2;unfold GG at h2;split at h2
   .rename_i hz;rw[dO] at hz;have:=aJ h2;simp only[cw] at this;obtain⟨rfl,rfl⟩:=this;refine⟨aH.aU s b,λX A ρ w x' ty hp hx=>?_⟩;obtain⟨hA,xo,Fz,I3⟩:=hp.st.kK b _ (hp.cV b (fQ s b)) ho;have I3:xo= .stringIter ⟨⟨z⟩⟩ p:=I3;subst I3;have fg:(getObj (ρ b).1).run P w= .ok (.stringIter ⟨⟨z⟩⟩ p) w:=by
     simp[getObj,Sem.run,Fz]
    refine cJ.same hp ay ay (v':=.tuple #[.bool false]) ?_ (VR.tuple (LR.cons (VR.bool _) LR.nil));rw[hx.nR];have iX:¬p<(⟨⟨z⟩⟩:ByteArray).size:=by
     have h3:(⟨⟨z⟩⟩:ByteArray).size=z.length:=rfl;have:=List.getElem?_eq_none_iff.1 hz;omega
    unfold Instr.next;simp only[Sem.run_bind,fg,Result.andThen_ok,if_neg iX,Sem.run_pure]
   .rename_i c hz;rw[dO] at hz;obtain⟨hc,h3⟩:=bq h2;have tg:c.toNat<128:=mR hc;have:=aJ h3;simp only[cw] at this;obtain⟨rfl,rfl⟩:=this;refine⟨aH.put s b _ (by rw[Bt];simp),λX A ρ w x' ty hp hx=>?_⟩;obtain⟨hA,xo,Fz,I3⟩:=hp.st.kK b _ (hp.cV b (fh s b _)) ho;have I3:xo= .stringIter ⟨⟨z⟩⟩ p:=I3;subst I3;have fg:(getObj (ρ b).1).run P w= .ok (.stringIter ⟨⟨z⟩⟩ p) w:=by
     simp[getObj,Sem.run,Fz]
    obtain⟨dD,rb⟩:=Good.yT (x':=.stringIter ⟨⟨z⟩⟩ (p+1)) hp ho Fz ay (show FI P A ρ (ρ b) (.lL z (Nat.succ p)) _ from rfl);refine⟨.tuple #[.bool true,.int .i64 (.ofNat p),.int .i32 (.ofNat c.toNat)],_,ρ,?_,VR.tuple (LR.cons (VR.bool _) (LR.cons (VR.int _ _) (LR.cons (VR.int _ _) LR.nil))),rb⟩;rw[hx.nR];have iX:p<(⟨⟨z⟩⟩:ByteArray).size:=(sV.1 hz).1;unfold Instr.next;simp only[Sem.run_bind,fg,Result.andThen_ok,if_pos iX,I2 z p c hz tg,dD,Sem.run_pure];rfl
  .rename_i m;obtain⟨V2,h2⟩:=bq h1;have V2:str=false:=by simpa using V2
   subst V2;obtain⟨o2,OJ,h3⟩:=aF h2;obtain⟨es,tw,h4⟩:=aF h3;have:=si tw;subst this;split at h4
   .have:=aJ h4;simp only[cw] at this;obtain⟨rfl,rfl⟩:=this;refine⟨(aH.aU s b).trans (aH.aU _ m),λX A ρ w x' ty hp hx=>?_⟩;have kL:In ((s.aU b).aU m).cV b:=(aH.aU (s.aU b) m).cV b (fQ s b);obtain⟨hA,xo,Fz,hAm,since,dm,rfl⟩:=hp.st.kK b _ (hp.cV b kL) ho;obtain⟨hA2,xo2,I3,xs,ck,rfl,lQ,ur⟩:=hp.st.kK m _ (hp.cV m (fQ (s.aU b) m)) OJ;have N0:xs=[]:=by
     have:=lQ.length;cases xs with
     |nil=>rfl
     |cons a l=>simp at this
    subst N0;have fg:(getObj (ρ b).1).run P w= .ok (.mapIter (some (ρ m).1) since #[] dm) w:=by
     simp[getObj,Sem.run,Fz]
    have agT:(getObj (ρ m).1).run P w= .ok (.map #[] ck) w:=by
     simp[getObj,Sem.run,I3]
    refine cJ.same hp ay ay (v':=.tuple #[.bool false]) ?_ (VR.tuple (LR.cons (VR.bool _) LR.nil));rw[hx.nR];unfold Instr.next;simp[fg,agT,Question.forced]
   .cases h4
  .cases h1
 .cases h
variable {call:ff}{o:Oper}{ev:Operand->Value}
abbrev pg (P:Program)(X A:Nat->Prop)(ρ:ig)(s s':St)(w:World)(v v':Value)(w':World):Prop:=∃eb,VR (dg A s.next s'.next) eb v v'/\Good P X A ρ s s' w w' eb
def kM (P:Program)(f:FuncId)(args:Array Value)(w:World)(R:Value->World->Prop):Prop:=
 (∃v w',(callFunc f args).run P w= .ok (.value v) w'/\R v w')\/(∃g as_ w',(callFunc f args).run P w= .ok (.enter g as_) w'/\Calls P g as_ w' λe w''=>∃v,e= .returned v/\R v w'')
def dK (P:Program)(call:ff):Prop:=∀f args s v s',call f args s=some (v,s')->aH s s'/\∀X A ρ w gi,pb P X A ρ s s' w->Gl A ρ->LR A ρ args gi->kM P f ⟨gi⟩ w λv' w'=>pg P X A ρ s s' w v v' w'
def agU (P:Program)(o:Oper)(ev:Operand->Value)(s s':St)(v:Value):Prop:=
 aH s s'/\∀X A ρ w (a:Act)(Q:Exit->Act->World->Prop),pb P X A ρ s s' w->Gl A ρ->(∀x∈o.op.operands,VR A ρ (ev x) (a.eval x))->o.wp P a w (λa' w'=>∃v',a'=a.put o.dst v'/\pg P X A ρ s s' w v v' w') Q
theorem cY {a:Act}{Q:Exit->Act->World->Prop}{m:Sem Value}(he:execOp a.eval o=(do pure (.value (<-m))))(h:cJ P X A ρ s s' w v m):o.wp P a w (λa' w'=>∃v',a'=a.put o.dst v'/\pg P X A ρ s s' w v v' w') Q:=by obtain⟨v',w',eb,h1,h2,h3⟩:=h;unfold Oper.wp;rw[he];simp only[Sem.run_bind,h1,Result.andThen_ok,Sem.run_pure,Oper.upon];exact⟨v',rfl,eb,h2,h3⟩
theorem QU {a:Act}{Q:Exit->Act->World->Prop}{m:Sem Unit}(he:execOp a.eval o=(do m;pure .skip))(hv:v= .tuple ⟨[]⟩)(h:∃w' eb,m.run P w= .ok () w'/\Good P X A ρ s s' w w' eb):o.wp P a w (λa' w'=>∃v',a'=a.put o.dst v'/\pg P X A ρ s s' w v v' w') Q:=by obtain⟨w',eb,h1,h3⟩:=h;unfold Oper.wp;rw[he];simp only[Sem.run_bind,h1,Result.andThen_ok,Sem.run_pure,Oper.upon];exact⟨undef,rfl,eb,by rw[hv];exact VR.undef,h3⟩
theorem wp_pure {a:Act}{Q:Exit->Act->World->Prop}(he:(execOp a.eval o).run P w= .ok (.value v') w)(hp:pb P X A ρ s s w)(hv:VR A ρ v v'):o.wp P a w (λa' w'=>∃v',a'=a.put o.dst v'/\pg P X A ρ s s w v v' w') Q:=by unfold Oper.wp;rw[he];exact⟨v',rfl,ρ,hv.mono (λi hi=>.inl hi) (λ_ _=>rfl),Good.refl hp.st hp.dI⟩
theorem VR.QV {t:TypeId}{x:Value}(h:VR A ρ (.iface t x) v'):∃x',v'= .iface t x'/\VR A ρ x x':=by refine⟨bX ρ x,by rw[<-h.self];simp[bX],λeb e=>?_⟩;have h1:=h eb e;have h2:=h.self;rw[<-h2] at h1;simpa[bX] using h1
theorem VR.iface {t:TypeId}{x x':Value}(h:VR A ρ x x'):VR A ρ (.iface t x) (.iface t x'):=λeb e=>by
 have:=h eb e;simp[bX,this]
theorem I4 {lo:Option Operand}{a:Act}(h:∀x,lo=some x->VR A ρ (ev x) (a.eval x)):Ow A ρ (dB ev lo) (lo.map a.eval):=by
 cases lo with
 |none=>simp[dB,Ow]
 |some x=>exact h x rfl
theorem Cv {l:List Operand}{a:Act}(h:∀x∈l,VR A ρ (ev x) (a.eval x)):LR A ρ (xn ev l) (l.map a.eval):=by
 rw[qY];induction l with
 |nil=>exact LR.nil
 |cons x xs ih=>exact LR.cons (h x ay) (ih λy hy=>h y (by simp[hy]))
theorem SQ (hC:dK P call){f:Value}{args:aY}(h:xq call f args s=some (v,s')):aH s s'/\∀X A ρ w f' gi,pb P X A ρ s s' w->Gl A ρ->VR A ρ f f'->LR A ρ args gi->
  ∃g first cap,f'= .func (.func g) ⟨first⟩ ⟨cap⟩/\kM P g ⟨first++(gi++cap)⟩ w λv' w'=>pg P X A ρ s s' w v v' w':=by
 unfold xq at h;split at h
 .rename_i g first cap
  obtain⟨h1,h2⟩:=hC _ _ _ _ _ h;refine⟨h1,λX A ρ w f' gi hp gL hf ha=>?_⟩;obtain⟨ad7,C7,rfl,lQ,ur⟩:=hf.C5;exact⟨g,ad7,C7,rfl,h2 X A ρ w _ hp gL (lQ.append (ha.append ur))⟩
 .cases h
theorem SR (hE:cW E P)(hC:dK P call){c:Call}(h:Ot E call ev s c=some (v,s'))(dst:Option Tmp)(type:TypeId)(pos:String)(after:Array Edge)(guard:Option (Nat×Bool)):agU P ⟨dst,.call c,type,pos,after,guard⟩ ev s s' v:=by
 obtain⟨callee,args,argTypes⟩:=c;unfold Ot at h;cases callee with
 |invoke r m=>
  simp only at h;unfold Co at h;split at h
  .rename_i t b hr;obtain⟨f,hf,h0⟩:=aF h;obtain⟨h1,h2⟩:=hC _ _ _ _ _ h0;refine⟨h1,λX A ρ w a Q hp gL hx=>?_⟩;have kD:∀x∈args.toList,VR A ρ (ev x) (a.eval x):=λx hxx=>hx x (by simp only[Op.operands,Call.operands,Vs];exact .inr (by simpa using hxx))
   have hrv:=hx r (by simp[Op.operands,Call.operands]);rw[hr] at hrv;obtain⟨q,hq,hqv⟩:=hrv.QV;have uJ:∃b',q= .pointer (some b'):=by
    obtain⟨bb,bo,bs⟩:=b;exact⟨_,hqv.nR⟩
   obtain⟨b',rfl⟩:=uJ;have wY:=h2 X A ρ w _ hp gL (LR.cons hqv (Cv kD));have he:(execOp a.eval ⟨dst,.call ⟨.invoke r m,args,argTypes⟩,type,pos,after,guard⟩).run P w=(callFunc f ⟨.pointer (some b')::args.toList.map a.eval⟩).run P w:=by
    simp only[execOp,resolve,hq,Sem.run_bind,Sem.run_pure,Result.andThen_ok,invoke];(have:((#[Value.iface t (.pointer (some b'))]++args.map a.eval)[0]?:Option Value)=some (.iface t (.pointer (some b'))):=by rw[aaf ay];rfl);simp only[this];rw[hE.agM t m f hf]
    congr 2
    apply wC;simp only[Array.toList_append,Array.toList_extract,List.size_toArray,cU,kC,Array.size_append,Array.size_map,Array.toList_map];simp[List.extract];exact rT ay
   unfold Oper.wp;rw[he];rcases wY with⟨v',w',e1,e2⟩|⟨g',as_,w',e1,e2⟩
   .rw[e1];exact⟨v',rfl,e2⟩
   .rw[e1];simp only[Oper.upon];refine e2.mono λe w'' he=>?_
    obtain⟨v',rfl,hh⟩:=he;exact⟨v',rfl,hh⟩
  .cases h
 |value f=>
  simp only at h;obtain⟨h1,h2⟩:=SQ hC h;refine⟨h1,λX A ρ w a Q hp gL hx=>?_⟩;have kD:∀x∈args.toList,VR A ρ (ev x) (a.eval x):=λx hxx=>hx x (by simp only[Op.operands,Call.operands,Vs];exact .inr (by simpa using hxx))
  obtain⟨g,first,cap,hf,wY⟩:=h2 X A ρ w _ _ hp gL (hx f (by simp[Op.operands,Call.operands])) (Cv kD);have he:(execOp a.eval ⟨dst,.call ⟨.value f,args,argTypes⟩,type,pos,after,guard⟩).run P w=(callFunc g ⟨first++(args.toList.map a.eval++cap)⟩).run P w:=by
   simp only[execOp,resolve,hf,Deferred.ofValue,Sem.run_bind,Sem.run_pure,Result.andThen_ok,invoke]
   congr 2
   apply wC;simp
  unfold Oper.wp;rw[he];rcases wY with⟨v',w',e1,e2⟩|⟨g',as_,w',e1,e2⟩
  .rw[e1];exact⟨v',rfl,e2⟩
  .rw[e1];simp only[Oper.upon];refine e2.mono λe w'' he=>?_
   obtain⟨v',rfl,hh⟩:=he;exact⟨v',rfl,hh⟩
 |builtin b=>
  simp only at h;have kD:∀(a:Act) A ρ,(∀x∈(Op.call ⟨.builtin b,args,argTypes⟩).operands,VR A ρ (ev x) (a.eval x))->∀x∈args.toList,VR A ρ (ev x) (a.eval x):=λa A ρ hx x hxx=>hx x (by simp only[Op.operands,Call.operands,Vs];exact .inr (by simpa using hxx))
  obtain⟨args⟩:=args;obtain⟨argTypes⟩:=argTypes;simp only at h kD;unfold yI at h;split at h
  .rename_i x;unfold sb at h;split at h
   .obtain⟨t,ht,h1⟩:=aF h;rw[dO] at ht;split at h1
    .rename_i b hb;obtain⟨h2,h3⟩:=OH hE h1 (ty:=type);refine⟨h2,λX A ρ w a Q hp gL hx=>cY (m:=Builtin.len_ ⟨argTypes⟩ type #[a.eval x]) (by simp[execOp,resolve,invoke,builtin]) (h3 X A ρ w _ ⟨argTypes⟩ hp ?_ (by simpa using ht))⟩;have:=kD a A ρ hx x ay;rw[hb] at this;exact this
    .obtain⟨u,hu,h2⟩:=aF h1;have:=aJ h2;simp only[cw] at this;obtain⟨rfl,rfl⟩:=this;refine⟨aH.refl _,λX A ρ w a Q hp gL hx=>?_⟩;obtain⟨v',h3,h4⟩:=aar hE hu (ty:=type) A ρ _ ⟨argTypes⟩ (kD a A ρ hx x ay) (by simpa using ht);exact cY (m:=Builtin.len_ ⟨argTypes⟩ type #[a.eval x]) (by simp[execOp,resolve,invoke,builtin]) (cJ.pure hp (h3 w) h4)
   .obtain⟨t,ht,h1⟩:=aF h;rw[dO] at ht;obtain⟨rfl,h3⟩:=aax hE h1 (ty:=type);refine⟨aH.refl _,λX A ρ w a Q hp gL hx=>?_⟩;obtain⟨v',h4,h5⟩:=h3 A ρ _ ⟨argTypes⟩ (kD a A ρ hx x ay) (by simpa using ht);exact cY (m:=Builtin.cap_ ⟨argTypes⟩ type #[a.eval x]) (by simp[execOp,resolve,invoke,builtin]) (cJ.pure hp (h4 w) h5)
   .obtain⟨h1,h2⟩:=FT (P:=P) h;exact⟨h1,λX A ρ w a Q hp gL hx=>cY (m:=Builtin.unsafeSliceData_ ⟨argTypes⟩ type #[a.eval x]) (by simp[execOp,resolve,invoke,builtin]) (h2 X A ρ w _ ⟨argTypes⟩ type hp (kD a A ρ hx x ay))⟩
   .obtain⟨h1,h2⟩:=SK hE h;exact⟨h1,λX A ρ w a Q hp gL hx=>cY (m:=Builtin.clear_ ⟨argTypes⟩ type #[a.eval x]) (by simp[execOp,resolve,invoke,builtin]) (h2 X A ρ w _ type hp (kD a A ρ hx x ay))⟩
   .cases h
  .rename_i x y;unfold KV at h;split at h
   .obtain⟨h1,h2⟩:=OC hE h;exact⟨h1,λX A ρ w a Q hp gL hx=>cY (m:=Builtin.append_ ⟨argTypes⟩ type #[a.eval x,a.eval y]) (by simp[execOp,resolve,invoke,builtin]) (h2 X A ρ w _ _ type hp (kD a A ρ hx x ay) (kD a A ρ hx y ay))⟩
   .obtain⟨rfl,h2⟩:=aas (P:=P) h;refine⟨aH.refl _,λX A ρ w a Q hp gL hx=>?_⟩;obtain⟨v',h3,h4⟩:=h2 A ρ _ _ ⟨argTypes⟩ type (kD a A ρ hx x ay) (kD a A ρ hx y ay);exact cY (m:=Builtin.max_ ⟨argTypes⟩ type #[a.eval x,a.eval y]) (by simp[execOp,resolve,invoke,builtin]) (cJ.pure hp (h3 w) h4)
   .obtain⟨rfl,h2⟩:=aaw (P:=P) h;refine⟨aH.refl _,λX A ρ w a Q hp gL hx=>?_⟩;obtain⟨v',h3,h4⟩:=h2 A ρ _ _ ⟨argTypes⟩ type (kD a A ρ hx x ay) (kD a A ρ hx y ay);exact cY (m:=Builtin.min_ ⟨argTypes⟩ type #[a.eval x,a.eval y]) (by simp[execOp,resolve,invoke,builtin]) (cJ.pure hp (h3 w) h4)
   .obtain⟨h1,h2⟩:=OI hE h;exact⟨h1,λX A ρ w a Q hp gL hx=>cY (m:=Builtin.delete_ ⟨argTypes⟩ type #[a.eval x,a.eval y]) (by simp[execOp,resolve,invoke,builtin]) (h2 X A ρ w _ _ type hp (kD a A ρ hx x ay) (kD a A ρ hx y ay))⟩
   .obtain⟨h1,h2⟩:=VT hE h;exact⟨h1,λX A ρ w a Q hp gL hx=>cY (m:=Builtin.copy_ ⟨argTypes⟩ type #[a.eval x,a.eval y]) (by simp[execOp,resolve,invoke,builtin]) (h2 X A ρ w _ _ type hp (kD a A ρ hx x ay) (kD a A ρ hx y ay))⟩
   .obtain⟨h1,h2⟩:=As hE h;exact⟨h1,λX A ρ w a Q hp gL hx=>cY (m:=Builtin.unsafeString_ ⟨argTypes⟩ type #[a.eval x,a.eval y]) (by simp[execOp,resolve,invoke,builtin]) (h2 X A ρ w _ _ type hp (kD a A ρ hx x ay) (kD a A ρ hx y ay))⟩
   .cases h
  .cases h
theorem I5 (hE:cW E P)(hC:dK P call)(h:GI E call ev s o.op=some (v,s')):agU P o ev s s' v:=by
 obtain⟨dst,op,type,pos,after,guard⟩:=o;cases op<;>simp only[GI,reduceCtorEq] at h
 case move x=>
  refine' zaS
 case assign x=>
  refine' zaS
 case pick c p q=>
  unfold QF at h;split at h
  .rename_i b hc;cases b with
   |true=>
    have:=aJ h;simp only[cw] at this;obtain⟨rfl,rfl⟩:=this;refine⟨aH.refl _,λX A ρ w a Q hp gL hx=>wp_pure ?_ hp (hx p (by simp[Op.operands]))⟩;have:=hx c (by simp[Op.operands]);rw[hc] at this;simp[execOp,this.tc,asBool]
   |false=>
    have:=aJ h;simp only[cw] at this;obtain⟨rfl,rfl⟩:=this;refine⟨aH.refl _,λX A ρ w a Q hp gL hx=>wp_pure ?_ hp (hx q (by simp[Op.operands]))⟩;have:=hx c (by simp[Op.operands]);rw[hc] at this;simp[execOp,this.tc,asBool]
  .cases h
 case alloc t=>
  obtain⟨h1,h2⟩:=SC hE h;exact⟨h1,λX A ρ w a Q hp gL hx=>cY (m:=Instr.alloc t true (.tuple #[])) rfl (h2 X A ρ w hp)⟩
 case box t x=>
  obtain⟨h1,h2⟩:=QL (P:=P) h;refine⟨h1,λX A ρ w a Q hp gL hx=>cY (m:=Instr.box t (a.eval x)) rfl ?_⟩;have:=h2 X A ρ w _ hp (by rw[gT];exact(hx x (by simp[Op.operands])).cells);exact this
 case build t ps=>
  obtain⟨rfl,h2⟩:=SH hE h;refine⟨aH.refl _,λX A ρ w a Q hp gL hx=>?_⟩;obtain⟨v',h3,h4⟩:=h2 A ρ a.eval (λp hp=>hx p.2 (by simp only[Op.operands,List.mem_toArray,lp];exact⟨p,by simpa using hp,rfl⟩));refine cY (m:=Instr.build t (ps.map λx=>(x.1,a.eval x.2))) rfl (cJ.pure hp ?_ h4);rw[<-h3 w];congr 2;apply wC;simp
 case buildSlice t n ps=>
  obtain⟨h1,h2⟩:=C9 hE h;refine⟨h1,λX A ρ w a Q hp gL hx=>cY (m:=Instr.buildSlice t n (ps.map λx=>(x.1,a.eval x.2))) rfl ?_⟩;have:=h2 X A ρ w a.eval hp (λp hp=>hx p.2 (by simp only[Op.operands,List.mem_toArray,lp];exact⟨p,by simpa using hp,rfl⟩));rw[show(ps.map λx=>(x.1,a.eval x.2))=(ps.toList.map λx=>(x.1,a.eval x.2)).toArray by apply wC;simp];exact this
 case load t x=>
  obtain⟨h1,h2⟩:=aao hE h;exact⟨h1,λX A ρ w a Q hp gL hx=>cY (m:=Instr.loadAt t (a.eval x)) rfl (h2 X A ρ w _ hp (hx x (by simp[Op.operands])))⟩
 case store t x y=>
  obtain⟨h1,h2⟩:=VI hE h;refine⟨h1,λX A ρ w a Q hp gL hx=>?_⟩;obtain⟨h3,h4⟩:=h2 X A ρ w _ _ hp (hx x (by simp[Op.operands])) (hx y (by simp[Op.operands]));exact QU (m:=Instr.storeAt t (a.eval x) (a.eval y)) rfl h3 h4
 case makeInterface t x=>
  obtain⟨d,hd,h1⟩:=aF h;obtain⟨hc,h2⟩:=bq h1;have:=aJ h2;simp only[cw] at this;obtain⟨rfl,rfl⟩:=this;refine⟨aH.refl _,λX A ρ w a Q hp gL hx=>?_⟩;refine cY (m:=Instr.makeInterface t (a.eval x)) rfl (cJ.pure hp (v':=.iface t (a.eval x)) ?_ (VR.iface (hx x (by simp[Op.operands]))));unfold Instr.makeInterface;simp only[Sem.run_bind,run_underlying (dW hE hd),Result.andThen_ok];cases d<;>first|rfl|cases hc
 case nilCheck x=>
  unfold GH at h;split at h
  .rename_i m t b c hev;obtain⟨f,hf,h0⟩:=aF h;have:=aJ h0;simp only[cw] at this;obtain⟨rfl,rfl⟩:=this;refine⟨aH.refl _,λX A ρ w a Q hp gL hx=>?_⟩;have hv:=hx x (by simp[Op.operands]);rw[hev] at hv;refine wp_pure (v':=a.eval x) ?_ hp hv;obtain⟨p',q',he,pT,_⟩:=hv.C5;obtain⟨y,r,rfl,hy,hr⟩:=pT.iM;have:r=[]:=mj (by simpa using hr.length);subst this;obtain⟨y',rfl,xy⟩:=hy.QV;obtain⟨bb,bo,bs⟩:=b;have uJ:=xy.nR;subst uJ;simp only[execOp,he];have h1:((⟨[Value.iface t (.pointer (some ⟨(ρ bb).1,bo,bs⟩))]⟩:Array Value)[0]?:Option Value)=some (.iface t (.pointer (some ⟨(ρ bb).1,bo,bs⟩))):=rfl;simp only[h1,Sem.run_bind];have h2:(program).run P w= .ok P w:=rfl;simp only[h2,Result.andThen_ok,hE.agO t m f hf];rfl
  rename_i x' gh;clear gh;obtain⟨rfl,rfl,h2⟩:=aat h;refine⟨aH.refl _,λX A ρ w a Q hp gL hx=>?_⟩;have hv:=hx x (by simp[Op.operands]);rcases h2 with⟨q,hq⟩|⟨f,p,q,hq⟩
  .obtain⟨b,off,sp⟩:=q;rw[hq] at hv⊢;refine wp_pure (v':=a.eval x) ?_ hp hv;simp only[execOp,hv.nR,Sem.run_pure]
  .obtain⟨p⟩:=p;obtain⟨q⟩:=q;rw[hq] at hv⊢;obtain⟨p',q',he,_,_⟩:=hv.C5;refine wp_pure (v':=a.eval x) ?_ hp hv;simp only[execOp,he,Sem.run_pure]
 case binOp op t x y yt=>
  obtain⟨u,hu,h1⟩:=aF h;have:=aJ h1;simp only[cw] at this;obtain⟨rfl,rfl⟩:=this;refine⟨aH.refl _,λX A ρ w a Q hp gL hx=>?_⟩;obtain⟨v',h2,h3⟩:=aaq hE hu (hx x (by simp[Op.operands])) (hx y (by simp[Op.operands])) w;exact cY (m:=do eqGuard op t x y (a.eval x) (a.eval y);binOp op t (a.eval x) (a.eval y)) rfl (cJ.pure hp h2 h3)
 case unOp op t x=>
  obtain⟨rfl,h2⟩:=ad3 (P:=P) h;refine⟨aH.refl _,λX A ρ w a Q hp gL hx=>?_⟩;obtain⟨v',h3,h4⟩:=h2 A ρ _ (hx x (by simp[Op.operands]));exact cY (m:=Op.unary op (a.eval x)) rfl (cJ.pure hp (h3 w) h4)
 case convert src d x=>
  obtain⟨h1,h2⟩:=VW hE h;exact⟨h1,λX A ρ w a Q hp gL hx=>cY (m:=convert src d (a.eval x)) rfl (h2 X A ρ w _ hp (hx x (by simp[Op.operands])))⟩
 case makeFunc fn f c=>
  have:=aJ h;simp only[cw] at this;obtain⟨rfl,rfl⟩:=this;refine⟨aH.refl _,λX A ρ w a Q hp gL hx=>?_⟩;refine wp_pure (v':=.func fn ⟨f.toList.map a.eval⟩ ⟨c.toList.map a.eval⟩) ?_ hp (VR.func (Cv λx hxx=>hx x ?_) (Cv λx hxx=>hx x ?_))
  .simp only[execOp,Instr.makeFunc,Sem.run_bind,Sem.run_pure,Result.andThen_ok]
   congr 3<;>(apply wC;simp)
  .simp only[Op.operands,Vs];exact .inl (by simpa using hxx)
  .simp only[Op.operands,Vs];exact .inr (by simpa using hxx)
 case makeMap t r=>
  cases r with
  |some r=>cases h
  |none=>
   have:=aJ h;simp only[cw] at this;obtain⟨rfl,rfl⟩:=this;exact⟨aH.jd s _,λX A ρ w a Q hp gL hx=>cY (m:=Instr.makeMap t none) rfl (OE t X A ρ w hp)⟩
 case makeSlice t l c=>
  obtain⟨h1,h2⟩:=FQ hE h;exact⟨h1,λX A ρ w a Q hp gL hx=>cY (m:=Instr.makeSlice t (a.eval l) (a.eval c)) rfl (h2 X A ρ w _ _ hp (hx l (by simp[Op.operands])) (hx c (by simp[Op.operands])))⟩
 case slice t x lo hi mx=>
  obtain⟨h1,h2⟩:=SG hE h;exact⟨h1,λX A ρ w a Q hp gL hx=>cY (m:=Instr.sliceAt t (a.eval x) (lo.map a.eval) (hi.map a.eval) (mx.map a.eval)) rfl (h2 X A ρ w _ _ _ _ hp (hx x (by simp[Op.operands])) (I4 λq hq=>hx q (by subst hq;simp[Op.operands])) (I4 λq hq=>hx q (by subst hq;simp[Op.operands])) (I4 λq hq=>hx q (by subst hq;simp[Op.operands])))⟩
 case fieldAddr t x i=>
  obtain⟨rfl,h2⟩:=FO hE h;refine⟨aH.refl _,λX A ρ w a Q hp gL hx=>?_⟩;obtain⟨v',h3,h4⟩:=h2 A ρ _ (λ_ _ _=>trivial) (hx x (by simp[Op.operands]));exact cY (m:=Instr.fieldAt t (a.eval x) i) rfl (cJ.pure hp (h3 w) h4)
 case field t x i=>
  obtain⟨rfl,h2⟩:=SF hE h;refine⟨aH.refl _,λX A ρ w a Q hp gL hx=>?_⟩;obtain⟨v',h3,h4⟩:=h2 A ρ _ (hx x (by simp[Op.operands]));exact cY (m:=Instr.field t (a.eval x) i) rfl (cJ.pure hp (h3 w) h4)
 case indexAddr t x i=>
  obtain⟨rfl,h2⟩:=FP hE h;refine⟨aH.refl _,λX A ρ w a Q hp gL hx=>?_⟩;obtain⟨v',h3,h4⟩:=h2 A ρ _ _ (hx x (by simp[Op.operands])) (hx i (by simp[Op.operands]));exact cY (m:=Instr.indexAt t (a.eval x) (a.eval i)) rfl (cJ.pure hp (h3 w) h4)
 case index t x i=>
  obtain⟨rfl,h2⟩:=SE hE h;refine⟨aH.refl _,λX A ρ w a Q hp gL hx=>?_⟩;obtain⟨v',h3,h4⟩:=h2 A ρ _ _ (hx x (by simp[Op.operands])) (hx i (by simp[Op.operands]));exact cY (m:=Instr.index t (a.eval x) (a.eval i)) rfl (cJ.pure hp (h3 w) h4)
 case lookup t m k ok=>
  obtain⟨h1,h2⟩:=OF hE h;exact⟨h1,λX A ρ w a Q hp gL hx=>cY (m:=Instr.lookup t (a.eval m) (a.eval k) ok) rfl (h2 X A ρ w _ _ hp (hx m (by simp[Op.operands])) (hx k (by simp[Op.operands])))⟩
 case mapUpdate t m k u=>
  obtain⟨h1,h2,h3⟩:=FV hE h;exact⟨h1,λX A ρ w a Q hp gL hx=>QU (m:=Instr.mapUpdate t (a.eval m) (a.eval k) (a.eval u)) rfl h2 (h3 X A ρ w _ _ _ hp (hx m (by simp[Op.operands])) (hx k (by simp[Op.operands])) (hx u (by simp[Op.operands])))⟩
 case extract x i=>
  obtain⟨rfl,h2⟩:=K4 (P:=P) h;refine⟨aH.refl _,λX A ρ w a Q hp gL hx=>?_⟩;obtain⟨v',h3,h4⟩:=h2 A ρ _ (hx x (by simp[Op.operands]));exact cY (m:=Instr.extract (a.eval x) i) rfl (cJ.pure hp (h3 w) h4)
 case range t x=>
  obtain⟨h1,h2⟩:=SP hE h;exact⟨h1,λX A ρ w a Q hp gL hx=>cY (m:=Instr.range t (a.eval x)) rfl (h2 X A ρ w _ hp (hx x (by simp[Op.operands])))⟩
 case next x str=>
  obtain⟨h1,h2⟩:=V1 hE h;exact⟨h1,λX A ρ w a Q hp gL hx=>cY (m:=Instr.next (a.eval x) str type) rfl (h2 X A ρ w _ type hp (hx x (by simp[Op.operands])))⟩
 case call c=>exact SR hE hC h dst type pos after guard
variable {N:Nat}{tm jC:Tm}{a:Act}
mutual
def ma:Value->Bool
 |.agg ⟨cs⟩=>tz cs
 |.tuple ⟨cs⟩=>tz cs
 |.func _ ⟨f⟩ ⟨c⟩=>tz f&&tz c
 |.iface _ v=>ma v
 |.pointer (some _)=>false
 |.slice (some _) _ _=>false
 |.map (some _)=>false
 |_=>true
def tz:aY->Bool
 |[]=>true
 |v::vs=>ma v&&tz vs
end
mutual
theorem tA (ρ:ig):∀v,ma v=true->bX ρ v=v
 |.agg ⟨cs⟩,h=>by rw[VF,qp ρ cs (by simpa[ma] using h)]
 |.tuple ⟨cs⟩,h=>by rw[Ov,qp ρ cs (by simpa[ma] using h)]
 |.func fn ⟨f⟩ ⟨c⟩,h=>by
  simp only[ma,bI] at h;rw[Sz,qp ρ f h.1,qp ρ c h.2]
 |.iface t v,h=>by
  have:=tA ρ v (by simpa[ma] using h);simp[bX,this]
 |.pointer none,_=>by simp
 |.pointer (some _),h=>by simp[ma] at h
 |.slice none _ _,_=>by simp
 |.slice (some _) _ _,h=>by simp[ma] at h
 |.map none,_=>by simp[bX]
 |.map (some _),h=>by simp[ma] at h
 |.bool _,_=>by simp
 |.int _ _,_=>by simp
 |.float _ _,_=>by simp[bX]
 |.complex _ _ _,_=>by simp[bX]
 |.string _,_=>by simp
 |.chan _,_=>by simp[bX]
 |.nilFunc,_=>by simp
 |.nilIface,_=>by simp
theorem qp (ρ:ig):∀l:aY,tz l=true->l.map (bX ρ)=l
 |[],_=>rfl
 |v::vs,h=>by
  simp only[tz,bI] at h;rw[xg,tA ρ v h.1,qp ρ vs h.2]
end
def I6 (x:Operand):Bool:=match x with
 |.const v=>ma v
 |.global g=>Nat.ble (Nat.succ g) 16
 |_=>true
def u7 (N:Nat)(o:Oper):Bool:=(match o.dst with
 |some d=>Nat.ble (Nat.succ d) N
 |none=>true)&&o.op.operands.toList.all I6
theorem Gl.mono (h:Gl A ρ)(hA:∀i,A i->B i)(Ao:∀i,A i->Fw i=ρ i):Gl B Fw:=λg hg=>⟨hA g (h g hg).1,by rw[Ao g (h g hg).1];exact(h g hg).2⟩
def N2 (A:Nat->Prop)(ρ:ig)(N:Nat)(tm:Tm)(a:Act):Prop:=a.tmps.size=N/\∀t,VR A ρ (lX (tm.get t)) (a.tmps.getD t undef)
theorem N2.mono (h:N2 A ρ N tm a)(hA:∀i,A i->B i)(Ao:∀i,A i->Fw i=ρ i):N2 B Fw N tm a:=⟨h.1,λt=>(h.2 t).mono hA Ao⟩
noncomputable def Tm.gY (tm:Tm)(d:Option Tmp)(v:Value):Tm:=match d with
 |some d=>tm.set (Nat.succ d) d (some v)
 |none=>tm
theorem Tm.put_eq {β:Type}(tm:Tm)(d:Option Tmp)(v:Value)(k:Tm->β):tm.put d v k=k (tm.gY d v):=by cases d<;>simp[Tm.put,Tm.gY]
theorem Lb (a:Act)(d t:Nat)(v:Value)(hd:d<a.tmps.size):(a.put (some d) v).tmps.getD t undef=if t=d then v else a.tmps.getD t undef:=by
 simp only[Act.put,Qx,adV];by_cases h:d=t
 .subst h;simp[hd]
 .rw[if_neg h,if_neg (λe=>h e.symm)]
theorem N2.put {d:Option Tmp}{v v':Value}(h:N2 A ρ N tm a)(hv:VR A ρ v v')(hd:∀t,d=some t->t<N):N2 A ρ N (tm.gY d v) (a.put d v'):=by
 cases d with
 |none=>exact h
 |some d=>
  have hd:=hd d rfl;refine⟨by simp[Act.put,h.1],λt=>?_⟩;rw[Lb a d t v' (by rw[h.1];exact hd)];unfold Tm.gY;simp only[T.vG];by_cases ht:t=d
  .simp only[ht,if_true];exact hv
  .simp only[ht,pQ];exact h.2 t
theorem Cw {x:Operand}(ho:I6 x=true)(hg:Gl A ρ)(ht:∀t,x= .tmp t->VR A ρ (lX (tm.get t)) (a.tmps.getD t undef)):VR A ρ (aO tm x) (a.eval x):=by
 cases x with
 |tmp t=>exact ht t rfl
 |const v=>exact VR.ground λρ=>tA ρ v ho
 |global g=>
  have hg':g<16:=mR ho;have:=VR.ptr (ρ:=ρ) (o:=0) (s:=none) (hg g hg').1;rw[(hg g hg').2] at this;exact this
 |func f=>exact VR.ground λρ=>by simp[aO]
theorem SS (v:Option Value)(want:Bool):uS v want=true↔v=some (.bool want):=by
 unfold uS;split
 .rename_i b;rw[dJ];cases b<;>cases want<;>simp
 .rename_i h;simp only[jN,false_iff];rintro rfl;exact h want rfl
theorem I7 {b:Bool}(h:bX ρ v= .bool b):v= .bool b:=by
 cases v<;>try(simp[bX] at h;done)
 .simpa using h
 .rename_i a;cases a<;>simp[bX] at h
 .rename_i a l c;cases a with
  |none=>simp[bX] at h
  |some a=>
   obtain⟨a',e⟩:=sd ρ a l c;rw[e] at h;cases h
 .rename_i a;cases a<;>simp[bX] at h
theorem VR.V3 {b:Bool}(h:VR A ρ v v')(hv:v'= .bool b):v= .bool b:=I7 (ρ:=ρ) (by rw[h.self,hv])
theorem Au {aG:List Oper}{o:Oper}(hs:a.tmps.size=N)(hN:∀p∈aG,∀d,p.dst=some d->d<N)
  (ht:∀j want,o.guard=some (j,want)->∀d,mB aG j=some d->VR A ρ (lX (tm.get d)) (a.tmps.getD d undef)):Region.wanted o (yielded ⟨aG⟩ a.tmps)=ib aG tm o.guard:=by
 unfold Region.wanted ib;cases hgd:o.guard with
 |none=>rfl
 |some p=>
  obtain⟨j,want⟩:=p;simp only;have aay:((⟨aG⟩:Array Oper)[j]?).bind (·.dst)=mB aG j:=by
   unfold mB;rw[dO];simp only[KG];cases aG[j]?<;>rfl
  unfold yielded;rw[aay];cases hd:mB aG j with
  |none=>simp[uS]
  |some d=>
   have hv:=ht j want hgd d hd;have hdN:d<a.tmps.size:=by
    unfold mB at hd;obtain⟨p,hp,hd'⟩:=aF hd;rw[dO] at hp;rw[hs];exact hN p (CO hp) d hd'
   (have fg:a.tmps[d]?=some (a.tmps.getD d undef):=by simp[hdN]);simp only[Be,bu,fg];generalize a.tmps.getD d undef=u at hv;rw[pd,SS];constructor
   .intro h;have hu:u= .bool want:=by
     split at h
     .rename_i b hb;simp at hb h;rw[hb,h]
     .simp at h
    have:=hv.V3 hu;cases hh:tm.get d with
    |none=>rw[hh] at this;cases this
    |some q=>rw[hh] at this;exact eC some this
   .intro h;rw[h] at hv;rw[hv.tc];simp
theorem dg.lt {n m:Nat}(hA:∀i,A i->i<n)(h:n<=m):∀i,dg A n m i->i<m:=by
 rintro i (h1|h1)
 .have:=hA i h1;omega
 .exact h1.2
theorem dg.self {n:Nat}{i:Nat}:dg A n n i↔A i:=by
 constructor
 .rintro(h|h)
  .exact h
  .omega
 .exact .inl
theorem dg.join {n m k:Nat}(h1:n<=m)(h2:m<=k){i:Nat}(h:dg (dg A n m) m k i):dg A n k i:=by
 rcases h with(h|h)|h
 .exact .inl h
 .exact .inr ⟨h.1,af⟩
 .exact .inr ⟨af,h.2⟩
theorem od {o:Oper}(h:u7 N o=true):∀d,o.dst=some d->d<N:=by intro d hd;unfold u7 at h;rw[hd] at h;simp only[bI] at h;exact mR h.1
theorem Bv {o:Oper}(h:u7 N o=true):∀x∈o.op.operands,I6 x=true:=by unfold u7 at h;simp only[bI,fT] at h;intro x hx;exact h.2 x (by simpa using hx)
structure Left (P:Program)(X A:Nat->Prop)(ρ:ig)(N:Nat)(s s':St)(w:World)(a:Act)(jC:Tm)(a':Act)(w':World):Prop where
 defers:a'.defers=a.defers
 left:∃eb,N2 (dg A s.next s'.next) eb N jC a'/\Good P X A ρ s s' w w' eb
theorem Av (aG:List Oper)(o:Oper)(l:List Oper)(tm:Tm)(s:St):KW E call aG (o::l) tm s=bo (ib aG tm o.guard) (ob (GI E call (aO tm) s o.op) λp=>match p with
        |(v,s)=>tm.put o.dst v λtm=>KW E call aG l tm s)
   (tm.put o.dst (.tuple ⟨[]⟩) λtm=>KW E call aG l tm s):=rfl
theorem u9 (a:Act)(d:Option Tmp)(v:Value):(a.put d v).defers=a.defers:=by cases d<;>rfl
theorem I8 (hE:cW E P)(hC:dK P call)(aG:List Oper)(kD:∀o∈aG,u7 N o=true):∀(l:List Oper)(k:Nat)(tm:Tm)(s:St){jC:Tm}{s':St},l=aG.drop k->KW E call aG l tm s=some (jC,s')->
  aH s s'/\∀X A ρ w a Q,pb P X A ρ s s' w->Gl A ρ->N2 A ρ N tm a->(∀a' w',Left P X A ρ N s s' w a jC a' w'->Q Exit.normal a' w')->wpOps P ⟨aG⟩ Q (List.range' k l.length) a w
 |[],k,tm,s,jC,s',hl,h=>by
  have:=iU h;simp only[cw] at this;obtain⟨rfl,rfl⟩:=this;refine⟨aH.refl s,λX A ρ w a Q hp hg ht hQ=>?_⟩;exact hQ a w ⟨rfl,ρ,ht.mono (λi hi=>.inl hi) (λ_ _=>rfl),Good.refl hp.st hp.dI⟩
 |o::l,k,tm,s,jC,s',hl,h=>by
  have hk:aG[k]?=some o:=by
   have:=eC (·[0]?) hl;simpa using this.symm
  have jA:l=aG.drop (k+1):=by
   have:=eC (List.drop 1) hl;simpa[mA,Nat.add_comm] using this
  have ho:o∈aG:=CO hk;have hoo:=kD o ho;rw[Av] at h;have aay:=od hoo;cases hw:ib aG tm o.guard with
  |true=>
   rw[hw,gA] at h;obtain⟨⟨v,s1⟩,h1,h2⟩:=aF h;simp only[Tm.put_eq] at h2;obtain⟨yO,og⟩:=I5 hE hC h1;obtain⟨Cr,V4⟩:=I8 hE hC aG kD l (k+1) _ _ jA h2;refine⟨yO.trans Cr,λX A ρ w a Q hp hg ht hQ=>?_⟩;rw[cU,wO];unfold wpOps;(have hko:(⟨aG⟩:Array Oper)[k]?=some o:=by simpa using hk);simp only[hko];rw[Au (A:=A) (ρ:=ρ) (tm:=tm) ht.1 (λp hp d hd=>od (kD p hp) d hd) (λj want _ d _=>ht.2 d),hw];simp only[if_true]
   left
   have VU:pb P X A ρ s s1 w:=⟨hp.lt,hp.dI,λb hb=>hp.cV b (Cr.cV b hb),hp.st⟩;refine Oper.wp_mono (λa1 w1 G1=>?_) (og X A ρ w a Q VU hg λx hx=>Cw (Bv hoo x hx) hg λt _=>ht.2 t);obtain⟨v',rfl,B3,hv,rb⟩:=G1;(have V5:∀i,A i->B3 i=ρ i:=λi hi=>rb.same i (by have:=hp.lt i hi;omega));have ht1:N2 (dg A s.next s1.next) B3 N (tm.gY o.dst v) (a.put o.dst v'):=(ht.mono (λi hi=>.inl hi) V5).put hv aay;(refine V4 X (dg A s.next s1.next) B3 w1 _ Q ⟨dg.lt hp.lt yO.next,rb.dI,hp.cV,rb.state⟩ (hg.mono (λi hi=>.inl hi) V5) ht1 λa2 w2 G2=>hQ a2 w2 ?_);obtain⟨hd,Fw,ht2,ad8⟩:=G2;refine⟨hd.trans (u9 _ _ _),Fw,ht2.mono (λi hi=>dg.join yO.next Cr.next hi) (λ_ _=>rfl),Good.trans hp.cV yO Cr hp.lt rb ad8⟩
  |false=>
   rw[hw,eG] at h;simp only[Tm.put_eq] at h;obtain⟨Cr,V4⟩:=I8 hE hC aG kD l (k+1) _ _ jA h;refine⟨Cr,λX A ρ w a Q hp hg ht hQ=>?_⟩;rw[cU,wO];unfold wpOps;(have hko:(⟨aG⟩:Array Oper)[k]?=some o:=by simpa using hk);simp only[hko];rw[Au (A:=A) (ρ:=ρ) (tm:=tm) ht.1 (λp hp d hd=>od (kD p hp) d hd) (λj want _ d _=>ht.2 d),hw];simp only[jN,pQ];(refine V4 X A ρ w _ Q hp hg (ht.put VR.undef aay) λa2 w2 G2=>hQ a2 w2 ?_);exact⟨G2.1.trans (u9 _ _ _),G2.2⟩
variable {aG:Array Oper}{Q:Exit->Act->World->Prop}{a0:Act}
def Aw (aG:Array Oper):Bool:=
 Region.noSelect aG&&(List.range aG.size).all λj=>match aG[j]? with
  |none=>true
  |some oj=>(match oj.guard with
    |none=>true
    |some (g,_)=>oj.after.any λe=>Region.binds .any e&&e.on== g)&&(oj.after.all λe=>!Region.binds .any e||decide (e.on<j))&&
   (List.range j).all λi=>match aG[i]? with
    |none=>true
    |some oi=>(oj.after.any λe=>Region.binds .any e&&e.on== i)||oi.apart aG oj
def gY (aG:Array Oper)(a0:Act)(has:Nat->Bool)(vals:Nat->Value):Nat->Act
 |0=>a0
 |k+1=>if has k then(gY aG a0 has vals k).put ((aG[k]?).bind (·.dst)) (vals k) else gY aG a0 has vals k
theorem V6 (a:Act)(d:Option Tmp)(v:Value):(a.put d v).tmps.size=a.tmps.size:=by cases d<;>simp[Act.put]
theorem oO (aG:Array Oper)(a0:Act)(has:Nat->Bool)(vals:Nat->Value)(k:Nat):(gY aG a0 has vals k).tmps.size=a0.tmps.size:=by
 induction k with
 |zero=>rfl
 |succ k ih=>unfold gY;split<;>simp[V6,ih]
theorem G3 (aG:Array Oper)(a0:Act){has has':Nat->Bool}{vals vals':Nat->Value}(k:Nat)(h:∀j,j<k->has j=has' j)(hv:∀j,j<k->has j=true->vals j=vals' j):gY aG a0 has vals k=gY aG a0 has' vals' k:=by
 induction k with
 |zero=>rfl
 |succ k ih=>
  unfold gY;rw[ih (λj hj=>h j af) (λj hj=>hv j af),<-h k af];split
  .rename_i hk;rw[hv k af hk]
  .rfl
theorem aaz (aG:Array Oper)(a0:Act){has:Nat->Bool}{vals:Nat->Value}{i:Nat}(v:Value)(hi:has i=false)(n:Nat)(hn:i<n)
  (hd:∀j,i<j->j<n->has j=true->∀d,(aG[i]?).bind (·.dst)=some d->(aG[j]?).bind (·.dst)≠some d):
  gY aG a0 (λj=>if j=i then true else has j) (λj=>if j=i then v else vals j) n=(gY aG a0 has vals n).put ((aG[i]?).bind (·.dst)) v:=by
 induction n with
 |zero=>omega
 |succ n ih=>
  unfold gY;rcases lq i n with h|h
  .rw[ih h (λj h1 h2=>hd j h1 af)];have gh:n≠i:=by omega
   simp only[gh,pQ];split
   .rename_i hk;rw[Act.put_comm _ _ _ (hd n h af hk)]
   .rfl
  .have:n=i:=by omega
   subst this;simp only[if_true,hi,jN,pQ];rw[G3 aG a0 n (has':=has) (vals':=vals) (λj hj=>by
      have:j≠n:=by omega
      simp[this]) (λj hj _=>by
           have:j≠n:=by omega
           simp[this])]
theorem FW {a b:Act}(d:Option Tmp)(v:Value)(x:Operand)(hs:a.tmps.size=b.tmps.size)(h:a.eval x=b.eval x):(a.put d v).eval x=(b.put d v).eval x:=by
 cases d with
 |none=>exact h
 |some d=>
  cases x with
  |tmp t=>
   simp only[Act.eval,Act.put,Qx,adV] at h⊢;by_cases sj:d=t
   .subst sj;simp only[if_true,hs]
   .simp only[if_neg sj];exact h
  |_=>rfl
theorem V7 (aG:Array Oper)(a0:Act){has:Nat->Bool}{vals:Nat->Value}(i:Nat)(x:Operand)(n:Nat)
  (h1:∀j,j<i->has j=false->∀d,(aG[j]?).bind (·.dst)=some d->x≠ .tmp d)
  (h2:∀j,i<=j->has j=true->∀d,(aG[j]?).bind (·.dst)=some d->x≠ .tmp d):
  (gY aG a0 has vals n).eval x=(gY aG a0 (λ_=>true) vals (min n i)).eval x:=by
 induction n with
 |zero=>simp[gY]
 |succ n ih=>
  rcases lq n i with h|h
  .rw[yA af] at ih;rw[yA af];unfold gY;simp only[if_true];by_cases hh:has n=true
   .rw[if_pos hh];exact FW _ _ _ (by rw[oO,oO]) ih
   .rw[if_neg hh,Act.eval_put (h1 n h (by simpa using hh))];exact ih
  .rw[Nat.min_eq_right af] at ih;rw[Nat.min_eq_right af]
   conv=>lhs;unfold gY
   by_cases hh:has n=true
   .rw[if_pos hh,Act.eval_put (h2 n h hh)];exact ih
   .rw[if_neg hh];exact ih
theorem yU {a b:Act}{d:Option Tmp}{v v':Value}(hs:a.tmps.size=b.tmps.size)(h:b.put d v=b.put d v'):a.put d v=a.put d v':=by
 cases d with
 |none=>rfl
 |some d=>
  simp only[Act.put] at h⊢;by_cases hd:d<b.tmps.size
  .have h3:=eC (λc=>c.tmps[d]?) h;simp[hd] at h3;rw[h3]
  .have e:∀u:Value,a.tmps.setIfInBounds d u=a.tmps:=λu=>Array.setIfInBounds_eq_of_size_le (by rw[hs];exact Nat.le_of_not_lt hd)
   rw[e,e]
theorem agV {P:Program}{o:Oper}{a b:Act}{u:World}{R:Value->World->Prop}{Q:Exit->Act->World->Prop}(hs:a.tmps.size=b.tmps.size)(he:execOp a.eval o=execOp b.eval o)
  (h:o.wp P b u (λb' w'=>∃v,b'=b.put o.dst v/\R v w') (λ_ _ _=>False)):o.wp P a u (λa' w'=>∃v,a'=a.put o.dst v/\R v w') Q:=by
 unfold Oper.wp at *
 rw[he];generalize(execOp b.eval o).run P u=r at *
 cases r with
 |ok n w'=>
  cases n with
  |value v=>obtain⟨v',h1,h2⟩:=h;exact⟨v',yU hs h1,h2⟩
  |skip=>obtain⟨v',h1,h2⟩:=h;exact⟨v',yU hs h1,h2⟩
  |defer d=>
   obtain⟨v',h1,_⟩:=h;have:=eC (λa=>a.defers.length) h1;cases hd:o.dst<;>simp[Act.put,hd] at this
  |enter f args=>
   refine Calls.mono h λe w'' he=>?_
   cases e with
   |returned v=>obtain⟨v',h1,h2⟩:=he;exact⟨v',yU hs h1,h2⟩
   |panicked c=>exact he.elim
   |outgrown=>obtain⟨_,_,hf⟩:=he;exact hf.elim
  |row f args=>exact Rows.mono h λv w'' ⟨v',h1,h2⟩=>⟨v',yU hs h1,h2⟩
  |_=>exact h.elim
 |halt x w'=>
  cases x with
  |panic v=>exact h.elim
  |_=>exact h.elim
theorem G4 {α:Type}{p q:α->Bool}:∀{L:List α},(∀x,q x=true->p x=true)->(∃x∈L,p x=true/\q x=false)->L.countP q<L.countP p
 |[],_,⟨x,hx,_⟩=>by simp at hx
 |y::L,h,⟨x,hx,hp,hq⟩=>by
  have hle:L.countP q<=L.countP p:=List.countP_mono_left λx _=>h x
  simp only[iA];rcases bH.1 hx with rfl|hx
  .simp[hp,hq];omega
  .have:=G4 (L:=L) h ⟨x,hx,hp,hq⟩;by_cases hy:q y=true
   .simp[hy,h y hy];omega
   .simp[hy];split<;>omega
theorem Bw {aG:Array Oper}(h:Aw aG=true):Region.noSelect aG=true/\∀j oj,aG[j]?=some oj->
  (∀e∈oj.after,Region.binds .any e=true->e.on<j)/\
  (∀i oi,i<j->aG[i]?=some oi->(∃e∈oj.after,Region.binds .any e=true/\e.on=i)\/oi.apart aG oj=true)/\
  (∀g b,oj.guard=some (g,b)->∃e∈oj.after,Region.binds .any e=true/\e.on=g):=by
 unfold Aw at h;rw[bI] at h;refine⟨h.1,λj oj hj=>?_⟩;have dz:j<aG.size:=(uK.1 hj).1;have h2:=(fT.1 h.2) j (kF.2 dz);simp only[hj,bI] at h2;obtain⟨⟨hg,ha⟩,hw⟩:=h2;refine⟨λe he hb=>?_,λi oi nI hi=>?_,λg b hgb=>?_⟩
 .have:=Array.all_eq_true_iff_forall_mem.1 ha e he;simpa[hb] using this
 .have:=(fT.1 hw) i (kF.2 nI);simp only[hi,mh] at this;rcases this with h|h
  .obtain⟨e,he,hb⟩:=Array.any_eq_true'.1 h;simp only[bI,Ae] at hb;exact .inl ⟨e,he,hb.1,hb.2⟩
  .exact .inr h
 .rw[hgb] at hg;obtain⟨e,he,hb⟩:=Array.any_eq_true'.1 hg;simp only[bI,Ae] at hb;exact⟨e,he,hb.1,hb.2⟩
theorem Lc {a b:Array Value}{d:Nat}(hs:a.size=b.size)(h:a.getD d undef=b.getD d undef):a[d]?=b[d]?:=by
 rcases lq d a.size with h1|h1
 .have h2:d<b.size:=by omega
  rw[Qy h1,Qy h2];simpa[h1,h2] using h
 .rw[Array.getElem?_eq_none h1,Array.getElem?_eq_none af]
def tC (aG:Array Oper)(L:Nat->Bool):Prop:=∀j oj,aG[j]?=some oj->L j=true->∀e∈oj.after,Region.binds .any e=true->L e.on=true
def gP {α:Type}(L:Nat->α)(i:Nat)(x:α):Nat->α:=λj=>if j=i then x else L j
theorem SU (gd:Aw aG=true)(Inv:(Nat->Bool)->(Nat->Value)->World->Prop)
  (pA:∀(L:Nat->Bool)(vals:Nat->Value)(w:World)(i:Nat)(o:Oper),aG[i]?=some o->L i=false->(∀e∈o.after,Region.binds .any e=true->L e.on=true)->tC aG L->(∀j,L j=true->j<aG.size)->Inv L vals w->
    (Region.wanted o (yielded aG (gY aG a0 (λ_=>true) vals i).tmps)=true->o.wp P (gY aG a0 (λ_=>true) vals i) w (λa' w'=>∃v,a'=(gY aG a0 (λ_=>true) vals i).put o.dst v/\Inv (gP L i true) (gP vals i v) w') (λ_ _ _=>False))/\
    (Region.wanted o (yielded aG (gY aG a0 (λ_=>true) vals i).tmps)=false->Inv (gP L i true) (gP vals i undef) w))
  (ad9:∀(L:Nat->Bool)(vals:Nat->Value)(w:World),(∀i,i<aG.size->L i=true)->Inv L vals w->Q .normal (gY aG a0 (λ_=>true) vals aG.size) w):
  ∀(fuel:Nat)(cb:Array Bool)(vals:Nat->Value)(u:World),cb.size=aG.size->tC aG (λi=>cb.getD i false)->Inv (λi=>cb.getD i false) vals u->
   (List.range aG.size).countP (λi=>!cb.getD i false)<=fuel->
   wpAny P .any aG Q fuel cb (gY aG a0 (λi=>cb.getD i false) vals aG.size) u:=by
 obtain⟨FA,Dg⟩:=Bw gd;have done:∀(cb:Array Bool)(vals:Nat->Value)(u:World),Inv (λi=>cb.getD i false) vals u->(∀i,i<aG.size->cb.getD i false=true)->
                                     Q .normal (gY aG a0 (λi=>cb.getD i false) vals aG.size) u:=λcb vals u hI bU=>by
  rw[G3 aG a0 (has':=λ_=>true) (vals':=vals) aG.size (λj hj=>bU j hj) (λ_ _ _=>rfl)];exact ad9 _ vals u bU hI
 have OK:∀(cb:Array Bool)(i:Nat),i<cb.size->cb.getD i true=cb.getD i false:=λcb i hi=>by simp[hi]
 have IV:∀(cb:Array Bool),cb.size=aG.size->∀k,cb.getD k false=true->k<aG.size:=λcb hs k hk=>by
  rcases lq k cb.size with h|h
  .omega
  .simp[Array.getElem?_eq_none h] at hk
 intro fuel;induction fuel with
 |zero=>
  intro cb vals u iX uA hI hc;have bU:∀i,i<aG.size->cb.getD i false=true:=λi hi=>by
   (have h0:(List.range aG.size).countP (λi=>!cb.getD i false)=0:=by omega);have:=uO.1 h0 i (kF.2 hi);simpa using this
  refine⟨?_,done cb vals u hI bU⟩;cases hr:Region.ready .any aG cb with
  |nil=>rfl
  |cons x xs=>
   (have hx:x∈Region.ready .any aG cb:=by rw[hr];simp);obtain⟨h0,o,ho,_⟩:=mem_ready.1 hx;have dz:x<aG.size:=(uK.1 ho).1;have h1:=bU x dz;rw[OK cb x af] at h0;rw[h0] at h1;cases h1
 |succ fuel ih=>
  intro cb vals u iX uA hI hc;refine⟨λhr=>done cb vals u hI ?_,λi hi=>?_⟩
  .intro i;induction i using Nat.strongRecOn with
   |ind i ihi=>
    intro dz;cases hl:cb.getD i false with
    |true=>rfl
    |false=>
     have hm:i∈Region.ready .any aG cb:=by
      rw[mem_ready];refine⟨by rw[OK cb i af];exact hl,aG[i],Qy dz,λe he Z9=>?_⟩;have h1:=(Dg i _ (Qy dz)).1 e he Z9;exact ihi e.on h1 af
     rw[hr] at hm;cases hm
  .obtain⟨h0,o,ho,va⟩:=mem_ready.1 hi;have dz:i<aG.size:=(uK.1 ho).1;have N3:cb.getD i false=false:=by rw[<-OK cb i af];exact h0
   obtain⟨ajZ,agW,akt⟩:=Dg i o ho;have jz:=pA (λi=>cb.getD i false) vals u i o ho N3 va uA (IV cb iX) hI;have aku:=Region.noSelect_spec FA;have Ld:∀d,d∈o.looksAt aG->(gY aG a0 (λi=>cb.getD i false) vals aG.size).eval (.tmp d)=(gY aG a0 (λ_=>true) vals i).eval (.tmp d):=λd0 hd0=>by
    have key:=V7 aG a0 (has:=λi=>cb.getD i false) (vals:=vals) i (.tmp d0) aG.size ?_ ?_
    .rw[Nat.min_eq_right af] at key;exact key
    .intro j hj hju d hd Fy;cases yV:aG[j]? with
     |none=>simp[yV] at hd
     |some oj=>
      simp only[yV,Be] at hd;rcases agW j oj hj yV with⟨e,he,Z9,Vf⟩|Kw
      .have:=va e he Z9;rw[Vf] at this;rw[this] at hju;cases hju
      .refine(Oper.apart_spec Kw).1 d hd ?_;cases Fy
       exact hd0
    .intro j hj hju d hd Fy;have gh:j≠i:=λe=>by rw[e,N3] at hju;cases hju
     cases yV:aG[j]? with
     |none=>simp[yV] at hd
     |some oj=>
      simp only[yV,Be] at hd;rcases(Dg j oj yV).2.1 i o af ho with⟨e,he,Z9,Vf⟩|Kw
      .have:cb.getD e.on false=true:=uA j oj yV hju e he Z9;rw[Vf,N3] at this;cases this
      .refine(Oper.apart_spec Kw).2.2 d hd ?_;cases Fy
       exact hd0
   have he:execOp (gY aG a0 (λi=>cb.getD i false) vals aG.size).eval o=execOp (gY aG a0 (λ_=>true) vals i).eval o:=by
    refine execOp_congr o (λcs b=>aku i o cs b ho) λx hx=>?_
    cases x with
    |tmp t=>exact Ld t (cA _ (List.mem_filterMap.2 ⟨.tmp t,by simpa using hx,rfl⟩))
    |_=>rfl
   have V8:Region.wanted o (yielded aG (gY aG a0 (λi=>cb.getD i false) vals aG.size).tmps)=Region.wanted o (yielded aG (gY aG a0 (λ_=>true) vals i).tmps):=by
    unfold Region.wanted;cases hg:o.guard with
    |none=>rfl
    |some p=>
     obtain⟨g,b⟩:=p;simp only
     congr 1
     unfold yielded;cases hd:(aG[g]?).bind (·.dst) with
     |none=>rfl
     |some d=>
      have h1:=Ld d (by
       unfold Oper.looksAt;refine dt _ ?_;rw[hg];simp only[hd];simp)
      simp only[Be];have akv:(gY aG a0 (λi=>cb.getD i false) vals aG.size).tmps.size=(gY aG a0 (λ_=>true) vals i).tmps.size:=by rw[oO,oO]
      have h2:(gY aG a0 (λi=>cb.getD i false) vals aG.size).tmps[d]?=(gY aG a0 (λ_=>true) vals i).tmps[d]?:=by
       exact Lc akv h1
      rw[h2]
   have fg:∀j,(cb.setIfInBounds i true).getD j false=if j=i then true else cb.getD j false:=λj=>by
    by_cases sT:j=i
    .subst sT;simp[iX,dz]
    .simp only[sT,pQ];exact getD_set_ne false (Ne.symm sT)
   have aea:gP (λj=>cb.getD j false) i true=λj=>(cb.setIfInBounds i true).getD j false:=funext λj=>(fg j).symm
   have aaA:∀v,gY aG a0 (λj=>(cb.setIfInBounds i true).getD j false) (gP vals i v) aG.size=(gY aG a0 (λi=>cb.getD i false) vals aG.size).put o.dst v:=λv=>by
    have N4:=aaz aG a0 (has:=λi=>cb.getD i false) (vals:=vals) (i:=i) v N3 aG.size dz (λj nI hjn Z8 d hd=>by
     simp only[ho,Be] at hd;cases yV:aG[j]? with
     |none=>simp
     |some oj=>
      simp only[Be];rcases(Dg j oj yV).2.1 i o nI ho with⟨e,he,Z9,Vf⟩|Kw
      .have:cb.getD e.on false=true:=uA j oj yV Z8 e he Z9;rw[Vf,N3] at this;cases this
      .exact(Oper.apart_spec Kw).2.1 d hd)
    simp only[ho,Be] at N4;rw[<-N4,<-aea];rfl
   have agX:tC aG (λj=>(cb.setIfInBounds i true).getD j false):=λj oj yV hj e he Z9=>by
    show(cb.setIfInBounds i true).getD e.on false=true;rw[fg];by_cases Vf:e.on=i
    .simp[Vf]
    .rw[if_neg Vf];by_cases sT:j=i
     .subst sT;rw[ho] at yV;cases yV;exact va e he Z9
     .have SV:(cb.setIfInBounds i true).getD j false=true:=hj;rw[fg,if_neg sT] at SV;exact uA j oj yV SV e he Z9
   have I9:(List.range aG.size).countP (λj=>!(cb.setIfInBounds i true).getD j false)<=fuel:=by
    have:=G4 (p:=λi=>!cb.getD i false) (q:=λj=>!(cb.setIfInBounds i true).getD j false) (L:=List.range aG.size) (λx hx=>by
     rw[fg] at hx;by_cases hxi:x=i
     .simp[hxi] at hx
     .simpa[hxi] using hx) ⟨i,kF.2 dz,by simp only[N3];rfl,by simp only[fg,if_true];rfl⟩
    omega
   unfold wpOp;simp only[ho];rw[V8];by_cases hw:Region.wanted o (yielded aG (gY aG a0 (λ_=>true) vals i).tmps)=true
   .rw[if_pos hw];refine .inl ?_;refine Oper.wp_mono (λa' w' ⟨v,ha,hI'⟩=>?_) (agV (Q:=Q) (by rw[oO,oO]) he (jz.1 hw));subst ha;rw[<-aaA v];rw[aea] at hI';exact ih _ _ w' (by simpa using iX) agX hI' I9
   .rw[if_neg hw];rw[<-aaA undef];have hI':=jz.2 (by simpa using hw);rw[aea] at hI';exact ih _ _ u (by simpa using iX) agX hI' I9
theorem FY {id:Nat}{W:World}(hm:P.follows .mixedOrders=true)(gd:Aw aG=true)(Inv:(Nat->Bool)->(Nat->Value)->World->Prop)
  (pA:∀(L:Nat->Bool)(vals:Nat->Value)(w:World)(i:Nat)(o:Oper),aG[i]?=some o->L i=false->(∀e∈o.after,Region.binds .any e=true->L e.on=true)->tC aG L->(∀j,L j=true->j<aG.size)->Inv L vals w->
    (Region.wanted o (yielded aG (gY aG a0 (λ_=>true) vals i).tmps)=true->o.wp P (gY aG a0 (λ_=>true) vals i) w (λa' w'=>∃v,a'=(gY aG a0 (λ_=>true) vals i).put o.dst v/\Inv (gP L i true) (gP vals i v) w') (λ_ _ _=>False))/\
    (Region.wanted o (yielded aG (gY aG a0 (λ_=>true) vals i).tmps)=false->Inv (gP L i true) (gP vals i undef) w))
  (ad9:∀(L:Nat->Bool)(vals:Nat->Value)(w:World),(∀i,i<aG.size->L i=true)->Inv L vals w->Q .normal (gY aG a0 (λ_=>true) vals aG.size) w)
  (h0:Inv (λ_=>false) (λ_=>undef) W.drew):(Code.region id aG true).wp P Q a0 W:=by
 refine wp_region_any hm ?_;have z6:∀i,(Array.replicate aG.size false).getD i false=false:=λi=>by by_cases h:i<aG.size<;>simp[h]
 have hf:(λi=>(Array.replicate aG.size false).getD i false)=λ_=>false:=funext z6
 have:=SU gd Inv pA ad9 aG.size (Array.replicate aG.size false) (λ_=>undef) W.drew ay (by rw[hf];intro j oj _ h;cases h) (by rw[hf];exact h0) (by
  refine gu (Gq) ay)
 have hlz:∀k,gY aG a0 (λi=>(Array.replicate aG.size false).getD i false) (λ_=>undef) k=a0:=λk=>by
  induction k with
  |zero=>rfl
  |succ k ih=>
   unfold gY;rw[if_neg (by rw[z6];decide),ih]
 rw[hlz] at this;exact this
section
variable {aG:List Oper}
theorem Dh (cV:Array Nat):∀(es:List Edge)(m:Nat)(i:Nat),(es.foldl (λs e=>if Region.binds .any e then s||| 2^ e.on||| cV.getD e.on 0 else s) m).testBit i=true->
  m.testBit i=true\/∃e∈es,Region.binds .any e=true/\(i=e.on\/(cV.getD e.on 0).testBit i=true)
 |[],m,i,h=>.inl h
 |e::es,m,i,h=>by
  rw[Ah] at h;rcases Dh cV es _ i h with h1|⟨e',he,hb,h2⟩
  .split at h1
   .rename_i hb;simp only[Nat.testBit_or,mh] at h1;rcases h1 with(h1|h1)|h1
    .exact .inl h1
    .rw[Nat.testBit_two_pow] at h1;exact .inr ⟨e,ay,hb,.inl (Bf h1).symm⟩
    .exact .inr ⟨e,ay,hb,.inr h1⟩
   .exact .inl h1
  .exact .inr ⟨e',by simp[he],hb,h2⟩
def anc (aG:List Oper)(j k:Nat):Prop:=∀L:Nat->Bool,tC ⟨aG⟩ L->(∀oj,aG[j]?=some oj->∀e∈oj.after,Region.binds .any e=true->L e.on=true)->L k=true
theorem Bx (dz:∀j oj,aG[j]?=some oj->∀e∈oj.after,Region.binds .any e=true->e.on<j)(L:Nat->Bool)(hL:tC ⟨aG⟩ L):∀(l:List Oper)(cV:Array Nat),(∃pre,aG=pre++l/\pre.length=cV.size)->
  (∀j oj,j<cV.size->aG[j]?=some oj->(∀e∈oj.after,Region.binds .any e=true->L e.on=true)->∀i,(cV.getD j 0).testBit i=true->L i=true)->
  ∀j oj,aG[j]?=some oj->(∀e∈oj.after,Region.binds .any e=true->L e.on=true)->∀i,((l.foldl (λcV o=>cV.push (o.after.foldl (λs e=>if Region.binds .any e then s||| 2^ e.on||| cV.getD e.on 0 else s) 0)) cV).getD j 0).testBit i=true->L i=true
 |[],cV,⟨pre,h1,h2⟩,kL,j,oj,hj,ha,i,hi=>by
  simp only[gJ] at h1;subst h1;have FJ:j<cV.size:=by rw[<-h2];exact(sV.1 hj).1
  exact kL j oj FJ hj ha i hi
 |o::l,cV,⟨pre,h1,h2⟩,kL,j,oj,hj,ha,i,hi=>by
  rw[Ah] at hi;refine Bx dz L hL l _ ⟨pre++[o],by rw[h1];simp,by simp[h2]⟩ (λj' N5 hj' aeb ha' i' fb=>?_) j oj hj ha i hi;have ho:aG[cV.size]?=some o:=by rw[h1,<-h2];simp
  rcases lq j' cV.size with FJ|hge
  .have:(cV.push (o.after.foldl (λs e=>if Region.binds .any e then s||| 2^ e.on||| cV.getD e.on 0 else s) 0)).getD j' 0=cV.getD j' 0:=by
    simp[Array.getElem?_push,Nat.ne_of_lt FJ]
   rw[this] at fb;exact kL j' N5 FJ aeb ha' i' fb
  .have SV:j'=cV.size:=by simp at hj';omega
   subst SV;rw[ho] at aeb;cases aeb;have:(cV.push (o.after.foldl (λs e=>if Region.binds .any e then s||| 2^ e.on||| cV.getD e.on 0 else s) 0)).getD cV.size 0=o.after.foldl (λs e=>if Region.binds .any e then s||| 2^ e.on||| cV.getD e.on 0 else s) 0:=by
    simp
   rw[this,<-Array.foldl_toList] at fb;rcases Dh cV _ _ _ fb with h3|⟨e,he,hb,h3⟩
   .simp at h3
   .have he':e∈o.after:=by simpa using he
    rcases h3 with rfl|h3
    .exact ha' e he' hb
    .have Vf:=dz _ _ ho e he' hb;have hoe:∃oe,aG[e.on]?=some oe:=by
      (have:e.on<aG.length:=by rw[h1];simp;omega);exact⟨aG[e.on],bc this⟩
     obtain⟨oe,hoe⟩:=hoe;exact kL e.on oe Vf hoe (λe2 he2 Vg=>hL e.on oe (by simpa using hoe) (ha' e he' hb) e2 he2 Vg) i' h3
theorem xz (dz:∀j oj,aG[j]?=some oj->∀e∈oj.after,Region.binds .any e=true->e.on<j){j i:Nat}{oj:Oper}(hj:aG[j]?=some oj)(h:((Region.before ⟨aG⟩).getD j 0).testBit i=true):anc aG j i:=by
 intro L hL ha;refine Bx dz L hL aG #[] ⟨[],rfl,rfl⟩ (λj oj h=>by simp at h) j oj hj (ha oj hj) i ?_;have:(Region.before ⟨aG⟩)=aG.foldl (λcV o=>cV.push (o.after.foldl (λs e=>if Region.binds .any e then s||| 2^ e.on||| cV.getD e.on 0 else s) 0)) #[]:=by
  unfold Region.before;rw[<-Array.foldl_toList]
 rw[this] at h;exact h
theorem G5 {j k i:Nat}(hk:anc aG j k)(hi:anc aG k i):anc aG j i:=λL hL ha=>
 hi L hL λok gd e he hb=>hL k ok (by simpa using gd) (hk L hL ha) e he hb
theorem OL {j:Nat}{oj:Oper}(hj:aG[j]?=some oj){e:Edge}(he:e∈oj.after)(hb:Region.binds .any e=true):anc aG j e.on:=λL _ ha=>ha oj hj e he hb
theorem V9 (dz:∀j oj,aG[j]?=some oj->∀e∈oj.after,Region.binds .any e=true->e.on<j){j k:Nat}(h:anc aG j k):k<j:=by
 have:=h (λi=>decide (i<j)) (λi oi hoi hi e he hb=>by
  have h1:=dz i oi (by simpa using hoi) e he hb;simp at hi⊢;omega) (λoj hj e he hb=>by simpa using dz j oj hj e he hb)
 simpa using this
end
structure pB (E:iq)(call:ff)(aG:List Oper)(j n:Nat)(TM:Nat->Tm)(S:Nat->St)(V:Nat->Value)(S':Nat->St):Prop where
 step:∀i o,j<=i->i<n->aG[i]?=some o->TM (i+1)=(TM i).gY o.dst (V i)/\S (i+1)=eD (S' i)/\
  ((ib aG (TM i) o.guard=true/\GI E call (aO (TM i)) (S i) o.op=some (V i,S' i))\/(ib aG (TM i) o.guard=false/\V i= .tuple ⟨[]⟩/\S' i=S i))
 clear:∀i,j<=i->i<=n->(S i).cV=0/\(S i).wr=0
 apart:∀i k,j<=i->i<k->k<n->((Region.before ⟨aG⟩).getD k 0).testBit i=true\/((∀b,¬(In (S' i).wr b/\In (S' k).cV b))/\(∀b,¬(In (S' i).cV b/\In (S' k).wr b)))
theorem G6 {a b:Nat}(h:Nat.beq (Nat.land a b) 0=true)(i:Nat):¬(In a i/\In b i):=by
 have h1:(a&&& b)=0:=nV h;rintro⟨h2,h3⟩;have:(a&&& b).testBit i=true:=by rw[Nat.testBit_and,h2,h3];rfl
 rw[h1] at this;simp at this
theorem G7 {b a r:Nat}:∀{l:List Seen},An b a r l=true->∀x∈l,b.testBit x.i=true\/((∀c,¬(In x.wr c/\In a c))/\(∀c,¬(In x.cV c/\In r c)))
 |[],_,x,hx=>by cases hx
 |y::l,h,x,hx=>by
  have h':bo (bo (Nat.beq (Nat.land y.wr a) 0) (Nat.beq (Nat.land y.cV r) 0) false||Nat.testBit b y.i) (An b a r l) false=true:=h;rw[dJ] at h';split at h'
  .rename_i hc;rcases bH.1 hx with rfl|hx
   .rw[mh,dJ] at hc;rcases hc with hc|hc
    .split at hc
     .rename_i h1;exact .inr ⟨G6 h1,G6 hc⟩
     .cases hc
    .exact .inl hc
   .exact G7 h' x hx
  .cases h'
theorem xA (aG:List Oper)(o:Oper)(l:List Oper)(j:Nat)(tm:Tm)(s:St)(seen:List Seen):uU E call aG (o::l) j tm s seen=bo (ib aG tm o.guard) (ob (GI E call (aO tm) (eD s) o.op) λp=>match p with
        |(v,s')=>uT aG j s s' seen λs seen=>tm.put o.dst v λtm=>uU E call aG l (Nat.succ j) tm s seen)
   (tm.put o.dst (.tuple ⟨[]⟩) λtm=>uU E call aG l (Nat.succ j) tm s seen):=rfl
theorem jD (s:St):eD s=⟨s.heap,s.next,0,0⟩:=by cases s;rfl
theorem re (b:Nat):¬In 0 b:=by simp[In]
def agY (E:iq)(call:ff)(aG:List Oper)(j n:Nat)(tm:Tm)(s:St)(seen:List Seen)(jC:Tm)(s':St):Prop:=
    ∃TM S V S',pB E call aG j (n) TM S V S'/\TM j=tm/\S j=eD s/\TM (n)=jC/\S (n)=eD s'/\
     (∀i,j<=i->i<n->(∀b,In (S' i).cV b->In s'.cV b)/\(∀b,In (S' i).wr b->In s'.wr b))/\(∀b,In s.cV b->In s'.cV b)/\(∀b,In s.wr b->In s'.wr b)/\
     (∀b,In s'.cV b->In s.cV b\/∃i,j<=i/\i<n/\In (S' i).cV b)/\(∀b,In s'.wr b->In s.wr b\/∃i,j<=i/\i<n/\In (S' i).wr b)/\
     (∀i,j<=i->i<n->∀x∈seen,((Region.before ⟨aG⟩).getD i 0).testBit x.i=true\/((∀b,¬(In x.wr b/\In (S' i).cV b))/\(∀b,¬(In x.cV b/\In (S' i).wr b))))
theorem Di (hE:cW E P)(hC:dK P call)(aG:List Oper):∀(l:List Oper)(j:Nat)(tm:Tm)(s:St)(seen:List Seen){jC:Tm}{s':St},l=aG.drop j->uU E call aG l j tm s seen=some (jC,s')->
  agY E call aG j (j+l.length) tm s seen jC s'
 |[],j,tm,s,seen,jC,s',hl,h=>by
  have:=iU h;simp only[cw] at this;obtain⟨rfl,rfl⟩:=this;refine⟨λ_=>tm,λ_=>eD s,λ_=>undef,λ_=>eD s,⟨λi o h1 h2=>by simp at h2;omega,λi h1 h2=>by rw[jD];exact⟨rfl,rfl⟩,λi k h1 h2 h3=>by simp at h3;omega⟩,rfl,rfl,rfl,rfl,λi h1 h2=>by simp at h2;omega,λ_ h=>h,λ_ h=>h,λ_ h=>.inl h,λ_ h=>.inl h,λi h1 h2=>by simp at h2;omega⟩
 |o::l,j,tm,s,seen,jC,s',hl,h=>by
  have hk:aG[j]?=some o:=by
   have:=eC (·[0]?) hl;simpa using this.symm
  have jA:l=aG.drop (j+1):=by
   have:=eC (List.drop 1) hl;simpa[mA,Nat.add_comm] using this
  rw[xA] at h;have glue:∀(v:Value)(s1:St)(s2:St)(Lf:List Seen),uU E call aG l (j+1) (tm.gY o.dst v) s2 Lf=some (jC,s')->eD s2=eD s1->
                       ((ib aG tm o.guard=true/\GI E call (aO tm) (eD s) o.op=some (v,s1))\/(ib aG tm o.guard=false/\v= .tuple ⟨[]⟩/\s1=eD s))->
                       (∀b,In s1.cV b->In s2.cV b)->(∀b,In s1.wr b->In s2.wr b)->(∀b,In s.cV b->In s2.cV b)->(∀b,In s.wr b->In s2.wr b)->(∀b,In s2.cV b->In s.cV b\/In s1.cV b)->(∀b,In s2.wr b->In s.wr b\/In s1.wr b)->
                       (∀x∈seen,x∈Lf)->((∃x∈Lf,x.i=j/\x.cV=s1.cV/\x.wr=s1.wr)\/((∀b,¬In s1.cV b)/\∀b,¬In s1.wr b))->
                       (∀x∈seen,((Region.before ⟨aG⟩).getD j 0).testBit x.i=true\/((∀b,¬(In x.wr b/\In s1.cV b))/\(∀b,¬(In x.cV b/\In s1.wr b))))->agY E call aG j (j+(o::l).length) tm s seen jC s':=by
   intro v s1 s2 Lf hd hc pA ha1 N6 ha2 SJ ha3 hw3 QW Dj akw;obtain⟨TM,S,V,S',dP,e1,e2,e3,e4,jf,hA,hW,hA2,hW2,Lh⟩:=Di hE hC aG l (j+1) (tm.gY o.dst v) s2 Lf jA hd;(have cX:j+(o::l).length=j+1+l.length:=by simp;omega);rw[cX];refine⟨λi=>if i=j then tm else TM i,λi=>if i=j then eD s else S i,λi=>if i=j then v else V i,λi=>if i=j then s1 else S' i,⟨λi oi h1 h2 hoi=>?_,λi h1 h2=>?_,λi k h1 h2 h3=>?_⟩,?_,?_,?_,?_,λi h1 h2=>?_,λb hb=>hA b (ha2 b hb),λb hb=>hW b (SJ b hb),λb hb=>?_,λb hb=>?_,λi h1 h2 x hx=>?_⟩
   .by_cases nI:i=j
    .subst nI;rw[hk] at hoi;cases hoi;simp only[if_true,show ¬i+1=i by omega,pQ];refine⟨e1,?_,?_⟩
     .rw[e2];exact hc
     .exact pA
    .simp only[nI,pQ,show ¬i+1=j by omega];exact dP.step i oi af h2 hoi
   .by_cases nI:i=j
    .subst nI;rw[if_pos rfl,jD];exact⟨rfl,rfl⟩
    .simp only[nI,pQ];exact dP.clear i af h2
   .have SX:¬k=j:=by omega
    simp only[SX,pQ];by_cases nI:i=j
    .subst nI;simp only[if_true];rcases Dj with⟨x,hx,hxi,hxa,hxw⟩|⟨q1,q2⟩
     .have:=Lh k af h3 x hx;rw[hxi,hxa,hxw] at this;exact this
     .exact .inr ⟨λb hb=>q2 b hb.1,λb hb=>q1 b hb.1⟩
    .simp only[nI,pQ];exact dP.apart i k af h2 h3
   .simp
   .simp
   .simp only[show ¬j+1+l.length=j by omega,pQ];exact e3
   .simp only[show ¬j+1+l.length=j by omega,pQ];exact e4
   .by_cases nI:i=j
    .simp only[nI,if_true];exact⟨λb hb=>hA b (ha1 b hb),λb hb=>hW b (N6 b hb)⟩
    .simp only[nI,pQ];exact jf i af h2
   .rcases hA2 b hb with h4|⟨i,h5,h6,h7⟩
    .rcases ha3 b h4 with h4|h4
     .exact .inl h4
     .exact .inr ⟨j,cC _,af,by simpa using h4⟩
    .exact .inr ⟨i,af,h6,by simpa[show ¬i=j by omega] using h7⟩
   .rcases hW2 b hb with h4|⟨i,h5,h6,h7⟩
    .rcases hw3 b h4 with h4|h4
     .exact .inl h4
     .exact .inr ⟨j,cC _,af,by simpa using h4⟩
    .exact .inr ⟨i,af,h6,by simpa[show ¬i=j by omega] using h7⟩
   .by_cases nI:i=j
    .subst nI;simp only[if_true];exact akw x hx
    .simp only[nI,pQ];exact Lh i af h2 x (QW x hx)
  cases hw:ib aG tm o.guard with
  |true=>
   rw[hw,gA] at h;obtain⟨⟨v,s1⟩,h1,h2⟩:=aF h;obtain⟨yO,_⟩:=I5 (o:=o) hE hC h1;have agZ:∀b,In s1.wr b->In s1.cV b:=yO.sub (λb hb=>by rw[jD] at hb;exact absurd hb (re b));obtain⟨h0,n0,a0,r0⟩:=s;obtain⟨hh,nn,aa,rr⟩:=s1;simp only[uT,Tm.put_eq] at h2;cases hz:Nat.beq aa 0 with
   |true=>
    rw[hz,gA] at h2;have haa:aa=0:=nV hz;subst haa;(have SL:∀b,¬In rr b:=λb hb=>re b (agZ b hb));exact glue v ⟨hh,nn,0,rr⟩ ⟨hh,nn,a0,r0⟩ seen h2 rfl (.inl ⟨hw,h1⟩) (λb hb=>absurd hb (re b)) (λb hb=>absurd hb (SL b)) (λb hb=>hb) (λb hb=>hb) (λb hb=>.inl hb) (λb hb=>.inl hb) (λx hx=>hx) (.inr ⟨re,SL⟩) (λx hx=>.inr ⟨λb hb=>re b hb.2,λb hb=>SL b hb.2⟩)
   |false=>
    rw[hz,eG] at h2;obtain⟨h3,h4⟩:=IP h2;simp only[QI] at h4;refine glue v ⟨hh,nn,aa,rr⟩ ⟨hh,nn,a0||| aa,r0||| rr⟩ (⟨j,aa,rr⟩::seen) h4 rfl (.inl ⟨hw,h1⟩) (λb hb=>(rH _ _ _).2 (.inr hb)) (λb hb=>(rH _ _ _).2 (.inr hb)) (λb hb=>(rH _ _ _).2 (.inl hb)) (λb hb=>(rH _ _ _).2 (.inl hb)) (λb hb=>(rH _ _ _).1 hb) (λb hb=>(rH _ _ _).1 hb) (λx hx=>iV _ hx) (.inl ⟨⟨j,aa,rr⟩,ay,rfl,rfl,rfl⟩) (G7 h3)
  |false=>
   rw[hw,eG] at h;simp only[Tm.put_eq] at h;(have hca:∀b,¬In (eD s).cV b:=λb=>by rw[jD];exact re b);(have hcw:∀b,¬In (eD s).wr b:=λb=>by rw[jD];exact re b);exact glue _ (eD s) s seen h (by simp[jD]) (.inr ⟨hw,rfl,rfl⟩) (λb hb=>absurd hb (hca b)) (λb hb=>absurd hb (hcw b)) (λb hb=>hb) (λb hb=>hb) (λb hb=>.inl hb) (λb hb=>.inl hb) (λx hx=>hx) (.inr ⟨hca,hcw⟩) (λx hx=>.inr ⟨λb hb=>hca b hb.2,λb hb=>hcw b hb.2⟩)
end Go.Ev
