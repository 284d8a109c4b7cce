/- Lemmas of the proof. No conditions. -/
import GoSem.Step
import Derived.Control
import Derived.KernelRfl
import Derived.Lib.Builder
import Derived.Laws.CopyRow
import Derived.Laws.Rows
import Derived.Laws.Tables
import Derived.Lib.SmallJoins
import Derived.Great.FillDense
import Derived.Laws.MakeOwn
import Derived.Laws.BytesString
import Derived.Lib.UnsafeStr
import Derived.Orders
set_option maxRecDepth 100000
set_option maxHeartbeats 4000000
set_option linter.unusedVariables false
set_option linter.unusedSimpArgs false
namespace Go
theorem zag{P:Prop}(h:P:=by
 have h1:Nat.mul (Nat.sub cap eH) sz=(cap-eH)*sz:=rfl;have h2:Nat.add o (Nat.mul len sz)=o+len*sz:=rfl;cases wd with
 |true=>
  obtain⟨r7,r8,r9,r10⟩:=r5 rfl;rw[nT hE iW] at r8 r9;refine UT (c:=sz) ?_ r9;rw[mK,<-r8];omega
 |false=>
  have h3:sz=1:=o7 hw;have h4:=(r6 rfl).2;rw[h3,z7] at h1 h2;rw[h3] at ho c8;simp only[Nat.mul_eq,z7] at ho c8 h1 h2;omega
 all_goals(rcases(_:_)with h;exact h)):P:=h
theorem zaP{P:Prop}(h:P:=by
 obtain⟨h0,h⟩:=Vd h;rw[jH] at h0;simp only[rS] at h;subst h;have h1:b≠0:=by simpa using h0
 exact⟨by simp[binOp,Op.intDiv,jU,h1],λρ=>by simp⟩
 all_goals(rcases(_:_)with h;exact h)):P:=h
theorem zaQ{P:Prop}(h:P:=by
 have:=aG h;simp only[cx] at this;obtain⟨rfl,rfl⟩:=this;exact⟨aF.refl _,λX A ρ w a Q hp gL hx=>wp_pure rfl hp (hx x (by simp[Op.operands]))⟩
 all_goals(rcases(_:_)with h;exact h)):P:=h
theorem zaX{P:Prop}(h:P:=by
 obtain⟨x,xs,rfl,hu,Vo,R7,Vp⟩:=LR.split h1 h2;rw[xh] at h;obtain⟨b,hb,h3⟩:=aC h;have hk:x.key=p.1:=by rw[<-hu.self,yD hb]
 all_goals(rcases(_:_)with h;exact h)):P:=h
theorem za1{P:Prop}(h:P:=by
 induction n with
 |zero=>intro l;show l=l.drop 0;simp
 |succ n ih=>intro l;cases l with
  |nil=>rfl
  |cons x xs=>exact ih xs
 all_goals(rcases(_:_)with h;exact h)):P:=h
theorem za8{P:Prop}(h:P:=by
 refine⟨l.map (bY ρ),by rw[<-h.self];simp,λeI e=>?_⟩;have:=(h eI e).trans h.self.symm;simpa using this
 all_goals(rcases(_:_)with h;exact h)):P:=h
theorem za9{P:Prop}(h:P:=by
 have fK:∀c o2,s.heap.get c=some o2->c≠s.next:=by
  rintro c o2 h rfl;rw[kK _ (cA _)] at h;cases h
 all_goals(rcases(_:_)with h;exact h)):P:=h
end Go
namespace Go
abbrev aK:=Option Addr
abbrev aQ:=List Value
theorem ag {P:Prop}(h:P:=by omega):P:=h
theorem cV {P:Prop}(h:P:=by kernel_rfl):P:=h
abbrev CA:=@Nat.beq_eq
abbrev US:=@Nat.pow_succ
abbrev pg:=@if_false
abbrev fI:=@congrArg
abbrev j6:=@Option.some.inj
abbrev x_5:=@List.take_succ_cons
abbrev BI:=@List.cons_append
abbrev ux:=@List.length_map
abbrev vp:=@List.map_cons
abbrev J7:=@List.map_append
abbrev Fl:=@List.map_congr_left
abbrev kO:=@List.mem_map
abbrev cA:=@Nat.le_refl
abbrev mS:=@Bool.or_eq_true
abbrev bU:=@Bool.and_eq_true
abbrev bQ:=@decide_eq_true_eq
abbrev wc:=@Nat.eq_zero_or_pos
abbrev ik:=@Nat.le_trans
abbrev lq:=@Nat.lt_or_ge
abbrev yb:=@Nat.lt_of_lt_of_le
abbrev yc:=@Array.getElem?_eq_some_iff
abbrev J8:=@Option.ne_none_iff_exists'
abbrev J9:=@List.getElem?_take
abbrev ix:=@List.append_nil
abbrev mJ:=@List.length_nil
abbrev wY:=@Nat.add_zero
abbrev yd:=@List.take_append_drop
abbrev zX:=@Bool.and_eq_false_iff
abbrev mb:=@decide_eq_false_iff_not
abbrev cY:=@List.length_cons
abbrev bJ:=@List.length_append
abbrev iJ:=@Nat.zero_le
abbrev qF:=@Nat.le_of_ble_eq_true
abbrev rS:=@Option.some.injEq
abbrev cx:=@Prod.mk.injEq
abbrev gd:=@List.length_drop
abbrev ye:=@List.drop_eq_nil_of_le
abbrev pT:=@List.nil_append
abbrev RH:=@List.drop_append_of_le_length
abbrev BJ:=@List.take_append_of_le_length
abbrev zY:=@List.getElem?_append_right
abbrev wZ:=@List.getElem?_append_left
abbrev ug:=@List.getElem?_eq_some_iff
abbrev jQ:=@Bool.false_eq_true
abbrev oZ:=@Bool.eq_iff_iff
abbrev RI:=@Nat.succ_le_iff
abbrev lR:=@Nat.ble_eq
abbrev zZ:=@beq_iff_eq
abbrev w6:=@UInt8.toNat_inj
abbrev RJ:=@UInt8.lt_iff_toNat_lt
abbrev ZH:=@BitVec.ofInt_natCast
abbrev ZI:=@BitVec.toNat_ofNat
abbrev Ic:=@Nat.mod_eq_of_lt
abbrev Ka:=@true_and
abbrev z6:=@and_true
abbrev iV:=@List.mem_cons_self
abbrev lu:=@List.mem_cons_of_mem
abbrev Ie:=@Bool.not_true
abbrev Ig:=@Bool.not_false
abbrev o7:=@Nat.eq_of_beq_eq_true
abbrev Kb:=@Int.natCast_nonneg
abbrev wg:=@Array.ext'
abbrev il:=@Nat.ble_eq_true_of_le
abbrev Fm:=@Nat.sub_self
abbrev wh:=@Option.map_some
abbrev Ih:=@Nat.zero_mul
abbrev UT:=@Nat.le_of_mul_le_mul_right
abbrev mK:=@Nat.add_mul
abbrev z7:=@Nat.mul_one
abbrev wi:=@List.foldl_cons
abbrev UU:=@List.ext_getElem?
abbrev BK:=@List.getElem?_map
abbrev RL:=@List.getElem?_range
abbrev RM:=@Nat.mod_lt
abbrev rT:=@List.getElem?_eq_none
abbrev Fo:=@List.mapM_cons
abbrev UW:=@Nat.le_mul_of_pos_right
abbrev uy:=@Int.toNat_natCast
abbrev CB:=@List.drop_zero
abbrev Kc:=@Nat.mul_le_mul_right
abbrev NO:=@List.take_take
abbrev BL:=@Nat.min_eq_left
abbrev Kd:=@List.getElem?_toArray
abbrev ZJ:=@List.getElem?_cons_zero
abbrev ZK:=@List.getElem?_cons_succ
abbrev nF:=@Nat.zero_add
abbrev kG:=@List.append_assoc
abbrev cZ:=@List.length_take
abbrev mT:=@List.eq_nil_of_length_eq_zero
abbrev qG:=@List.take_of_length_le
abbrev NP:=@List.mem_of_mem_take
abbrev eX:=@List.mem_append
abbrev NQ:=@Array.getElem?_modify
abbrev pU:=@Bool.not_eq_true'
abbrev ry:=@List.length_replicate
abbrev yf:=@Bool.true_and
abbrev adq:=@Array.getElem?_setIfInBounds
abbrev pV:=@Option.getD_some
abbrev UX:=@Array.mem_append
abbrev ZL:=@Array.getElem?_append_left
abbrev P3:=@Array.getD_eq_getD_getElem?
abbrev Ke:=@List.mem_of_getElem?
abbrev AV:=@Option.bind_some
abbrev gQ:=@List.all_eq_true
abbrev mm:=@List.drop_drop
abbrev wv:=@List.range'_succ
abbrev iC:=@List.countP_cons
abbrev bR:=@List.mem_cons
abbrev lS:=@List.mem_range
abbrev P4:=@Array.getElem?_eq_getElem
abbrev uz:=@List.countP_eq_zero
abbrev cP:=@List.mem_append_left
abbrev dz:=@List.mem_append_right
abbrev F3:=@List.countP_le_length
abbrev yg:=@of_decide_eq_true
abbrev bd:=@List.getElem?_eq_getElem
abbrev rU:=@Nat.le_of_lt
abbrev CC:=@Nat.lt_trichotomy
abbrev mo:=@List.flatMap_cons
abbrev nK:=@List.sublist_append_right
abbrev Kf:=@List.Sublist.append
abbrev F4:=@List.Sublist.refl
abbrev aR:=@List.getD_eq_getElem?_getD
abbrev qP:=@List.nodup_append
abbrev ph:=@List.mem_flatMap
abbrev tT:=@List.singleton_append
abbrev uA:=@List.nodup_cons
abbrev AW:=@List.take_append
abbrev yh:=@List.getElem?_drop
abbrev lL:=@Nat.beq_refl
abbrev Kg:=@Bool.and_true
abbrev F5:=@Bool.and_self
abbrev jR:=@Bool.not_eq_true
abbrev CD:=@List.flatMap_append
abbrev gR:=@List.mem_singleton
abbrev yi:=@Int.toNat_of_nonneg
abbrev dt:=@decide_eq_true
abbrev gS:=@decide_eq_false
abbrev iR:=@List.not_mem_nil
abbrev qQ:=@List.flatMap_nil
abbrev wx:=@false_or
abbrev iY:=@or_false
abbrev Kh:=@not_false_eq_true
abbrev CE:=@List.nodup_nil
abbrev CF:=@Bool.not_eq_false'
abbrev CG:=@Bool.or_eq_false_iff
abbrev F6:=@Bool.not_eq_eq_eq_not
abbrev wy:=@Bool.not_eq_false
abbrev gX:=@List.take_length
abbrev wz:=@List.take_add_one
abbrev wA:=@List.drop_eq_getElem_cons
abbrev UY:=@Int.tdiv_eq_ediv_of_nonneg
abbrev F7:=@List.all_append
abbrev F8:=@List.all_eq_false
abbrev iD:=@List.drop_length
abbrev wB:=@Int.eq_ofNat_of_zero_le
abbrev F9:=@Bool.or_eq_true_iff
abbrev Ga:=@List.map_nil
abbrev Gb:=@List.any_eq_true
abbrev oC:=@List.findIdx?_eq_some_iff_getElem
abbrev CH:=@List.findIdx?_eq_none_iff
abbrev iZ:=@List.getElem_of_mem
abbrev oD:=@List.length_pos_iff
abbrev yj:=@Int.le_refl
abbrev tU:=@List.filter_cons
abbrev qR:=@List.mem_filter
abbrev P5:=@List.getElem_replicate
abbrev ju:=@Option.isSome_iff_exists
abbrev pW:=@List.filter_append
abbrev pj:=@List.Perm.append_left
abbrev oE:=@List.perm_append_comm_assoc
abbrev UZ:=@List.replicate_append_replicate
abbrev CI:=@List.filter_eq_self
abbrev AX:=@List.filter_sublist
abbrev U0:=@List.getElem?_take_of_lt
abbrev qS:=@List.getElem_mem
abbrev gE:=@List.length_set
abbrev Gc:=@List.mem_or_eq_of_mem_set
abbrev CJ:=@List.Perm.append_right
abbrev Ge:=@Nat.mul_comm
abbrev Gf:=@Nat.lt_irrefl
abbrev jS:=@List.pairwise_cons
abbrev AY:=@List.getD_cons_succ
abbrev tV:=@List.pairwise_iff_getElem
abbrev Gg:=@decide_eq_decide
abbrev AZ:=@List.range_succ
abbrev A1:=@List.countP_append
abbrev lT:=@Classical.byContradiction
abbrev P6:=@List.mem_erase_of_ne
abbrev Gh:=@List.length_pos_of_mem
abbrev P7:=@List.length_erase_of_mem
abbrev A3:=@List.nodup_iff_pairwise_ne
abbrev A4:=@List.pairwise_map
abbrev Gi:=@List.countP_congr
abbrev jT:=@Bool.false_ne_true
abbrev P8:=@List.pairwise_singleton
abbrev P9:=@List.Pairwise.nil
abbrev Ki:=@List.countP_nil
abbrev Kj:=@Bool.false_and
abbrev CK:=@List.length_filter_le
abbrev A5:=@List.length_singleton
abbrev Qb:=@List.length_reverse
abbrev Kk:=@List.getD_cons_zero
abbrev Qc:=@List.findIdx?_cons
abbrev Kl:=@List.sum_append
abbrev CL:=@List.sum_cons
abbrev Gj:=@List.countP_pos_iff
abbrev U1:=@List.getElem?_replicate
abbrev Qd:=@Nat.lt_succ_iff_lt_or_eq
abbrev Km:=@List.length_range
abbrev Gk:=@List.forIn_cons
abbrev A6:=@getElem!_pos
end Go
namespace Go.Ev
open Go
section
inductive T (α:Type) where
 |nil
 |node (v:Option α) (l r:T α)
noncomputable section
def bo {α:Type}(b:Bool)(x y:α):α:=Bool.rec y x b
def ob {α β:Type}(o:Option α)(k:α->Option β):Option β:=Option.rec none k o
def eg {β:Type}(b:Bool)(k:Option β):Option β:=Bool.rec none k b
def T.get {α:Type}(t:T α):Nat->Option α:=
 T.rec (λ_=>none) (λv _ _ gl gr n=>bo (Nat.beq n (nat_lit 0)) v (bo (Nat.beq (Nat.mod n (nat_lit 2)) (nat_lit 1)) (gl (Nat.div n (nat_lit 2))) (gr (Nat.pred (Nat.div n (nat_lit 2)))))) t
def T.now {α β:Type}(t:T α)(k:T α->β):β:=T.rec (k .nil) (λv l r _ _=>k (.node v l r)) t
def T.af2 {α:Type}(ih:T α->Nat->T α)(v:Option α)(l r:T α)(n:Nat)(x:Option α):T α:=
 bo (Nat.beq n (nat_lit 0)) (.node x l r) (bo (Nat.beq (Nat.mod n (nat_lit 2)) (nat_lit 1)) ((ih l (Nat.div n (nat_lit 2))).now λl=>.node v l r) ((ih r (Nat.pred (Nat.div n (nat_lit 2)))).now λr=>.node v l r))
def T.set {α:Type}(d:Nat)(t:T α)(n:Nat)(x:Option α):T α:=
 Nat.rec (λt _=>t) (λ_ ih t n=>T.rec (T.af2 ih none .nil .nil n x) (λv l r _ _=>T.af2 ih v l r n x) t) d t n
def w7 {β:Type}(n:Nat)(k:Nat->β):β:=Nat.rec (k (nat_lit 0)) (λm _=>k (Nat.succ m)) n
def adr {β:Type}(n:Int)(k:Int->β):β:=Int.rec (λm=>w7 m λm=>k (.ofNat m)) (λm=>w7 m λm=>k (.negSucc m)) n
def af3 {β:Type}(b:Bool)(k:Bool->β):β:=Bool.rec (k false) (k true) b
def ZM {β:Type}(a:aK)(k:aK->β):β:=match a with
 |none=>k none
 |some ⟨b,o,s⟩=>w7 b λb=>w7 o λo=>k (some ⟨b,o,s⟩)
def ads {β:Type}(a:aK)(l c:Nat)(k:Value->β):β:=ZM a λa=>w7 l λl=>w7 c λc=>k (.slice a l c)
def U2 {β:Type}(v:Value)(k:Value->β):β:=match v with
 |.bool b=>af3 b λb=>k (.bool b)
 |.int j n=>adr n λn=>k (.int j n)
 |.pointer a=>ZM a λa=>k (.pointer a)
 |.slice a l c=>ads a l c k
 |.agg ⟨cs⟩=>k (.agg ⟨cs⟩)
 |.tuple ⟨cs⟩=>k (.tuple ⟨cs⟩)
 |.string ⟨⟨cs⟩⟩=>k (.string ⟨⟨cs⟩⟩)
 |v=>k v
inductive gF where
 |cells (c:aQ) (elem:TypeId) (wide:Bool)
 |map (es:List (Value×Value))
 |lM (z:List UInt8) (p:Nat)
 |tW (m:Nat)
 |uh (ws:List (Nat×aQ))
structure St where
 heap:T gF
 next:Nat
 cO:Nat
 wr:Nat
def eH:Nat:=9223372036854775808
def bit (b:Nat):Nat:=Nat.shiftLeft (nat_lit 1) b
def St.look (s:St)(b:Nat):Option gF:=s.heap.get b
def St.aV (s:St)(b:Nat):St:=match s with
 |⟨h,n,a,r⟩=>w7 (Nat.lor a (bit b)) λa=>⟨h,n,a,r⟩
def St.put (s:St)(b:Nat)(o:Option gF):St:=match s with
 |⟨h,n,a,r⟩=>(h.set (Nat.succ b) b o).now λh=>w7 (Nat.lor a (bit b)) λa=>w7 (Nat.lor r (bit b)) λr=>⟨h,n,a,r⟩
def St.new (s:St)(o:gF):St:=match s with
 |⟨h,n,a,r⟩=>(h.set (Nat.succ n) n (some o)).now λh=>w7 (Nat.lor a (bit n)) λa=>w7 (Nat.lor r (bit n)) λr=>w7 (Nat.succ n) λn=>⟨h,n,a,r⟩
def cellsOf (o:gF):Option (aQ×TypeId×Bool):=match o with
 |.cells c e w=>some (c,e,w)
 |_=>none
def mapOf (o:gF):Option (List (Value×Value)):=match o with
 |.map es=>some es
 |_=>none
def St.row {β:Type}(s:St)(b:Nat)(k:aQ->TypeId->Bool->St->Option β):Option β:=
 ob (s.look b) λo=>match o with
  |.cells c e w=>k c e w (s.aV b)
  |_=>none
def yk:List (Nat×aQ)->Nat->Option (Nat×aQ)
 |[],_=>none
 |p::l,off=>bo (Nat.ble p.1 off&&Nat.ble (Nat.succ (Nat.sub off p.1)) p.2.length) (some p) (yk l off)
def St.Ko {β:Type}(s:St)(b off:Nat)(k:aQ->Nat->St->Option β):Option β:=
 ob (s.look b) λo=>match o with
  |.cells c _ _=>k c off (s.aV b)
  |.uh ws=>ob (yk ws off) λp=>k p.2 (Nat.sub off p.1) (s.aV b)
  |_=>none
structure dA where
 fn:T Func
 ty:T TypeInfo
 U3:TypeId
 eqs:List (TypeId×List Nat)
 rV:List (TypeId×String×FuncId)
variable (E:dA)
def mc (t:TypeId)(m:String)(l:List (TypeId×String×FuncId)):Option FuncId:=List.rec none (λp _ ih=>bo (Nat.beq p.1 t&&decide (p.2.1=m)) (some p.2.2) ih) l
def af4 (i:TypeInfo):Option TypeDesc:=match i.desc with
 |.named _ u=>ob (E.ty.get u) λi=>some i.desc
 |d=>some d
def ja (t:TypeId):Option TypeDesc:=ob (E.ty.get t) (af4 E)
def size (t:TypeId):Option Nat:=ob (E.ty.get t) λi=>some i.size
def z8 (d:TypeDesc):Bool:=match d with
 |.struct _=>true
 |.array .. =>true
 |_=>false
def zero (t:TypeId):Option Value:=ob (E.ty.get t) (·.zero)
def iS (n:Nat):aQ->Option (aQ):=
 Nat.rec (λ_=>some []) (λ_ ih l=>match l with
  |[]=>none
  |x::xs=>ob (ih xs) λr=>some (x::r)) n
def dY (n:Nat):aQ->aQ:=Nat.rec (λl=>l) (λ_ ih l=>match l with
    |[]=>[]
    |_::xs=>ih xs) n
def pr (vs:aQ):aQ->Option (aQ):=
 List.rec (λl=>some l) (λv _ ih l=>match l with
  |[]=>none
  |_::xs=>ob (ih xs) λr=>some (v::r)) vs
def fP (n:Nat)(vs:aQ):aQ->Option (aQ):=
 Nat.rec (pr vs) (λ_ ih l=>match l with
  |[]=>none
  |x::xs=>ob (ih xs) λr=>some (x::r)) n
def flat (v:Value):Bool:=match v with
 |.agg _=>false
 |.tuple _=>false
 |_=>true
def jv (l:aQ):Bool:=List.rec true (λv _ ih=>bo (flat v) ih false) l
def ek {α:Type}(l:List α):Nat:=List.rec (nat_lit 0) (λ_ _ ih=>Nat.succ ih) l
def jb {α:Type}(l:List α):Nat->Option α:=List.rec (λ_=>none) (λx _ ih n=>Nat.rec (some x) (λm _=>ih m) n) l
def bW (v:Value):aQ:=match v with
 |.agg ⟨cs⟩=>cs
 |v=>[v]
def mq (s:St)(t:TypeId)(b off:Nat):Option (Value×St):=
 s.Ko b off λc off s=>ob (ja E t) λd=>bo (z8 d)
   (ob (size E t) λn=>ob (iS n (dY off c)) λcs=>some (.agg ⟨cs⟩,s))
   (ob (jb c off) λv=>some (v,s))
def mU (s:St)(t:TypeId)(b off:Nat)(v:Value):Option (Value×St):=
 s.row b λc e w s=>ob (size E t) λn=>eg (Nat.beq (ek (bW v)) n)<| eg (jv (bW v))<|
   ob (fP off (bW v) c) λcs=>some (.tuple ⟨[]⟩,s.put b (some (.cells cs e w)))
def Fa {β:Type}(v:Value)(k:Nat->Nat->Option β):Option β:=match v with
 |.pointer (some ⟨b,o,none⟩)=>k b o
 |_=>none
def UB (x y:Int):Bool:=match x,y with
 |.ofNat a,.ofNat b=>Nat.ble (Nat.succ a) b
 |.ofNat _,.negSucc _=>false
 |.negSucc _,.ofNat _=>true
 |.negSucc a,.negSucc b=>Nat.ble (Nat.succ b) a
def yl (x y:Int):Bool:=match x,y with
 |.ofNat a,.ofNat b=>Nat.beq a b
 |.negSucc a,.negSucc b=>Nat.beq a b
 |_,_=>false
def half (k:IntKind):Nat:=match k with
 |.i8=>128|.u8=>128
 |.i16=>32768|.u16=>32768
 |.i32=>2147483648|.u32=>2147483648
 |.i64=>9223372036854775808|.u64=>9223372036854775808
def pX (k:IntKind)(n:Int):Int:=match n with
 |.ofNat m=>bo (Nat.ble (Nat.succ m) (half k)) (.ofNat m) (k.wrap (.ofNat m))
 |.negSucc m=>k.wrap (.negSucc m)
def ab5 (k:IntKind):Nat:=match k with
 |.i8=>nat_lit 0|.u8=>nat_lit 1|.i16=>nat_lit 2|.u16=>nat_lit 3|.i32=>nat_lit 4|.u32=>nat_lit 5|.i64=>nat_lit 6|.u64=>nat_lit 7
def pY (k j:IntKind):Bool:=Nat.beq (ab5 k) (ab5 j)
def gp (x:List UInt8):List UInt8->Bool:=List.rec (λy=>match y with
    |[]=>true
    |_::_=>false) (λa _ ih y=>match y with
    |[]=>false
    |b::y=>bo (Nat.beq a.toNat b.toNat) (ih y) false) x
def ot (x:List UInt8):List UInt8->Bool:=List.rec (λy=>match y with
    |[]=>false
    |_::_=>true) (λa _ ih y=>match y with
    |[]=>false
    |b::y=>bo (Nat.ble (Nat.succ a.toNat) b.toNat) true (bo (Nat.beq a.toNat b.toNat) (ih y) false)) x
def ZN (d:TypeDesc)(x y:Value):Option Bool:=match d,x,y with
 |.bool,.bool a,.bool b=>some (a== b)
 |.pointer _,.pointer none,.pointer b=>some (Option.isNone b)
 |.pointer _,.pointer (some _),.pointer none=>some false
 |.pointer t,.pointer (some ⟨b,o,none⟩),.pointer (some ⟨b',o',none⟩)=>ob (size E t) λ_=>eg (Nat.beq b b'&&Nat.beq o o') (some true)
 |.slice _,.slice none _ _,.slice b _ _=>some (Option.isNone b)
 |.slice _,.slice (some _) _ _,.slice none _ _=>some false
 |.func ..,.nilFunc,.nilFunc=>some true
 |.func ..,.nilFunc,.func .. =>some false
 |.func ..,.func ..,.nilFunc=>some false
 |_,_,_=>none
def aL {β:Type}(v:Value)(s:β):Option (Value×β):=some (v,s)
def af5 (k:IntKind)(a b:Int):Option Value:=match k,a,b with
 |.u8,.ofNat a,.ofNat b=>eg (Nat.ble (Nat.succ a) (nat_lit 256)&&Nat.ble (Nat.succ b) (nat_lit 256)) (some (.int .u8 (.ofNat (Nat.xor a b))))
 |.i64,.ofNat a,.ofNat b=>eg (Nat.ble (Nat.succ a) (nat_lit 4611686018427387904)&&Nat.ble (Nat.succ b) (nat_lit 4611686018427387904)) (some (.int .i64 (.ofNat (Nat.xor a b))))
 |_,_,_=>none
def Kq (op:BinOp)(k:IntKind)(a b:Int):Option Value:=match op with
 |.add=>some (.int k (pX k (Int.add a b)))
 |.sub=>some (.int k (pX k (Int.sub a b)))
 |.mul=>some (.int k (pX k (Int.mul a b)))
 |.quo=>bo (yl b (.ofNat (nat_lit 0))) none (some (.int k (pX k (a.tdiv b))))
 |.rem=>bo (yl b (.ofNat (nat_lit 0))) none (some (.int k (a.tmod b)))
 |.eql=>some (.bool (yl a b))
 |.neq=>some (.bool !(yl a b))
 |.lss=>some (.bool (UB a b))
 |.leq=>some (.bool !(UB b a))
 |.gtr=>some (.bool (UB b a))
 |.geq=>some (.bool !(UB a b))
 |.xor=>af5 k a b
 |_=>none
def U4 (op:BinOp)(a b:List UInt8):Option Value:=match op with
 |.add=>eg (Nat.ble (Nat.add (ek a) (ek b)) (nat_lit 1000000000)) (some (.string ⟨⟨a++b⟩⟩))
 |.eql=>some (.bool (gp a b))
 |.neq=>some (.bool !(gp a b))
 |.lss=>some (.bool (ot a b))
 |.geq=>some (.bool !(ot a b))
 |.gtr=>some (.bool !(bo (ot a b) true (gp a b)))
 |.leq=>some (.bool (bo (ot a b) true (gp a b)))
 |_=>none
def CM (op:BinOp)(r:Option Bool):Option Value:=match op with
 |.eql=>ob r λb=>some (.bool b)
 |.neq=>ob r λb=>some (.bool !b)
 |_=>none
def lO (x y:Value):Option Bool:=match x,y with
 |.int .i64 a,.int .i64 b=>some (yl a b)
 |.string ⟨⟨a⟩⟩,.string ⟨⟨b⟩⟩=>some (gp a b)
 |.bool a,.bool b=>some (bo a b (!b))
 |_,_=>none
def fO (xs:aQ):aQ->Option Bool:=List.rec (λys=>match ys with
    |[]=>some true
    |_::_=>none) (λx _ ih ys=>match ys with
    |[]=>none
    |y::ys=>ob (lO x y) λe=>ob (ih ys) λr=>some (bo e r false)) xs
def ym (v:Value):Nat:=match v with
 |.int .i64 _=>nat_lit 0
 |.string _=>nat_lit 1
 |.bool _=>nat_lit 2
 |_=>nat_lit 3
def eV (xs:aQ):List Nat->Bool:=List.rec (λks=>match ks with
    |[]=>true
    |_::_=>false) (λv _ ih ks=>match ks with
    |[]=>false
    |k::ks=>bo (Nat.beq (ym v) k) (bo (Nat.ble k (nat_lit 2)) (ih ks) false) false) xs
def yn (t:TypeId)(xs:aQ)(l:List (TypeId×List Nat)):Bool:=List.rec false (λp _ ih=>bo (bo (Nat.beq t p.1) (eV xs p.2) false) true ih) l
def ZO (x:Operand):Bool:=match x with
 |.const _=>true
 |_=>false
def isIface (d:TypeDesc):Bool:=match d with
 |.interface _=>true
 |_=>false
def CN (a b:Nat):Nat:=bo (Nat.ble a b) a b
def Gm (k:IntKind):Nat:=match k with
 |.i8=>nat_lit 8|.u8=>nat_lit 8|.i16=>nat_lit 16|.u16=>nat_lit 16|.i32=>nat_lit 32|.u32=>nat_lit 32|.i64=>nat_lit 64|.u64=>nat_lit 64
def adt (op:BinOp):Bool:=match op with
 |.shl=>true
 |.shr=>true
 |_=>false
def shV (op:BinOp)(k:IntKind)(a b:Int):Option Value:=match op,a,b with
 |.shr,.ofNat a,.ofNat b=>some (.int k (.ofNat (Nat.shiftRight a (CN b (Gm k)))))
 |.shl,.ofNat a,.ofNat b=>some (.int k (pX k (.ofNat (Nat.shiftLeft a (CN b (Gm k))))))
 |_,_,_=>none
def RN (op:BinOp)(t:TypeId)(c:Bool)(x y:Value):Option Value:=match x,y with
 |.int k a,.int k' b=>bo (adt op) (shV op k a b) (bo (pY k k') (Kq op k a b) none)
 |.string ⟨⟨a⟩⟩,.string ⟨⟨b⟩⟩=>U4 op a b
 |.nilIface,.nilIface=>eg c<| ob (ja E t) λd=>eg (isIface d)<| CM op (some true)
 |.agg ⟨xs⟩,.agg ⟨ys⟩=>eg (yn t xs E.eqs)<| CM op (fO xs ys)
 |x,y=>ob (ja E t) λd=>CM op (ZN E d x y)
def pw (v:Value)(y:Nat):Option Nat:=match v with
 |.int _ (.ofNat i)=>bo (Nat.ble i y) (some i) none
 |_=>none
def hiV (len m:Nat)(hi mx:Option Value):Option Nat:=match hi,mx with
 |some v,_=>pw v m
 |none,none=>some len
 |none,some _=>none
def RO (v:Option Value)(y z:Nat):Option Nat:=match v with
 |some v=>pw v y
 |none=>some z
def bounds {β:Type}(len cap:Nat)(lo hi mx:Option Value)(k:Nat->Nat->Nat->Option β):Option β:=
 ob (RO mx cap cap) λm=>ob (hiV len m hi mx) λh=>ob (RO lo h (nat_lit 0)) λl=>k l h m
def U5 {α:Type}(n:Nat):List α->List α:=Nat.rec (λ_=>[]) (λ_ ih l=>match l with
    |[]=>[]
    |x::xs=>x::ih xs) n
def U6 {α:Type}(n:Nat):List α->List α:=Nat.rec (λl=>l) (λ_ ih l=>match l with
    |[]=>[]
    |_::xs=>ih xs) n
def rW (a:aK)(n:Nat):aK:=match a with
 |none=>none
 |some ⟨b,o,s⟩=>bo (Nat.beq n (nat_lit 0)) (some ⟨b,o,s⟩) (some ⟨b,Nat.add o n,none⟩)
def ZP {α:Type}(o:Option α):Bool:=match o with
 |none=>true
 |some _=>false
def CO (z:List UInt8)(lo hi mx:Option Value):Option Value:=
 eg (ZP mx)<| bounds (ek z) (ek z) lo hi none λl h _=>some (.string ⟨⟨U5 (Nat.sub h l) (U6 l z)⟩⟩)
def ep (sz:Nat)(a:aK)(len cap:Nat)(lo hi mx:Option Value):Option Value:=
 bounds len cap lo hi mx λl h m=>some (.slice (bo (Nat.beq m l) a (rW a (Nat.mul l sz))) (Nat.sub h l) (Nat.sub m l))
def iE (elem:TypeId)(sz:Nat)(a:aK)(len cap:Nat)(lo hi mx:Option Value)(s:St):Option (Value×St):=match a with
 |some ⟨b,o,none⟩=>s.row b λc e w s=>eg (bo w true (Nat.beq sz (nat_lit 1))&&Nat.beq e elem&&Nat.beq o (Nat.mul (Nat.sub cap eH) sz)&&Nat.ble (Nat.add o (Nat.mul len sz)) (ek c))<| match mx with
  |none=>bounds len len lo hi none λl h _=>bo (Nat.beq l (nat_lit 0)||Nat.ble (Nat.succ l) h) (aL (.slice (some ⟨b,Nat.add o (Nat.mul l sz),none⟩) (Nat.sub h l) (Nat.add cap l)) s) (aL (.slice (some ⟨b,Nat.add o (Nat.mul l sz),some o⟩) (nat_lit 0) (Nat.add cap l)) s)
  |some mx=>eg (Nat.ble (Nat.succ len) eH)<| ob (ep sz (some ⟨b,o,none⟩) len len lo hi (some mx)) λv=>aL v s
 |_=>none
def nO (lo hi mx:Option Value):Bool:=match lo,hi,mx with
 |none,some (.int _ (.ofNat 0)),none=>true
 |_,_,_=>false
def nP (a:aK)(cap:Nat)(s:St):Option (Value×St):=match a with
 |some ⟨b,o,none⟩=>aL (.slice (some ⟨b,o,none⟩) (nat_lit 0) cap) s
 |_=>none
def Ii (a:aK):Bool:=match a with
 |some ⟨_,_,some _⟩=>false
 |_=>true
def kj (s:St)(t:TypeId)(x:Value)(lo hi mx:Option Value):Option (Value×St):=
 ob (ja E t) λd=>match d,x with
  |.string,.string ⟨⟨z⟩⟩=>ob (CO z lo hi mx) λv=>aL v s
  |.slice elem,.slice a len cap=>eg (Ii a)<| ob (size E elem) λsz=>bo (Nat.ble eH cap) (bo (nO lo hi mx) (nP a cap s) (iE elem sz a len cap lo hi mx s)) (ob (ep sz a len cap lo hi mx) λv=>aL v s)
  |.array n elem,.pointer (some ⟨b,o,none⟩)=>ob (size E elem) λsz=>eg (Nat.ble (Nat.succ n) eH)<| ob (ep sz (some ⟨b,o,none⟩) n n lo hi mx) λv=>aL v s
  |_,_=>none
def strCells (l:List UInt8):aQ:=List.rec [] (λc _ ih=>.int .u8 (.ofNat c.toNat)::ih) l
def Kr {β:Type}(s:St)(sz:Nat)(x:Value)(k:Nat->aQ->St->Option β):Option β:=match x with
 |.string ⟨⟨z⟩⟩=>eg (Nat.beq sz (nat_lit 1))<| k (ek z) (strCells z) s
 |.slice none n _=>eg (Nat.beq n (nat_lit 0))<| k (nat_lit 0) [] s
 |.slice (some ⟨b,o,none⟩) n _=>s.row b λc _ _ s=>ob (iS (Nat.mul n sz) (dY o c)) λcs=>k n cs s
 |.slice (some ⟨_,_,some _⟩) n _=>eg (Nat.beq n (nat_lit 0))<| k (nat_lit 0) [] s
 |_=>none
def isInt (d:TypeDesc):Bool:=match d with
 |.int _=>true
 |_=>false
def elemOf {β:Type}(t:Option TypeId)(k:TypeId->Option β):Option β:=ob t λt=>ob (ja E t) λd=>match d with
 |.slice e=>k e
 |_=>none
def bV (s:St)(len:Nat):Value:=.slice (some ⟨s.next,nat_lit 0,none⟩) len eH
def oF (elem:TypeId)(sz:Nat)(base:aK)(len cap n:Nat)(new:aQ)(s:St):Option (Value×St):=match base with
 |none=>eg (Nat.beq len (nat_lit 0)&&Nat.beq cap (nat_lit 0))<| bo (Nat.beq n (nat_lit 0)) (aL (.slice none (nat_lit 0) (nat_lit 0)) s)<| aL (bV s n) (s.new (.cells new elem true))
 |some ⟨b,o,none⟩=>s.row b λc e w s=>bo (Nat.ble eH cap)
  (eg (w&&Nat.beq e elem&&Nat.beq cap eH&&Nat.beq o (nat_lit 0))<| bo (Nat.beq (ek c) (Nat.mul len sz)) (bo (Nat.beq n (nat_lit 0)) (aL (.slice (some ⟨b,o,none⟩) len cap) s)<|
    (λs:St=>aL (bV s (Nat.add len n)) (s.new (.cells (c++new) elem true))) (s.put b none))<|
    eg (Nat.ble (Nat.add (Nat.mul len sz) (ek new)) (ek c))<| ob (iS (Nat.mul len sz) c) λold=>(λs:St=>aL (bV s (Nat.add len n)) (s.new (.cells (old++new) elem true))) (s.put b none))
  (bo (Nat.ble (Nat.add len n) cap)
    (bo (Nat.beq n (nat_lit 0)) (aL (.slice (some ⟨b,o,none⟩) len cap) s)<|
      ob (fP (Nat.add o (Nat.mul len sz)) new c) λcs=>aL (.slice (some ⟨b,o,none⟩) (Nat.add len n) cap) (s.put b (some (.cells cs e w))))
    (ob (iS (Nat.mul len sz) (dY o c)) λold=>aL (bV s (Nat.add len n)) (s.new (.cells (old++new) elem true))))
 |_=>none
def vq (s:St)(argTypes:List TypeId)(b x:Value):Option (Value×St):=
 elemOf E (jb argTypes (nat_lit 0)) λelem=>ob (jb argTypes (nat_lit 1)) λxt=>ob (ja E xt) λxd=>eg (!isInt xd)<| ob (E.ty.get elem) λi=>ob i.zero λz=>
  eg (Nat.ble (nat_lit 1) i.size&&Nat.ble i.bytes (nat_lit 1000000)&&Nat.beq (ek (bW z)) i.size)<|
  Kr s i.size x λn new s=>eg (Nat.beq (ek new) (Nat.mul n i.size))<| eg (jv new)<| match b with
   |.slice base len cap=>eg (Nat.ble (Nat.add len n) (nat_lit 1000000))<| oF elem i.size base len cap n new s
   |_=>none
def A7 (l:aQ):Option (List UInt8):=List.rec (some []) (λv _ ih=>match v with
    |.int .u8 (.ofNat k)=>eg (Nat.ble (Nat.succ k) (nat_lit 256))<| ob ih λr=>some (UInt8.ofNat k::r)
    |_=>none) l
def isByte (d:TypeDesc):Bool:=match d with
 |.int .u8=>true
 |_=>false
def NR (s:St)(a:aK)(n:Nat):Option (Value×St):=match a with
 |none=>aL (.string ⟨⟨[]⟩⟩) s
 |some ⟨b,o,none⟩=>s.row b λc _ _ s=>ob (iS n (dY o c)) λl=>ob (A7 l) λbs=>aL (.string ⟨⟨bs⟩⟩) s
 |some ⟨_,_,some _⟩=>eg (Nat.beq n (nat_lit 0))<| aL (.string ⟨⟨[]⟩⟩) s
def wC (s:St)(src dst:TypeId)(x:Value):Option (Value×St):=
 ob (ja E src) λds=>ob (ja E dst) λdd=>match ds,dd,x with
 |.int _,.int k,.int _ n=>aL (.int k (pX k n)) s
 |.slice e,.string,.slice a n _=>ob (ja E e) λd=>eg (isByte d)<| NR s a n
 |.pointer t,.unsafePointer,.pointer (some ⟨b,0,none⟩)=>s.row b λc _ w s=>ob (size E t) λsz=>eg (!w&&Nat.ble (nat_lit 1) (ek c)&&Nat.ble (nat_lit 1) sz)<| aL (.pointer (some ⟨b,0,none⟩)) s
 |.unsafePointer,.pointer u,.pointer (some ⟨b,0,none⟩)=>s.row b λc e w s=>ob (size E u) λ_=>eg (!w&&Nat.beq (ek c) (nat_lit 2)&&Nat.beq e E.U3&&Nat.beq u E.U3)<| aL (.pointer (some ⟨b,0,none⟩)) s
 |.string,.slice e,.string ⟨⟨z⟩⟩=>ob (ja E e) λd=>eg (isByte d)<| ob (size E e) λsz=>eg (Nat.beq sz (nat_lit 1)&&Nat.ble (ek z) (nat_lit 1000000))<| aL (bV s (ek z)) (s.new (.cells (strCells z) e false))
 |.slice _,.slice e,.slice (some ⟨b,o,none⟩) n c=>ob (ja E e) λd=>eg (isByte d&&Nat.beq src dst)<| s.row b λcs e' _ s=>ob (size E e') λsz=>ob (ja E e') λd'=>eg (isByte d'&&Nat.beq sz (nat_lit 1))<| aL (.slice (some ⟨b,o,none⟩) n c) (s.put b (some (.cells cs e' false)))
 |_,_,_=>none
def RP (t:TypeId)(x:Value):Option Value:=ob (ja E t) λd=>match d,x with
 |.string,.string ⟨⟨z⟩⟩=>some (.int .i64 (.ofNat (ek z)))
 |.slice _,.slice _ n _=>some (.int .i64 (.ofNat n))
 |_,_=>none
def places (fs:List Field):Option (List (Nat×Nat)):=List.rec (some []) (λf _ ih=>ob (size E f.type) λsz=>ob ih λr=>some ((f.offset,sz)::r)) fs
def sU (ev:Operand->Value)(l:List (Nat×Operand)):List (Nat×Value):=List.rec [] (λp _ ih=>(p.1,ev p.2)::ih) l
def rX (bM:Nat->Option (Nat×Nat))(l:List (Nat×Value)):aQ->Option (aQ):=
 List.rec (λcells=>some cells) (λp _ ih cells=>ob (bM p.1) λq=>eg (Nat.beq (ek (bW p.2)) q.2)<| ob (fP q.1 (bW p.2) cells) λcs=>ih cs) l
def lU (zs:aQ)(n:Nat):aQ:=Nat.rec [] (λ_ ih=>zs++ih) n
def oG (sz:Nat)(i:Nat):Option (Nat×Nat):=some (Nat.mul i sz,sz)
def kx (x y:Value):Option Bool:=match x,y with
 |.agg ⟨xs⟩,.agg ⟨ys⟩=>fO xs ys
 |.int k a,.int k' b=>eg (pY k k')<| some (yl a b)
 |.string ⟨⟨a⟩⟩,.string ⟨⟨b⟩⟩=>some (gp a b)
 |_,_=>none
def rY (k:Value)(l:List (Value×Value)):Option (Option Value):=
 List.rec (some none) (λp _ ih=>ob (kx k p.1) λb=>bo b (some (some p.2)) ih) l
def yo (kt:TypeId)(d:TypeDesc)(k:Value):Bool:=match d,k with
 |.struct _,.agg ⟨cs⟩=>yn kt cs E.eqs
 |.array _ _,.agg ⟨cs⟩=>yn kt cs E.eqs
 |.int _,.int _ _=>true
 |.string,.string _=>true
 |_,_=>false
def RQ (k:Value)(l:List (Value×Value)):Option (List (Value×Value)):=
 List.rec (some []) (λp r ih=>ob (kx k p.1) λb=>bo b (some r) (ob ih λr=>some (p::r))) l
def NS (k v:Value)(l:List (Value×Value)):Option (List (Value×Value)):=
 List.rec (some []) (λp r ih=>ob (kx k p.1) λb=>bo b (some ((k,v)::r)) (ob ih λr=>some (p::r))) l
def B6 (s:St)(t:TypeId)(b:Nat):Option (Value×St):=ob (ja E t) λd=>match d with
 |.map _ _=>ob (s.look b) λo=>ob (mapOf o) λes=>aL (.int .i64 (.ofNat (ek es))) (s.aV b)
 |_=>none
def af6 (t:TypeId)(x:Value)(s:St):Option (Value×St):=ob (ja E t) λd=>match d,x with
 |.slice _,.slice _ _ c=>eg (Nat.ble (Nat.succ c) eH)<| aL (.int .i64 (.ofNat c)) s
 |_,_=>none
def Qe (s:St)(argTypes:List TypeId)(m k:Value):Option (Value×St):=ob (jb argTypes (nat_lit 0)) λt=>ob (ja E t) λd=>match d,m with
 |.map kt _,.map (some b)=>ob (ja E kt) λkd=>eg (yo E kt kd k)<| ob (s.look b) λo=>ob (mapOf o) λes=>ob (RQ k es) λes=>aL (.tuple ⟨[]⟩) (s.put b (some (.map es)))
 |_,_=>none
def Ij (s:St)(t:TypeId)(x:Value):Option (Value×St):=ob (ja E t) λd=>match d,x with
 |.string,.string ⟨⟨z⟩⟩=>aL (.pointer (some ⟨s.next,nat_lit 0,none⟩)) (s.new (.lM z (nat_lit 0)))
 |.map _ _,.map (some b)=>ob (s.look b) λo=>ob (mapOf o) λ_=>(λs:St=>aL (.pointer (some ⟨s.next,nat_lit 0,none⟩)) (s.new (.tW b))) (s.aV b)
 |_,_=>none
def Gn (s:St)(b:Nat)(z:List UInt8)(p:Nat):Option (Value×St):=match jb z p with
 |none=>aL (.tuple ⟨[.bool false]⟩) (s.aV b)
 |some c=>eg (Nat.ble (Nat.succ c.toNat) (nat_lit 128))<| aL (.tuple ⟨[.bool true,.int .i64 (.ofNat p),.int .i32 (.ofNat c.toNat)]⟩) (s.put b (some (.lM z (Nat.succ p))))
def af7 (s:St)(b m:Nat):Option (Value×St):=ob (s.look m) λo=>ob (mapOf o) λes=>match es with
 |[]=>aL (.tuple ⟨[.bool false]⟩) ((s.aV b).aV m)
 |_::_=>none
def Ks (s:St)(x:Value)(str:Bool):Option (Value×St):=match x with
 |.pointer (some ⟨b,0,none⟩)=>ob (s.look b) λo=>match o with
  |.lM z p=>eg str<| Gn s b z p
  |.tW m=>eg (!str)<| af7 s b m
  |_=>none
 |_=>none
def ZQ (x y:Value)(s:St):Option (Value×St):=match x,y with
 |.int k a,.int k' b=>eg (pY k k')<| aL (.int k (bo (UB b a) b a)) s
 |_,_=>none
def ZR (x y:Value)(s:St):Option (Value×St):=match x,y with
 |.int k a,.int k' b=>eg (pY k k')<| aL (.int k (bo (UB a b) b a)) s
 |_,_=>none
def w8 (x:Value)(s:St):Option (Value×St):=match x with
 |.slice (some ⟨b,0,none⟩) _ cap=>eg (Nat.beq cap eH)<| s.row b λc _ w s=>eg (w&&Nat.ble (nat_lit 1) (ek c))<| aL (.pointer (some ⟨b,0,none⟩)) s
 |_=>none
def Aa (sz:Nat)(b o n k:Nat)(new:aQ)(s:St):Option (Value×St):=
 eg (jv new)<| ob (iS (Nat.mul (CN k n) sz) new) λnew=>s.row b λc e w s=>ob (fP o new c) λcs=>aL (.int .i64 (.ofNat (CN k n))) (s.put b (some (.cells cs e w)))
def copyV (s:St)(argTypes:List TypeId)(x y:Value):Option (Value×St):=match x with
 |.slice (some ⟨b,o,none⟩) n _=>elemOf E (jb argTypes (nat_lit 0)) λe=>ob (size E e) λsz=>Kr s sz y λk new s=>Aa sz b o n k new s
 |_=>none
def rz (ts:List TypeId)(x y:Value)(s:St):Option (Value×St):=match ts,x,y with
 |[pt,_],.pointer (some ⟨b,0,none⟩),.int .i64 (.ofNat n)=>s.row b λc e _ s=>ob (ja E pt) λd=>match d with
  |.pointer e'=>ob (size E e') λsz=>eg (Nat.beq e e'&&Nat.beq sz (nat_lit 1)&&Nat.ble (nat_lit 1) n&&Nat.ble n (nat_lit 1000000))<| ob (iS n c) λl=>ob (A7 l) λbs=>aL (.string ⟨⟨bs⟩⟩) (s.put b none)
  |_=>none
 |_,_,_=>none
def Ab (s:St)(argTypes:List TypeId)(x:Value):Option (Value×St):=match x with
 |.slice none _ _=>elemOf E (jb argTypes (nat_lit 0)) λ_=>aL (.tuple ⟨[]⟩) s
 |.slice (some ⟨b,o,q⟩) n _=>elemOf E (jb argTypes (nat_lit 0)) λe=>bo (Nat.beq n (nat_lit 0)) (aL (.tuple ⟨[]⟩) s) (eg (ZP q)<| s.row b λc e' w s=>
   ob (size E e) λsz=>ob (zero E e) λz=>eg (Nat.beq (ek (bW z)) sz&&Nat.ble (nat_lit 1) sz&&jv (bW z))<| ob (fP o (lU (bW z) n) c) λcs=>aL (.tuple ⟨[]⟩) (s.put b (some (.cells cs e' w))))
 |_=>none
def rZ (s:St)(b:Builtin)(argTypes:List TypeId)(x:Value):Option (Value×St):=match b with
 |.len=>ob (jb argTypes (nat_lit 0)) λt=>match x with
  |.map (some b)=>B6 E s t b
  |x=>ob (RP E t x) λv=>aL v s
 |.cap=>ob (jb argTypes (nat_lit 0)) λt=>af6 E t x s
 |.unsafeSliceData=>w8 x s
 |.clear=>Ab E s argTypes x
 |_=>none
def Kt (s:St)(b:Builtin)(argTypes:List TypeId)(x y:Value):Option (Value×St):=match b with
 |.append=>vq E s argTypes x y
 |.max=>ZR x y s
 |.min=>ZQ x y s
 |.delete=>Qe E s argTypes x y
 |.copy=>copyV E s argTypes x y
 |.unsafeString=>rz E argTypes x y s
 |_=>none
def w9 {α β:Type}(f:α->β)(l:List α):List β:=List.rec [] (λx _ ih=>f x::ih) l
def yp (ev:Operand->Value)(s:St)(b:Builtin)(argTypes:List TypeId)(args:List Operand):Option (Value×St):=match args with
 |[x]=>rZ E s b argTypes (ev x)
 |[x,y]=>Kt E s b argTypes (ev x) (ev y)
 |_=>none
def Qf (c:Value)(a b:Value)(s:St):Option (Value×St):=match c with
 |.bool c=>bo c (aL a s) (aL b s)
 |_=>none
def NT (s:St)(l:aQ)(t:TypeId):Option (Value×St):=aL (.pointer (some ⟨s.next,nat_lit 0,none⟩)) (s.new (.cells l t false))
def Ik (s:St)(t:TypeId):Option (Value×St):=ob (zero E t) λz=>NT s (bW z) t
def Il (ev:Operand->Value)(s:St)(t:TypeId)(parts:List (Nat×Operand)):Option (Value×St):=
 ob (zero E t) λz=>ob (ja E t) λd=>match d with
  |.struct ⟨fs⟩=>ob (places E fs) λpl=>ob (rX (jb pl) (sU ev parts) (bW z)) λcs=>aL (.agg ⟨cs⟩) s
  |.array _ e=>ob (size E e) λsz=>ob (rX (oG sz) (sU ev parts) (bW z)) λcs=>aL (.agg ⟨cs⟩) s
  |_=>none
def uB (ev:Operand->Value)(s:St)(t:TypeId)(n:Nat)(parts:List (Nat×Operand)):Option (Value×St):=
 elemOf E (some t) λe=>ob (size E e) λsz=>ob (zero E e) λz=>eg (Nat.beq (ek (bW z)) sz&&Nat.ble (nat_lit 1) sz&&Nat.ble (Nat.mul n sz) (nat_lit 16777216))<|
  ob (rX (oG sz) (sU ev parts) (lU (bW z) n)) λcs=>aL (.slice (some ⟨s.next,nat_lit 0,none⟩) n n) (s.new (.cells cs e false))
def adu (x:Value)(s:St):Option (Value×St):=match x with
 |.pointer (some a)=>aL (.pointer (some a)) s
 |.func (.func f) a b=>aL (.func (.func f) a b) s
 |_=>none
def Gp (x:Value)(s:St):Option (Value×St):=match x with
 |.func (.method m) ⟨[.iface t (.pointer (some a))]⟩ c=>ob (mc t m E.rV) λ_=>aL (.func (.method m) ⟨[.iface t (.pointer (some a))]⟩ c) s
 |x=>adu x s
def NU (t:TypeId)(x:Value)(s:St):Option (Value×St):=ob (ja E t) λd=>eg (!isIface d)<| aL (.iface t x) s
def unV (op:UnOp)(x:Value)(s:St):Option (Value×St):=match op,x with
 |.not,.bool b=>aL (.bool !b) s
 |_,_=>none
def yq (s:St)(t:TypeId)(m k:Value)(ok:Bool):Option (Value×St):=
 ob (ja E t) λd=>match d,m with
  |.map kt e,.map (some b)=>ob (ja E kt) λkd=>eg (yo E kt kd k)<| ob (zero E e) λz=>ob (s.look b) λo=>ob (mapOf o) λes=>ob (rY k es) λr=>match r with
   |some v=>aL (bo ok (.tuple ⟨[v,.bool true]⟩) v) (s.aV b)
   |none=>aL (bo ok (.tuple ⟨[z,.bool false]⟩) z) (s.aV b)
  |_,_=>none
def sV (s:St)(t:TypeId)(m k v:Value):Option (Value×St):=
 ob (ja E t) λd=>match d,m with
  |.map kt _,.map (some b)=>ob (ja E kt) λkd=>eg (yo E kt kd k)<| ob (s.look b) λo=>ob (mapOf o) λes=>ob (rY k es) λr=>match r with
   |some _=>ob (NS k v es) λes=>aL (.tuple ⟨[]⟩) (s.put b (some (.map es)))
   |none=>aL (.tuple ⟨[]⟩) (s.put b (some (.map (es++[(k,v)]))))
  |_,_=>none
def xa (s:St)(t:TypeId)(l c:Value):Option (Value×St):=
 elemOf E (some t) λe=>ob (E.ty.get e) λi=>ob i.zero λz=>match l,c with
  |.int _ (.ofNat l),.int _ (.ofNat c)=>eg (Nat.ble l c&&Nat.ble c (nat_lit 1000000)&&Nat.ble i.bytes (nat_lit 1000000)&&Nat.beq (ek (bW z)) i.size&&Nat.ble (nat_lit 1) i.size)<|
   aL (.slice (some ⟨s.next,nat_lit 0,none⟩) l c) (s.new (.cells (lU (bW z) c) e false))
  |_,_=>none
def dB (ev:Operand->Value)(x:Option Operand):Option Value:=match x with
 |none=>none
 |some x=>some (ev x)
def nQ (s:St)(t:TypeId)(x:Value)(i:Nat):Option (Value×St):=
 ob (ja E t) λd=>match d with
  |.struct ⟨fs⟩=>ob (jb fs i) λf=>ob (size E f.type) λsz=>eg (Nat.ble (nat_lit 1) sz)<| Fa x λb o=>aL (.pointer (some ⟨b,Nat.add o f.offset,none⟩)) s
  |_=>none
def Im (s:St)(t:TypeId)(x:Value)(i:Nat):Option (Value×St):=
 ob (ja E t) λd=>match d,x with
  |.struct ⟨fs⟩,.agg ⟨cs⟩=>ob (jb fs i) λf=>ob (ja E f.type) λdf=>eg (!z8 df)<| ob (jb cs f.offset) λv=>aL v s
  |_,_=>none
def nR (s:St)(t:TypeId)(x i:Value):Option (Value×St):=
 ob (ja E t) λd=>match d,x,i with
  |.array n e,.pointer (some ⟨b,o,none⟩),.int _ (.ofNat i)=>eg (Nat.ble (Nat.succ i) n)<| ob (size E e) λsz=>aL (.pointer (some ⟨b,Nat.add o (Nat.mul i sz),none⟩)) s
  |.slice e,.slice (some ⟨b,o,none⟩) n _,.int _ (.ofNat i)=>eg (Nat.ble (Nat.succ i) n)<| ob (size E e) λsz=>aL (.pointer (some ⟨b,Nat.add o (Nat.mul i sz),none⟩)) s
  |_,_,_=>none
def Io (s:St)(t:TypeId)(x i:Value):Option (Value×St):=
 ob (ja E t) λd=>match d,x,i with
  |.string,.string ⟨⟨z⟩⟩,.int _ (.ofNat i)=>ob (jb z i) λc=>aL (.int .u8 (.ofNat c.toNat)) s
  |_,_,_=>none
def yr (s:St)(x:Value)(i:Nat):Option (Value×St):=match x with
 |.tuple ⟨vs⟩=>ob (jb vs i) λv=>aL v s
 |_=>none
abbrev dJ:=FuncId->aQ->St->Option (Value×St)
def xb (call:dJ)(f:Value)(args:aQ)(s:St):Option (Value×St):=match f with
 |.func (.func g) ⟨first⟩ ⟨cap⟩=>call g (first++(args++cap)) s
 |_=>none
def B7 (call:dJ)(r:Value)(m:String)(args:aQ)(s:St):Option (Value×St):=match r with
 |.iface t (.pointer (some a))=>ob (mc t m E.rV) λf=>call f (.pointer (some a)::args) s
 |_=>none
def NV (call:dJ)(ev:Operand->Value)(s:St)(c:Call):Option (Value×St):=match c.callee with
 |.value f=>xb call (ev f) (w9 ev c.args.toList) s
 |.builtin b=>yp E ev s b c.argTypes.toList c.args.toList
 |.invoke r m=>B7 E call (ev r) m (w9 ev c.args.toList) s
def Fb (call:dJ)(ev:Operand->Value)(s:St)(o:Op):Option (Value×St):=match o with
 |.move x=>aL (ev x) s
 |.assign x=>aL (ev x) s
 |.pick c a b=>Qf (ev c) (ev a) (ev b) s
 |.alloc t=>Ik E s t
 |.box t x=>NT s (bW (ev x)) t
 |.build t ps=>Il E ev s t ps.toList
 |.buildSlice t n ps=>uB E ev s t n ps.toList
 |.load t a=>Fa (ev a) λb o=>mq E s t b o
 |.store t a x=>Fa (ev a) λb o=>mU E s t b o (ev x)
 |.nilCheck x=>Gp E (ev x) s
 |.makeInterface t x=>NU E t (ev x) s
 |.binOp op t x y _=>ob (RN E op t (ZO x||ZO y) (ev x) (ev y)) λv=>aL v s
 |.unOp op _ x=>unV op (ev x) s
 |.convert a b x=>wC E s a b (ev x)
 |.makeFunc fn f c=>aL (.func fn ⟨w9 ev f.toList⟩ ⟨w9 ev c.toList⟩) s
 |.makeMap _ none=>aL (.map (some s.next)) (s.new (.map []))
 |.lookup t m k ok=>yq E s t (ev m) (ev k) ok
 |.mapUpdate t m k v=>sV E s t (ev m) (ev k) (ev v)
 |.makeSlice t l c=>xa E s t (ev l) (ev c)
 |.slice t x lo hi mx=>kj E s t (ev x) (dB ev lo) (dB ev hi) (dB ev mx)
 |.fieldAddr t x i=>nQ E s t (ev x) i
 |.field t x i=>Im E s t (ev x) i
 |.indexAddr t x i=>nR E s t (ev x) (ev i)
 |.index t x i=>Io E s t (ev x) (ev i)
 |.extract x i=>yr s (ev x) i
 |.range t x=>Ij E s t (ev x)
 |.next x str=>Ks s (ev x) str
 |.call c=>NV E call ev s c
 |_=>none
inductive Ex where|normal|exit (id:Nat)|ret
abbrev Tm:=T Value
def lV (o:Option Value):Value:=Option.rec (.tuple ⟨[]⟩) (λv=>v) o
def aM (tm:Tm)(x:Operand):Value:=match x with
 |.tmp t=>lV (tm.get t)
 |.const v=>v
 |.global g=>.pointer (some ⟨g,nat_lit 0,none⟩)
 |.func f=>.func (.func f) #[] #[]
def Tm.put {β:Type}(tm:Tm)(d:Option Tmp)(v:Value)(k:Tm->β):β:=match d with
 |some d=>U2 v λv=>(tm.set (Nat.succ d) d (some v)).now k
 |none=>k tm
def uC (v:Option Value)(want:Bool):Bool:=match v with
 |some (.bool b)=>bo b want (!want)
 |_=>false
def mr (aB:List Oper)(j:Nat):Option Tmp:=ob (jb aB j) (·.dst)
def ie (aB:List Oper)(tm:Tm)(g:Option (Nat×Bool)):Bool:=match g with
 |none=>true
 |some (j,want)=>uC (ob (mr aB j) λd=>tm.get d) want
abbrev R3:=Option (Tm×St)
def Ku (call:dJ)(aB:List Oper)(l:List Oper):Tm->St->Option (Tm×St):=
 List.rec (λtm s=>some (tm,s)) (λo _ ih tm s=>
  bo (ie aB tm o.guard) (ob (Fb E call (aM tm) s o.op) λp=>match p with
      |(v,s)=>tm.put o.dst v λtm=>ih tm s)
   (tm.put o.dst (.tuple ⟨[]⟩) λtm=>ih tm s)) l
structure Seen where
 i:Nat
 cO:Nat
 wr:Nat
def Ac (b a r:Nat)(l:List Seen):Bool:=List.rec true (λx _ ih=>bo (bo (Nat.beq (Nat.land x.wr a) (nat_lit 0)) (Nat.beq (Nat.land x.cO r) (nat_lit 0)) false||Nat.testBit b x.i) ih false) l
def uD (aB:List Oper)(j:Nat)(s s':St)(seen:List Seen)(k:St->List Seen->R3):R3:=match s,s' with
 |⟨_,_,a0,r0⟩,⟨h,n,a,r⟩=>bo (Nat.beq a (nat_lit 0)) (k ⟨h,n,a0,r0⟩ seen)
  (bo (Ac ((Region.before ⟨aB⟩).getD j 0) a r seen) (w7 (Nat.lor a0 a) λa0=>w7 (Nat.lor r0 r) λr0=>k ⟨h,n,a0,r0⟩ (⟨j,a,r⟩::seen)) none)
def eF (s:St):St:=match s with
 |⟨h,n,_,_⟩=>⟨h,n,nat_lit 0,nat_lit 0⟩
def uE (call:dJ)(aB:List Oper)(l:List Oper):Nat->Tm->St->List Seen->Option (Tm×St):=
 List.rec (λ_ tm s _=>some (tm,s)) (λo _ ih j tm s seen=>
  bo (ie aB tm o.guard) (ob (Fb E call (aM tm) (eF s) o.op) λp=>match p with
      |(v,s')=>uD aB j s s' seen λs seen=>tm.put o.dst v λtm=>ih (Nat.succ j) tm s seen)
   (tm.put o.dst (.tuple ⟨[]⟩) λtm=>ih (Nat.succ j) tm s seen)) l
abbrev R4:=Option (Ex×Tm×St)
def Gq (r:R4)(k:Tm->St->R4):R4:=ob r λp=>match p with
 |(.normal,tm,s)=>k tm s
 |p=>some p
def CP (body:Tm->St->R4)(n:Nat):Tm->St->R4:=Nat.rec (λ_ _=>none) (λ_ ih tm s=>Gq (body tm s) ih) n
def adv (id:Nat)(r:R4):R4:=ob r λp=>match p with
 |(.exit i,tm,s)=>bo (Nat.beq i id) (some (.normal,tm,s)) (some (.exit i,tm,s))
 |p=>some p
def Gs (r:R3):R4:=ob r λp=>some (.normal,p)
def Qg (c:Value)(a b:R4):R4:=match c with
 |.bool c=>bo c a b
 |_=>none
def Qh (call:dJ)(aB:List Oper)(draw:Bool)(tm:Tm)(s:St):R4:=
 bo draw (Gs (uE E call aB aB (nat_lit 0) tm s [])) (Gs (Ku E call aB aB tm s))
def mu (call:dJ)(lf:Nat)(c:Code):Tm->St->R4:=
 Code.rec (motive:=λ_=>Tm->St->R4) (λtm s=>some (.normal,tm,s)) (λ_ aB draw tm s=>Qh E call aB.toList draw tm s) (λ_ _ a b tm s=>Gq (a tm s) b) (λc _ _ a b tm s=>Qg (aM tm c) (a tm s) (b tm s))
  (λid _ a tm s=>adv id (a tm s)) (λ_ a tm s=>CP a lf tm s) (λ_ _ _ _ _ _ _ _=>none) (λid tm s=>some (.exit id,tm,s)) (λ_ _ _ _=>none) (λ_ _ _=>none) (λ_ _ _=>none)
  (λtm s=>some (.ret,tm,s)) (λ_ _ _=>none) c
def l5 (l:aQ):Nat->Tm->Tm:=List.rec (λ_ tm=>tm) (λv _ ih i tm=>U2 v λv=>(tm.set (Nat.succ i) i (some v)).now λtm=>ih (Nat.succ i) tm) l
def CQ (tm:Tm)(l:List ResultVar):St->Option (aQ×St):=
 List.rec (λs=>some ([],s)) (λr _ ih s=>match r with
  |.tmp t=>ob (ih s) λp=>some (lV (tm.get t)::p.1,p.2)
  |.cell a t=>Fa (lV (tm.get a)) λb o=>ob (mq E s t b o) λq=>ob (ih q.2) λp=>some (q.1::p.1,p.2)) l
def gB (l:aQ):Value:=match l with
 |[v]=>v
 |vs=>.tuple ⟨vs⟩
def RR (c:Nat)(l:List UInt8):Nat->Int:=List.rec (λ_=>.negSucc (nat_lit 0)) (λb _ ih i=>bo (Nat.beq b.toNat c) (.ofNat i) (ih (Nat.succ i))) l
abbrev xc:=aQ->St->Option (Value×St)
structure dM where
 sa:Nat
 indexByte:Nat
 sW:Nat
 look:Nat
 byte:Nat
 wD:List (Nat×xc)
def CR (X:dM)(f:FuncId):Bool:=List.rec false (λp _ ih=>bo (Nat.beq p.1 f) true ih) X.wD
def yu (X:dM)(f:FuncId)(args:aQ)(s:St)(k:Option (Value×St)):Option (Value×St):=List.rec k (λp _ ih=>bo (Nat.beq p.1 f) (p.2 args s) ih) X.wD
def id1 (args:aQ):Option Value:=match args with
 |[x]=>some x
 |_=>none
def U7 (args:aQ):Option Value:=match args with
 |[.string ⟨⟨z⟩⟩,.int .u8 (.ofNat c)]=>eg (Nat.ble (Nat.succ c) (nat_lit 256))<| some (.int .i64 (RR c z (nat_lit 0)))
 |_=>none
def zeroV (X:dM)(args:aQ)(s:St):Option (Value×St):=match args with
 |[.int .i64 (.ofNat n)]=>eg (Nat.ble (nat_lit 1) n&&Nat.ble n (nat_lit 1000000))<| aL (bV s n) (s.new (.cells [] X.byte true))
 |_=>none
def Kv (args:aQ)(s:St):Option (Value×St):=match args with
 |[.agg ⟨[.slice (some ⟨b,o,none⟩) n _,.slice _ 0 _,_]⟩,.int .i64 (.ofNat i)]=>eg (Nat.ble (Nat.succ i) n)<| s.row b λcs _ _ s=>ob (jb cs (Nat.add o i)) λv=>match v with
  |.string ⟨⟨z⟩⟩=>aL (.string ⟨⟨z⟩⟩) s
  |_=>none
 |_=>none
def ZS (X:dM)(f:FuncId)(args:aQ)(s:St):Option (Value×St):=
 bo (Nat.beq f X.sa) (ob (id1 args) λv=>aL v s) (bo (Nat.beq f X.indexByte) (ob (U7 args) λv=>aL v s) (bo (Nat.beq f X.sW) (zeroV X args s) none))
def U8 (fn:Func)(r:R4):Option (Value×St):=ob r λp=>match p with
 |(.exit _,_,_)=>none
 |(_,tm,s)=>ob (CQ E tm fn.results.toList s) λp=>some (gB p.1,p.2)
end
end
section
variable {α β:Type}
@[simp] theorem gu (x y:α):bo true x y=x:=rfl
@[simp] theorem eJ (x y:α):bo false x y=y:=rfl
theorem dO (b:Bool)(x y:α):bo b x y=if b then x else y:=by cases b<;>rfl
@[simp] theorem cr (a:α)(k:α->Option β):ob (some a) k=k a:=rfl
@[simp] theorem ajt (k:α->Option β):ob (none:Option α) k=none:=rfl
theorem aC {o:Option α}{k:α->Option β}{r:β}(h:ob o k=some r):∃a,o=some a/\k a=some r:=by
 cases o with
 |none=>cases h
 |some a=>exact⟨a,rfl,h⟩
theorem bp {b:Bool}{k:Option β}{r:β}(h:eg b k=some r):b=true/\k=some r:=by
 cases b with
 |false=>cases h
 |true=>exact⟨rfl,h⟩
theorem Ip {b:Bool}{x:Option β}{r:β}(h:bo b x none=some r):b=true/\x=some r:=by
 cases b with
 |false=>cases h
 |true=>exact⟨rfl,h⟩
@[simp] theorem T.NW (t:T α)(k:T α->β):t.now k=k t:=by cases t<;>rfl
@[simp] theorem Qi (n:Nat)(k:Nat->β):w7 n k=k n:=by cases n<;>rfl
@[simp] theorem aju (n:Int)(k:Int->β):adr n k=k n:=by cases n<;>simp[adr]
@[simp] theorem ajv (n:Bool)(k:Bool->β):af3 n k=k n:=by cases n<;>rfl
@[simp] theorem ajw (a:aK)(k:aK->β):ZM a k=k a:=by
  unfold ZM;split<;>simp
@[simp] theorem ajx (a:aK)(l c:Nat)(k:Value->β):ads a l c k=k (.slice a l c):=by simp[ads]
@[simp] theorem ZT (v:Value)(k:Value->β):U2 v k=k v:=by unfold U2;split<;>simp
theorem T.get_nil (n:Nat):(T.nil:T α).get n=none:=rfl
theorem T.oH (v:Option α)(l r:T α)(n:Nat):(T.node v l r).get n=if n=0 then v else if n% 2=1 then l.get (n/ 2) else r.get (n/ 2-1):=by
 have h:(T.node v l r).get n=bo (Nat.beq n 0) v (bo (Nat.beq (n% 2) 1) (l.get (n/ 2)) (r.get (Nat.pred (n/ 2)))):=rfl;rw[h,dO,dO];simp only[CA,Nat.pred_eq_sub_one]
theorem T.Kw (d:Nat)(t:T α)(n:Nat)(x:Option α):
  T.set (d+1) t n x=match t with
    |.nil=>if n=0 then .node x .nil .nil else if n% 2=1 then .node none (T.set d .nil (n/ 2) x) .nil else .node none .nil (T.set d .nil (n/ 2-1) x)
    |.node v l r=>if n=0 then .node x l r else if n% 2=1 then .node v (T.set d l (n/ 2) x) r else .node v l (T.set d r (n/ 2-1) x):=by
 cases t with
 |nil=>
  have h:T.set (d+1) (T.nil:T α) n x=bo (Nat.beq n 0) (.node x .nil .nil) (bo (Nat.beq (n% 2) 1) ((T.set d .nil (n/ 2) x).now λl=>.node none l .nil) ((T.set d .nil (Nat.pred (n/ 2)) x).now λr=>.node none .nil r)):=rfl;rw[h,dO,dO];simp only[CA,Nat.pred_eq_sub_one,T.NW]
 |node v l r=>
  have h:T.set (d+1) (T.node v l r) n x=bo (Nat.beq n 0) (.node x l r) (bo (Nat.beq (n% 2) 1) ((T.set d l (n/ 2) x).now λl=>.node v l r) ((T.set d r (Nat.pred (n/ 2)) x).now λr=>.node v l r)):=rfl;rw[h,dO,dO];simp only[CA,Nat.pred_eq_sub_one,T.NW]
theorem T.Iq (d:Nat):∀(t:T α)(n m:Nat)(x:Option α),n+1<2^ d->(T.set d t n x).get m=if m=n then x else t.get m:=by
 induction d with
 |zero=>intro t n m x h;simp at h
 |succ d ih=>
  intro t n m x h;have hl:n% 2=1->n/ 2+1<2^ d:=λ_=>by rw[US] at h;omega
  have hr:¬n=0->¬n% 2=1->n/ 2-1+1<2^ d:=λ_ _=>by rw[US] at h;omega
  rw[T.Kw];cases t with
  |nil=>
   simp only;by_cases h0:n=0
   .simp only[h0,if_true,T.oH,T.get_nil];split<;>simp
   .simp only[h0,pg];by_cases h1:n% 2=1
    .simp only[h1,if_true,T.oH,T.get_nil];rw[ih _ _ _ _ (hl h1)];simp only[T.get_nil];repeat' split
     all_goals first|rfl|omega
    .simp only[h1,pg,T.oH,T.get_nil];rw[ih _ _ _ _ (hr h0 h1)];simp only[T.get_nil];repeat' split
     all_goals first|rfl|omega
  |node v l r=>
   simp only;by_cases h0:n=0
   .simp only[h0,if_true,T.oH];repeat' split
    all_goals first|rfl|omega
   .simp only[h0,pg];by_cases h1:n% 2=1
    .simp only[h1,if_true,T.oH];rw[ih _ _ _ _ (hl h1)];repeat' split
     all_goals first|rfl|omega
    .simp only[h1,pg,T.oH];rw[ih _ _ _ _ (hr h0 h1)];repeat' split
     all_goals first|rfl|omega
@[simp] theorem dh (l:List α):ek l=l.length:=by
  induction l with
  |nil=>rfl
  |cons x xs ih=>exact fI Nat.succ ih
@[simp] theorem dR (l:List α):∀n,jb l n=l[n]?:=by
  induction l with
  |nil=>intro n;simp[jb]
  |cons x xs ih=>
   intro n;cases n with
   |zero=>rfl
   |succ n=>exact(ih n).trans (by simp)
@[simp] theorem af8 (n:Nat):∀l:List α,U5 n l=l.take n:=by
  induction n with
  |zero=>intro l;show([]:List α)=l.take 0;simp
  |succ n ih=>intro l;cases l with
   |nil=>rfl
   |cons x xs=>exact fI (x::·) (ih xs)
@[simp] theorem af9 (n:Nat):∀l:List α,U6 n l=l.drop n:=by
  refine' za1
@[simp] theorem qT (f:α->β)(l:List α):w9 f l=l.map f:=by
  induction l with
  |nil=>rfl
  |cons x xs ih=>exact fI (f x::·) ih
end
@[simp] theorem pZ (n:Nat):∀l:aQ,dY n l=l.drop n:=by
  refine' za1
theorem yv (n:Nat):∀l:aQ,iS n l=if n<=l.length then some (l.take n) else none:=by
 induction n with
 |zero=>intro l;show some []=_;simp
 |succ n ih=>intro l;cases l with
  |nil=>simp[iS]
  |cons x xs=>
   have h:iS (n+1) (x::xs)=ob (iS n xs) λr=>some (x::r):=rfl
   rw[h,ih xs];by_cases hn:n<=xs.length<;>simp[hn]
theorem kP {n:Nat}{l r:aQ}(h:iS n l=some r):n<=l.length/\r=l.take n:=by
 rw[yv] at h;split at h
 .exact⟨‹_›,by simpa using h.symm⟩
 .cases h
theorem Qj (vs:aQ):∀l:aQ,pr vs l=if vs.length<=l.length then some (vs++l.drop vs.length) else none:=by
 induction vs with
 |nil=>intro l;show some l=_;simp
 |cons v vs ih=>intro l;cases l with
  |nil=>simp[pr]
  |cons x xs=>
   have h:pr (v::vs) (x::xs)=ob (pr vs xs) λr=>some (v::r):=rfl
   rw[h,ih xs];by_cases hn:vs.length<=xs.length<;>simp[hn]
theorem nS (n:Nat)(vs:aQ):∀{l r:aQ},fP n vs l=some r->n+vs.length<=l.length/\r=l.take n++vs++l.drop (n+vs.length):=by
 induction n with
 |zero=>
  intro l r h;have h':pr vs l=some r:=h;rw[Qj] at h';split at h'
  .have h2:=j6 h';subst h2;exact⟨ag,by simp⟩
  .cases h'
 |succ n ih=>
  intro l r h;cases l with
  |nil=>cases h
  |cons x xs=>
   have h':ob (fP n vs xs) (λr=>some (x::r))=some r:=h;obtain⟨a,ha,hr⟩:=aC h';obtain⟨h1,h2⟩:=ih ha;simp at hr;refine⟨by simp;omega,?_⟩;have e:n+1+vs.length=(n+vs.length)+1:=by omega
   rw[<-hr,h2,e,x_5,List.drop_succ_cons,BI,BI]
theorem gU (v:Value):bW v=v.cells.toList:=by
 unfold bW Value.cells;split<;>simp_all
theorem mv (l:aQ):jv l=true↔∀v∈l,flat v=true:=by
 induction l with
 |nil=>simp[jv]
 |cons x xs ih=>
  have h:jv (x::xs)=bo (flat x) (jv xs) false:=rfl;rw[h,dO];by_cases hx:flat x=true<;>simp[hx,ih]
abbrev fB:=Nat->Nat×Nat
def dD (q:Nat×Nat)(c:Nat):Nat:=if eH<=c then q.2-(c-eH) else c
mutual
def bY (ρ:fB):Value->Value
 |.agg ⟨cs⟩=>.agg ⟨A8 ρ cs⟩
 |.tuple ⟨cs⟩=>.tuple ⟨A8 ρ cs⟩
 |.func fn ⟨f⟩ ⟨c⟩=>.func fn ⟨A8 ρ f⟩ ⟨A8 ρ c⟩
 |.iface t v=>.iface t (bY ρ v)
 |.pointer (some ⟨b,o,s⟩)=>.pointer (some ⟨(ρ b).1,o,s⟩)
 |.slice (some ⟨b,o,none⟩) l c=>.slice (some ⟨(ρ b).1,o,none⟩) l (dD (ρ b) c)
 |.slice (some ⟨b,o,some q⟩) l c=>.slice (some ⟨(ρ b).1,if dD (ρ b) c=0 then q else o,none⟩) l (dD (ρ b) c)
 |.map (some r)=>.map (some (ρ r).1)
 |.bool b=>.bool b
 |.int k n=>.int k n
 |.float k n=>.float k n
 |.complex k a b=>.complex k a b
 |.string s=>.string s
 |.pointer none=>.pointer none
 |.slice none l c=>.slice none l c
 |.map none=>.map none
 |.chan r=>.chan r
 |.nilFunc=>.nilFunc
 |.nilIface=>.nilIface
def A8 (ρ:fB):aQ->aQ
 |[]=>[]
 |v::vs=>bY ρ v::A8 ρ vs
end
theorem yw (ρ:fB)(l:aQ):A8 ρ l=l.map (bY ρ):=by
 induction l with
 |nil=>simp[A8]
 |cons v vs ih=>simp[A8,ih]
@[simp] theorem U9 (ρ:fB)(cs:aQ):bY ρ (.agg ⟨cs⟩)= .agg ⟨cs.map (bY ρ)⟩:=by simp[bY,yw]
@[simp] theorem NX (ρ:fB)(cs:aQ):bY ρ (.tuple ⟨cs⟩)= .tuple ⟨cs.map (bY ρ)⟩:=by simp[bY,yw]
@[simp] theorem RS (ρ:fB)(fn:Fn)(f c:aQ):bY ρ (.func fn ⟨f⟩ ⟨c⟩)= .func fn ⟨f.map (bY ρ)⟩ ⟨c.map (bY ρ)⟩:=by simp[bY,yw]
theorem mV (ρ:fB)(b o:Nat)(s:Option Nat):bY ρ (.pointer (some ⟨b,o,s⟩))= .pointer (some ⟨(ρ b).1,o,s⟩):=by simp[bY]
theorem eE (ρ:fB)(b o l c:Nat):bY ρ (.slice (some ⟨b,o,none⟩) l c)= .slice (some ⟨(ρ b).1,o,none⟩) l (dD (ρ b) c):=by simp[bY]
theorem Kx (ρ:fB)(b o q l c:Nat):bY ρ (.slice (some ⟨b,o,some q⟩) l c)= .slice (some ⟨(ρ b).1,if dD (ρ b) c=0 then q else o,none⟩) l (dD (ρ b) c):=by simp[bY]
theorem sb (ρ:fB)(a:Addr)(l c:Nat):∃a',bY ρ (.slice (some a) l c)= .slice (some a') l (dD (ρ a.block) c):=by
 obtain⟨b,o,_|q⟩:=a
 .exact⟨_,eE ρ b o l c⟩
 .exact⟨_,Kx ρ b o q l c⟩
theorem Gt (ρ:fB)(b:Nat):bY ρ (.map (some b))= .map (some (ρ b).1):=by simp[bY]
@[simp] theorem vr (ρ:fB)(b:Bool):bY ρ (.bool b)= .bool b:=by simp[bY]
@[simp] theorem yx (ρ:fB)(k:IntKind)(n:Int):bY ρ (.int k n)= .int k n:=by simp[bY]
@[simp] theorem ab6 (ρ:fB)(s:ByteArray):bY ρ (.string s)= .string s:=by simp[bY]
@[simp] theorem Gu (ρ:fB):bY ρ (.pointer none)= .pointer none:=by simp[bY]
@[simp] theorem ab7 (ρ:fB)(l c:Nat):bY ρ (.slice none l c)= .slice none l c:=by simp[bY]
@[simp] theorem sX (ρ:fB):bY ρ .nilFunc= .nilFunc:=by simp[bY]
@[simp] theorem Fq (ρ:fB):bY ρ .nilIface= .nilIface:=by simp[bY]
theorem xe (ρ:fB)(v:Value):(bY ρ v).cells.toList=v.cells.toList.map (bY ρ):=by
 cases v<;>try(simp[bY,Value.cells];done)
 .rename_i a;cases a<;>simp[bY,Value.cells]
 .rename_i a l c;cases a with
  |none=>simp[bY,Value.cells]
  |some a=>
   obtain⟨a',h⟩:=sb ρ a l c;rw[h];simp[Value.cells,h]
 .rename_i a;cases a<;>simp[bY,Value.cells]
 .rename_i cs;obtain⟨cs⟩:=cs;simp[bY,yw,Value.cells]
theorem RT (ρ:fB)(v:Value):flat (bY ρ v)=flat v:=by
 cases v<;>try(simp[bY,flat];done)
 .rename_i a;cases a<;>simp[bY,flat]
 .rename_i a l c;cases a with
  |none=>simp[bY,flat]
  |some a=>
   obtain⟨a',h⟩:=sb ρ a l c;rw[h];simp[flat]
 .rename_i a;cases a<;>simp[bY,flat]
def Gv (A:Nat->Prop)(ρ eI:fB):Prop:=∀i,A i->eI i=ρ i
def VR (A:Nat->Prop)(ρ:fB)(v v':Value):Prop:=∀eI,Gv A ρ eI->bY eI v=v'
def LR (A:Nat->Prop)(ρ:fB)(l l':aQ):Prop:=∀eI,Gv A ρ eI->l.map (bY eI)=l'
section
variable {A B:Nat->Prop}{ρ B8:fB}{v v':Value}{l l':aQ}
theorem Gv.refl (A:Nat->Prop)(ρ:fB):Gv A ρ ρ:=λ_ _=>rfl
theorem VR.self (h:VR A ρ v v'):bY ρ v=v':=h ρ (Gv.refl A ρ)
theorem LR.self (h:LR A ρ l l'):l.map (bY ρ)=l':=h ρ (Gv.refl A ρ)
theorem VR.mono (h:VR A ρ v v')(hA:∀i,A i->B i)(Ad:∀i,A i->B8 i=ρ i):VR B B8 v v':=λeI h'=>h eI λi hi=>(h' i (hA i hi)).trans (Ad i hi)
theorem LR.mono (h:LR A ρ l l')(hA:∀i,A i->B i)(Ad:∀i,A i->B8 i=ρ i):LR B B8 l l':=λeI h'=>h eI λi hi=>(h' i (hA i hi)).trans (Ad i hi)
theorem LR.length (h:LR A ρ l l'):l'.length=l.length:=by rw[<-h.self,ux]
theorem LR.nil:LR A ρ [] []:=λ_ _=>rfl
theorem LR.cons (h:VR A ρ v v')(k:LR A ρ l l'):LR A ρ (v::l) (v'::l'):=λeI e=>by simp[h eI e,k eI e]
theorem LR.jE (h:LR A ρ (v::l) l'):∃u us,l'=u::us/\VR A ρ v u/\LR A ρ l us:=by
 refine⟨bY ρ v,l.map (bY ρ),by rw[<-h.self];rfl,λeI e=>?_,λeI e=>?_⟩
 .have:=(h eI e).trans h.self.symm;simp at this;exact this.1
 .have:=(h eI e).trans h.self.symm;simp only[vp,List.cons.injEq] at this;exact this.2
theorem LR.get {i:Nat}{u:Value}(h:LR A ρ l l')(hu:l[i]?=some u):∃u',l'[i]?=some u'/\VR A ρ u u':=by
 refine⟨bY ρ u,by rw[<-h.self];simp[hu],λeI e=>?_⟩;have:=fI (·[i]?) ((h eI e).trans h.self.symm);simpa[hu] using this
theorem LR.take (n:Nat)(h:LR A ρ l l'):LR A ρ (l.take n) (l'.take n):=λeI e=>by rw[<-h eI e,List.map_take]
theorem LR.drop (n:Nat)(h:LR A ρ l l'):LR A ρ (l.drop n) (l'.drop n):=λeI e=>by rw[<-h eI e,List.map_drop]
theorem LR.append {m m':aQ}(h:LR A ρ l l')(k:LR A ρ m m'):LR A ρ (l++m) (l'++m'):=λeI e=>by rw[<-h eI e,<-k eI e,J7]
theorem VR.agg (h:LR A ρ l l'):VR A ρ (.agg ⟨l⟩) (.agg ⟨l'⟩):=λeI e=>by simp[h eI e]
theorem VR.tuple (h:LR A ρ l l'):VR A ρ (.tuple ⟨l⟩) (.tuple ⟨l'⟩):=λeI e=>by simp[h eI e]
theorem VR.Qk (h:VR A ρ (.agg ⟨l⟩) v'):∃l',v'= .agg ⟨l'⟩/\LR A ρ l l':=by
 refine' za8
theorem VR.ZU (h:VR A ρ (.tuple ⟨l⟩) v'):∃l',v'= .tuple ⟨l'⟩/\LR A ρ l l':=by
 refine' za8
theorem VR.CS {fn:Fn}{f c:aQ}(h:VR A ρ (.func fn ⟨f⟩ ⟨c⟩) v'):∃f' c',v'= .func fn ⟨f'⟩ ⟨c'⟩/\LR A ρ f f'/\LR A ρ c c':=by
 refine⟨f.map (bY ρ),c.map (bY ρ),by rw[<-h.self];simp,λeI e=>?_,λeI e=>?_⟩<;>
 .have:=(h eI e).trans h.self.symm;simp at this;first|exact Fl (λx hx=>this.1 x hx)|exact Fl (λx hx=>this.2 x hx)
theorem VR.func {fn:Fn}{f c f' c':aQ}(h:LR A ρ f f')(k:LR A ρ c c'):VR A ρ (.func fn ⟨f⟩ ⟨c⟩) (.func fn ⟨f'⟩ ⟨c'⟩):=λeI e=>by simp[h eI e,k eI e]
theorem VR.cells (h:VR A ρ v v'):LR A ρ v.cells.toList v'.cells.toList:=λeI e=>by rw[<-xe,h eI e]
theorem LR.jv (h:LR A ρ l l')(hf:∀v∈l,flat v=true):∀v∈l',flat v=true:=by
 rw[<-h.self];intro v hv;obtain⟨u,hu,rfl⟩:=kO.1 hv;rw[RT];exact hf u hu
theorem VR.ground (h:∀ρ,bY ρ v=v):VR A ρ v v:=λeI _=>h eI
theorem VR.bool (b:Bool):VR A ρ (.bool b) (.bool b):=VR.ground (by simp)
theorem VR.int (k:IntKind)(n:Int):VR A ρ (.int k n) (.int k n):=VR.ground (by simp)
theorem VR.str (s:ByteArray):VR A ρ (.string s) (.string s):=VR.ground (by simp)
theorem VR.undef:VR A ρ (.tuple ⟨[]⟩) (.tuple ⟨[]⟩):=VR.ground (by simp)
theorem VR.ptr {b o:Nat}{s:Option Nat}(h:A b):VR A ρ (.pointer (some ⟨b,o,s⟩)) (.pointer (some ⟨(ρ b).1,o,s⟩)):=λeI e=>by rw[mV,e b h]
theorem VR.slice {b o l c:Nat}(h:A b):VR A ρ (.slice (some ⟨b,o,none⟩) l c) (.slice (some ⟨(ρ b).1,o,none⟩) l (dD (ρ b) c)):=λeI e=>by rw[eE,e b h]
theorem VR.ajN {b:Nat}(h:A b):VR A ρ (.map (some b)) (.map (some (ρ b).1)):=λeI e=>by rw[Gt,e b h]
theorem VR.mw {k:IntKind}{n:Int}(h:VR A ρ (.int k n) v'):v'= .int k n:=by rw[<-h.self];simp
theorem VR.sY {b:Bool}(h:VR A ρ (.bool b) v'):v'= .bool b:=by rw[<-h.self];simp
theorem VR.uF {s:ByteArray}(h:VR A ρ (.string s) v'):v'= .string s:=by rw[<-h.self];simp
end
def di (A:Nat->Prop)(n m:Nat):Nat->Prop:=λi=>A i\/(n<=i/\i<m)
def Ft (P:Program)(A:Nat->Prop)(ρ:fB)(q:Nat×Nat):gF->Obj->Prop
 |.cells c e w,x=>∃(c' aO:aQ)(fr:Nat×Nat),x= .cells ⟨c'++aO⟩ e fr/\LR A ρ c c'/\
    (w=true->fr=(0,0)/\c.length+aO.length=q.2*P.cellsOf e/\0<P.cellsOf e/\q.2<=maxLen)/\
    (w=false->((aO=[]/\fr=(0,0))\/(P.underlying e=some (.int .u8)/\P.cellsOf e=1/\c.length+aO.length<=fr.1))/\c.length<=q.2)
 |.map es,x=>∃(xs:List MapEntry)(k:Nat),x= .map ⟨xs⟩ k/\LR A ρ (es.map (·.1)) (xs.map (·.key))/\LR A ρ (es.map (·.2)) (xs.map (·.val))
 |.lM z p,x=>x= .stringIter ⟨⟨z⟩⟩ p
 |.uh ws,x=>∃(cs:aQ)(t:TypeId)(fr:Nat×Nat),x= .cells ⟨cs⟩ t fr/\∀p∈ws,∃pre c' aO,cs=pre++(c'++aO)/\pre.length=p.1/\LR A ρ p.2 c'
 |.tW m,x=>A m/\∃since dm,x= .mapIter (some (ρ m).1) since #[] dm
theorem Ft.mono {P:Program}{A B:Nat->Prop}{ρ B8:fB}{q:Nat×Nat}{o:gF}{x:Obj}(h:Ft P A ρ q o x)(hA:∀i,A i->B i)(Ad:∀i,A i->B8 i=ρ i):Ft P B B8 q o x:=by
 cases o with
 |cells c e w=>obtain⟨c',aO,fr,h1,h2,h3,h4⟩:=h;exact⟨c',aO,fr,h1,h2.mono hA Ad,h3,h4⟩
 |map es=>obtain⟨xs,k,h1,h2,h3⟩:=h;exact⟨xs,k,h1,h2.mono hA Ad,h3.mono hA Ad⟩
 |lM z p=>exact h
 |uh ws=>
  obtain⟨cs,t,fr,h1,h2⟩:=h;exact⟨cs,t,fr,h1,λp hp=>by
   obtain⟨pre,c',aO,e1,e2,e3⟩:=h2 p hp;exact⟨pre,c',aO,e1,e2,e3.mono hA Ad⟩⟩
 |tW m=>obtain⟨h1,since,dm,h2⟩:=h;exact⟨hA m h1,since,dm,by rw[Ad m h1];exact h2⟩
structure fb (P:Program)(X A:Nat->Prop)(ρ:fB)(g:Nat->Option gF)(w:World):Prop where
 lp:∀b o,X b->g b=some o->A b/\∃x,w.heap[(ρ b).1]?=some x/\Ft P A ρ (ρ b) o x
 inj:∀b b' o o',X b->X b'->g b=some o->g b'=some o'->(ρ b).1=(ρ b').1->b=b'
structure Fr (w w':World)(aga:Nat->Prop):Prop where
 os:w'.os=w.os
 tape:w'.tape=w.tape
 output:w'.output=w.output
 size:w.heap.size<=w'.heap.size
 block:∀r,r<w.heap.size->¬aga r->w'.heap[r]?=w.heap[r]?
theorem Fr.refl (w:World)(t:Nat->Prop):Fr w w t:=⟨rfl,rfl,rfl,cA _,λ_ _ _=>rfl⟩
abbrev In (m b:Nat):Prop:=m.testBit b=true
structure Good (P:Program)(X A:Nat->Prop)(ρ:fB)(s s':St)(w w':World)(eI:fB):Prop where
 next:s.next<=s'.next
 same:∀i,¬(s.next<=i/\i<s'.next)->eI i=ρ i
 state:fb P X (di A s.next s'.next) eI s'.heap.get w'
 fQ:Fr w w' λr=>∃b o,In s'.wr b/\X b/\s.heap.get b=some o/\(ρ b).1=r
 old:∀b,b<s.next->s'.heap.get b≠none->s.heap.get b≠none
 bD:∀b,s.next<=b->b<s'.next->s'.heap.get b≠none->w.heap.size<=(eI b).1\/∃c o,In s'.wr c/\X c/\s.heap.get c=some o/\(eI b).1=(ρ c).1
 kept:∀b,b<s.next->¬In s'.wr b->s'.heap.get b=s.heap.get b
 eh:∀b,s'.next<=b->s'.heap.get b=none
structure aF (s s':St):Prop where
 next:s.next<=s'.next
 cO:∀b,In s.cO b->In s'.cO b
 wr:∀b,In s.wr b->In s'.wr b
 made:∀b,s.next<=b->b<s'.next->In s'.wr b
 sub:(∀b,In s.wr b->In s.cO b)->∀b,In s'.wr b->In s'.cO b
 kept:∀b,b<s.next->¬In s'.wr b->s'.heap.get b=s.heap.get b
 eh:(∀b,s.next<=b->s.heap.get b=none)->∀b,s'.next<=b->s'.heap.get b=none
theorem adw (n:Nat):n+1+1<2^ (n+1+1):=@Nat.lt_two_pow_self (n+1+1)
theorem T.vt {α:Type}(t:T α)(n m:Nat)(x:Option α):(T.set (Nat.succ n) t n x).get m=if m=n then x else t.get m:=by
 cases n with
 |zero=>
  rw[show Nat.succ 0=0+1 from rfl,T.Kw];cases t<;>simp only[T.oH,T.get_nil,if_true]<;>(repeat' split)<;>first|rfl|omega|simp_all
 |succ n=>exact T.Iq _ _ _ _ _ (adw n)
theorem gG (a b c:Nat):In (a||| bit b) c↔In a c\/c=b:=by
 have h:(a||| bit b)=a||| (1<<< b):=rfl;simp only[In,h,Nat.testBit_or,Nat.testBit_shiftLeft,mS,bU,bQ];constructor
 .rintro(h|⟨h1,h2⟩)
  .exact .inl h
  .right
   have:c-b=0:=by
    rcases wc (c-b) with h|h
    .exact h
    .rw[Nat.testBit_one_eq_true_iff_self_eq_zero] at h2;exact h2
   omega
 .rintro(h|rfl)
  .exact .inl h
  .right;simp
theorem rA (a b c:Nat):In (a||| b) c↔In a c\/In b c:=by
 simp only[In,Nat.testBit_or,mS]
section
variable (s:St)(b:Nat)
@[simp] theorem jc:(s.aV b).heap=s.heap:=by cases s;simp[St.aV]
@[simp] theorem cw:(s.aV b).next=s.next:=by cases s;simp[St.aV]
@[simp] theorem B9:(s.aV b).wr=s.wr:=by cases s;simp[St.aV]
@[simp] theorem sc:(s.aV b).cO=s.cO||| bit b:=by cases s;simp[St.aV]
@[simp] theorem qU (o:Option gF)(c:Nat):(s.put b o).heap.get c=if c=b then o else s.heap.get c:=by cases s;simp[St.put,T.vt]
@[simp] theorem dZ (o:Option gF):(s.put b o).next=s.next:=by cases s;simp[St.put]
@[simp] theorem sZ (o:Option gF):(s.put b o).wr=s.wr||| bit b:=by cases s;simp[St.put]
@[simp] theorem qV (o:Option gF):(s.put b o).cO=s.cO||| bit b:=by cases s;simp[St.put]
@[simp] theorem Ca (o:gF)(c:Nat):(s.new o).heap.get c=if c=s.next then some o else s.heap.get c:=by cases s;simp[St.new,T.vt]
@[simp] theorem lW (o:gF):(s.new o).next=s.next+1:=by cases s;simp[St.new]
@[simp] theorem xf (o:gF):(s.new o).wr=s.wr||| bit s.next:=by cases s;simp[St.new]
@[simp] theorem yy (o:gF):(s.new o).cO=s.cO||| bit s.next:=by cases s;simp[St.new]
end
theorem aF.refl (s:St):aF s s:=⟨cA _,λ_ h=>h,λ_ h=>h,λb h1 h2=>by omega,λh=>h,λ_ _ _=>rfl,λh=>h⟩
theorem aF.trans {a b c:St}(h:aF a b)(k:aF b c):aF a c:=
 ⟨ik h.next k.next,λi hi=>k.cO i (h.cO i hi),λi hi=>k.wr i (h.wr i hi),λi h1 h2=>by
  rcases lq i b.next with h3|h3
  .exact k.wr i (h.made i h1 h3)
  .exact k.made i h3 h2,λhs=>k.sub (h.sub hs),λi hi hw=>by
   rw[k.kept i (yb hi h.next) hw,h.kept i hi λh'=>hw (k.wr i h')],λha=>k.eh (h.eh ha)⟩
theorem aF.aV (s:St)(b:Nat):aF s (s.aV b):=
 ⟨by simp,λi hi=>by simp only[sc,gG];exact Or.inl hi,λi hi=>by simpa using hi,λi h1 h2=>by simp at h2;omega,λhs i hi=>by simp only[sc,B9,gG] at hi⊢;exact Or.inl (hs i hi),λi _ _=>by simp,λh=>by simpa using h⟩
theorem aF.put (s:St)(b:Nat)(o:Option gF)(hb:s.heap.get b≠none):aF s (s.put b o):=
 ⟨by simp,λi hi=>by simp only[qV,gG];exact Or.inl hi,λi hi=>by simp only[sZ,gG];exact Or.inl hi,λi h1 h2=>by simp at h2;omega,λhs i hi=>by simp only[qV,sZ,gG] at hi⊢;exact hi.imp (hs i) id,
  λi hi hw=>by rw[qU,if_neg];rintro rfl;exact hw (by rw[sZ];exact(gG _ _ _).2 (.inr rfl)),
  λh i hi=>by
     rw[dZ] at hi;rw[qU,if_neg];.exact h i hi
     .rintro rfl;exact hb (h _ hi)⟩
theorem aF.jF (s:St)(o:gF):aF s (s.new o):=
 ⟨by simp,λi hi=>by simp only[yy,gG];exact Or.inl hi,λi hi=>by simp only[xf,gG];exact Or.inl hi,λi h1 h2=>by simp only[lW,xf,gG] at h2⊢;exact Or.inr ag,λhs i hi=>by simp only[yy,xf,gG] at hi⊢;exact hi.imp (hs i) id,
  λi hi hw=>by rw[Ca,if_neg ag],
  λh i hi=>by rw[lW] at hi;rw[Ca,if_neg ag];exact h i ag⟩
section
variable {P:Program}{X A:Nat->Prop}{ρ BM B8:fB}{s s1 s2:St}{w w1 w2:World}
theorem fb.mono {g:Nat->Option gF}{B:Nat->Prop}(h:fb P X A ρ g w)(hA:∀i,A i->B i)(Ad:∀i,A i->B8 i=ρ i):fb P X B B8 g w:=by
 refine⟨λb o hx hg=>?_,λb b' o o' hx rN hg ZV e=>?_⟩
 .obtain⟨h1,x,h2,h3⟩:=h.lp b o hx hg;refine⟨hA b h1,x,by rw[Ad b h1];exact h2,?_⟩;rw[Ad b h1];exact h3.mono hA Ad
 .rw[Ad b (h.lp b o hx hg).1,Ad b' (h.lp b' o' rN ZV).1] at e;exact h.inj b b' o o' hx rN hg ZV e
theorem fb.sub {g:Nat->Option gF}{Y:Nat->Prop}(h:fb P X A ρ g w)(hY:∀i,Y i->X i):fb P Y A ρ g w:=
 ⟨λb o hx hg=>h.lp b o (hY b hx) hg,λb b' o o' hx rN hg ZV e=>h.inj b b' o o' (hY b hx) (hY b' rN) hg ZV e⟩
theorem fb.lt {g:Nat->Option gF}(h:fb P X A ρ g w){b:Nat}{o:gF}(hx:X b)(hg:g b=some o):(ρ b).1<w.heap.size:=by
 obtain⟨_,x,h2,_⟩:=h.lp b o hx hg;exact(yc.1 h2).1
theorem Good.Va (jw:fb P X A ρ s.heap.get w)(Ae:∀b,s.next<=b->s.heap.get b=none)(hn:s1.next=s.next)(hg:s1.heap=s.heap)(hw:w1.heap=w.heap)(ho:w1.os=w.os)(ht:w1.tape=w.tape)(hp:w1.output=w.output):Good P X A ρ s s1 w w1 ρ:=by
 refine⟨ag,λ_ _=>rfl,?_,⟨ho,ht,hp,by rw[hw];exact cA _,λr _ _=>by rw[hw]⟩,λb _ h=>by rw[hg] at h;exact h,λb h1 h2=>by omega,λb _ _=>by rw[hg],λb hb=>by rw[hg];exact Ae b ag⟩;rw[hg];refine⟨λb o hx hb=>?_,jw.inj⟩;obtain⟨h1,x,h2,h3⟩:=jw.lp b o hx hb;exact⟨.inl h1,x,by rw[hw];exact h2,h3.mono (λi hi=>.inl hi) (λ_ _=>rfl)⟩
theorem Good.refl (jw:fb P X A ρ s.heap.get w)(Ae:∀b,s.next<=b->s.heap.get b=none):Good P X A ρ s s w w ρ:=Good.Va jw Ae rfl rfl rfl rfl rfl rfl
theorem Good.trans (hX:∀b,In s2.cO b->X b)(BN:aF s s1)(Cb:aF s1 s2)(hA:∀i,A i->i<s.next)(h:Good P X A ρ s s1 w w1 BM)(k:Good P X (di A s.next s1.next) BM s1 s2 w1 w2 B8):Good P X A ρ s s2 w w2 B8:=by
 have oJ:∀i,di (di A s.next s1.next) s1.next s2.next i->di A s.next s2.next i:=by
  rintro i ((h1|⟨h1,h2⟩)|⟨h1,h2⟩)
  .exact .inl h1
  .exact .inr ⟨h1,yb h2 Cb.next⟩
  .exact .inr ⟨ik BN.next h1,h2⟩
 refine⟨ik BN.next Cb.next,λi hi=>?_,k.state.mono oJ (λ_ _=>rfl),?_,λb hb h2=>?_,λb h1 h2 h3=>?_,λb hb hw=>?_,k.eh⟩
 .rw[k.same i λh'=>hi ⟨ik BN.next h'.1,h'.2⟩,h.same i λh'=>hi ⟨h'.1,yb h'.2 Cb.next⟩]
 .refine⟨k.fQ.os.trans h.fQ.os,k.fQ.tape.trans h.fQ.tape,k.fQ.output.trans h.fQ.output,ik h.fQ.size k.fQ.size,λr hr ht=>?_⟩;rw[k.fQ.block r (yb hr h.fQ.size) ?_,h.fQ.block r hr ?_]
  .rintro⟨b,o,hb,hx,ho,e⟩;exact ht ⟨b,o,Cb.wr b hb,hx,ho,e⟩
  .rintro⟨b,o,hb,hx,ho,e⟩;rcases lq b s.next with du|ZW
   .have h3:=h.old b du (by rw[ho];simp);obtain⟨o',A9⟩:=J8.1 h3;exact ht ⟨b,o',hb,hx,A9,by rw[<-e,h.same b ag]⟩
   .rcases lq b s1.next with Fu|adx
    .rcases h.bD b ZW Fu (by rw[ho];simp) with h3|⟨c,o',hc,ZX,hoc,h3⟩
     .omega
     .exact ht ⟨c,o',Cb.wr c hc,ZX,hoc,by rw[<-e,h3]⟩
    .rw[h.eh b adx] at ho;cases ho
 .rcases J8.1 (k.old b (yb hb BN.next) h2) with⟨o,ho⟩
  exact h.old b hb (by rw[ho];simp)
 .rcases lq b s1.next with du|ZW
  .have h4:=k.old b du h3;rw[k.same b ag];rcases h.bD b h1 du h4 with h5|⟨c,o,hc,ZX,hoc,h5⟩
   .exact .inl h5
   .exact .inr ⟨c,o,Cb.wr c hc,ZX,hoc,h5⟩
  .rcases k.bD b ZW h2 h3 with h5|⟨c,o,hc,ZX,hoc,h5⟩
   .exact .inl (ik h.fQ.size h5)
   .rcases lq c s.next with du|ajO
    .obtain⟨o',A9⟩:=J8.1 (h.old c du (by rw[hoc];simp));exact .inr ⟨c,o',hc,ZX,A9,by rw[h5,h.same c ag]⟩
    .rcases lq c s1.next with Fu|adx
     .rcases h.bD c ajO Fu (by rw[hoc];simp) with h6|⟨c',o',ui,ajP,ajQ,h6⟩
      .exact .inl (by rw[h5];exact h6)
      .exact .inr ⟨c',o',Cb.wr c' ui,ajP,ajQ,by rw[h5,h6]⟩
     .rw[h.eh c adx] at hoc;cases hoc
 .rw[k.kept b (yb hb BN.next) hw,h.kept b hb λh'=>hw (Cb.wr b h')]
end
structure cS (E:dA)(P:Program):Prop where
 ty:∀t i,E.ty.get t=some i->P.info? t=some i
 fn:∀f x,E.fn.get f=some x->P.funcs[f]?=some x
 U3:liesAt P P.depth E.U3 (2/ P.cellsOf E.U3) 0 E.U3 1=true
 agb:P.underlying E.U3≠some (.int .u8)
 eqs:∀t xs,yn t xs E.eqs=true->∀(ys:aQ)(r:Bool),fO xs ys=some r->∀w,(Op.equal t (.agg ⟨xs⟩) (.agg ⟨ys⟩)).run P w= .ok r w/\∀op ox oy,(eqGuard op t ox oy (.agg ⟨xs⟩) (.agg ⟨ys⟩)).run P w= .ok () w
 keys:∀t xs,yn t xs E.eqs=true->∀b w,(Instr.checkKey b 10000 t (.agg ⟨xs⟩)).run P w= .ok () w
 zs:∀t i z,E.ty.get t=some i->i.zero=some z->∀ρ,bY ρ z=z
 agc:∀t m f,mc t m E.rV=some f->∀(a:Addr)(args:Array Value) w,(callMethod (.iface t (.pointer (some a))) m args).run P w=(callFunc f (#[.pointer (some a)]++args)).run P w
 agd:∀t m f,mc t m E.rV=some f->∀(a:Addr) w,(nilAhead (P.types.size+Made.depth) t (.pointer (some a)) m).run P w= .ok (some false) w
section
variable {E:dA}{P:Program}
theorem dX (hE:cS E P){t:TypeId}{d:TypeDesc}(h:ja E t=some d):P.underlying t=some d:=by
 obtain⟨i,hi,h⟩:=aC h;have h1:=hE.ty t i hi;unfold Program.underlying;rw[h1];unfold af4 at h;split at h
 .rename_i n u hd;obtain⟨j,hj,h⟩:=aC h;have h2:=hE.ty u j hj;obtain⟨desc,_,_,_,_,_,_,_,_,_⟩:=i;simp only at hd;subst hd;simpa[h2] using h
 .rename_i hd;obtain⟨desc,_,_,_,_,_,_,_,_,_⟩:=i;simp only at hd h⊢;cases desc<;>simp_all
theorem Cc (hE:cS E P){t:TypeId}{n:Nat}(h:size E t=some n):∃i,P.info? t=some i/\i.size=n:=by
 obtain⟨i,hi,h⟩:=aC h;exact⟨i,hE.ty t i hi,by simpa using h⟩
theorem ZY (hE:cS E P){t:TypeId}{z:Value}(h:zero E t=some z):∃i,P.info? t=some i/\i.zero=some z:=by
 obtain⟨i,hi,h⟩:=aC h;exact⟨i,hE.ty t i hi,h⟩
theorem mz (hE:cS E P){t:TypeId}{z:Value}(h:zero E t=some z)(ρ:fB):bY ρ z=z:=by
 obtain⟨i,hi,h⟩:=aC h;exact hE.zs t i z hi h ρ
theorem vu (hE:cS E P){t:TypeId}{d:TypeDesc}(h:ja E t=some d)(w:World):(isAgg t).run P w= .ok (z8 d) w:=by
 unfold isAgg;simp only[Sem.run_bind,run_underlying (dX hE h) w,Result.andThen_ok];cases d<;>rfl
theorem run_sizeOf (hE:cS E P){t:TypeId}{n:Nat}(h:size E t=some n)(w:World):(sizeOf t).run P w= .ok n w:=by
 obtain⟨i,h1,h2⟩:=Cc hE h;simp[sizeOf,typeInfo,h1,h2]
theorem j7 (hE:cS E P){t:TypeId}{z:Value}(h:zero E t=some z)(w:World):(zeroValue t).run P w= .ok z w:=by
 obtain⟨i,h1,h2⟩:=ZY hE h;simp[zeroValue,typeInfo,h1,h2]
theorem nT (hE:cS E P){t:TypeId}{n:Nat}(h:size E t=some n):P.cellsOf t=n:=by
 obtain⟨i,h1,h2⟩:=Cc hE h;simp[Program.cellsOf,h1,h2]
end
theorem Ky (v:Value):flat v=v.oneCell':=by cases v<;>rfl
theorem add_lit (b o i:Nat):(⟨b,o,none⟩:Addr).add i=⟨b,o+i,none⟩:=by unfold Addr.add;split<;>simp_all
theorem yz {w:World}{g:Nat}{cs:aQ}{e:TypeId}{fr:Nat×Nat}(hg:w.heap[g]?=some (.cells ⟨cs⟩ e fr))(j:Nat):w.cell? ⟨g,j,none⟩=cs[j]?:=by
 simp[World.cell?,hg]
theorem jd (P:Program){w:World}{g:Nat}{cs:aQ}{e:TypeId}{fr:Nat×Nat}(hg:w.heap[g]?=some (.cells ⟨cs⟩ e fr))(o n:Nat)(h:o+n<=cs.length):
  (loadCells ⟨g,o,none⟩ n).run P w= .ok ((cs.drop o).take n).toArray w:=by
 have hl:((cs.drop o).take n).length=n:=by simp;omega
 have:=run_loadCells_list (P:=P) w ⟨g,o,none⟩ ((cs.drop o).take n) (λj v hv=>by
  rw[add_lit,yz hg];rw[J9] at hv;split at hv
  .simpa using hv
  .cases hv)
 rwa [hl] at this
theorem rB (v:Value):∀(l:aQ)(k:Nat),k<l.length->(l.set k v).take (k+1)=l.take k++[v]
 |[],k,h=>by simp at h
 |x::xs,0,_=>by simp
 |x::xs,k+1,h=>by simpa using rB v xs k (by simpa using h)
theorem wE (v:Value)(l:aQ)(k m:Nat):(l.set k v).drop (k+1+m)=l.drop (k+1+m):=by
 rw[List.drop_set_of_lt ag]
theorem mf (P:Program)(g o:Nat)(t:TypeId)(fz:Nat×Nat):∀(vs:aQ)(i:Nat)(cur:Array Value)(w:World),w.heap[g]?=some (.cells cur t fz)->(fz=(0,0)\/cur.size<=fz.1)->o+i+vs.length<=cur.size->(∀v∈vs,v.oneCell'=true)->
  (storeCells ⟨g,o,none⟩ vs i).run P w= .ok () (w.setRow g (cur.toList.take (o+i)++vs++cur.toList.drop (o+i+vs.length)).toArray)
 |[],i,cur,w,hg,_,_,_=>by
  simp only[storeCells,ix,mJ,wY,yd,Array.toArray_toList];rw[setRow_self w g cur t fz hg];rfl
 |v::aO,i,cur,w,hg,hfz,hl,h1=>by
  have hi:o+i<cur.size:=by simp at hl;omega
  have BO:(⟨g,o,none⟩:Addr).add i=⟨g,o+i,none⟩:=add_lit g o i;have tX:w.cell? ⟨g,o+i,none⟩=some cur[o+i]:=by simp[World.cell?,hg,hi]
  have ajR:w.frozen? ⟨g,o+i,none⟩=false:=by
   obtain⟨lo,fE⟩:=fz;simp only[World.frozen?,hg,zX,mb];rcases hfz with h|h
   .simp at h;omega
   .simp only at h;omega
  have jw:(store ((⟨g,o,none⟩:Addr).add i) v).run P w= .ok () (w.setRow g (cur.setIfInBounds (o+i) v)):=by
   rw[BO,run_store P w _ v _ (h1 v (by simp)),tX];simp[ajR,setCell_eq_setRow w g (o+i) cur t fz v hg]
  have ih:=mf P g o t fz aO (i+1) (cur.setIfInBounds (o+i) v) (w.setRow g (cur.setIfInBounds (o+i) v)) (setRow_heap w g cur _ t _ hg) (by simpa using hfz) (by simp at hl⊢;omega) (λx hx=>h1 x (by simp[hx]));simp only[storeCells,Sem.run_bind,jw,Result.andThen_ok,ih,setRow_setRow]
  congr 3
  rw[Array.toList_setIfInBounds,show o+(i+1)=o+i+1 by omega,rB _ _ _ (by simpa using hi),wE,cY,show o+i+1+aO.length=o+i+(aO.length+1) by omega];simp
section
variable {E:dA}{P:Program}{X A:Nat->Prop}{ρ:fB}{s s':St}{w:World}
theorem mW {β:Type}{k:aQ->TypeId->Bool->St->Option β}{b:Nat}{r:β}(h:s.row b k=some r):∃c e u,s.heap.get b=some (.cells c e u)/\k c e u (s.aV b)=some r:=by
 obtain⟨o,h1,h2⟩:=aC h;cases o with
 |cells c e u=>exact⟨c,e,u,h1,h2⟩
 |map es=>cases h2
 |lM z p=>cases h2
 |tW m=>cases h2
 |uh ws=>cases h2
theorem fb.row (h:fb P X A ρ s.heap.get w){b:Nat}{c:aQ}{e:TypeId}{u:Bool}(hx:X b)(hg:s.heap.get b=some (.cells c e u)):
  A b/\∃(c' aO:aQ)(fr:Nat×Nat),w.heap[(ρ b).1]?=some (.cells ⟨c'++aO⟩ e fr)/\LR A ρ c c'/\c'.length=c.length/\(fr=(0,0)\/(c'++aO).length<=fr.1)/\
    (u=true->fr=(0,0)/\c.length+aO.length=(ρ b).2*P.cellsOf e/\0<P.cellsOf e/\(ρ b).2<=maxLen)/\
    (u=false->((aO=[]/\fr=(0,0))\/(P.underlying e=some (.int .u8)/\P.cellsOf e=1/\c.length+aO.length<=fr.1))/\c.length<=(ρ b).2):=by
 obtain⟨h1,x,h2,c',aO,fr,rfl,h3,h4,h5⟩:=h.lp b _ hx hg;refine⟨h1,c',aO,fr,h2,h3,h3.length,?_,h4,h5⟩;cases u with
 |true=>exact .inl (h4 rfl).1
 |false=>rcases(h5 rfl).1 with h6|h6
         .exact .inl h6.2
         .exact .inr (by rw[bJ,h3.length];exact h6.2.2)
theorem Gw:∀(ws:List (Nat×aQ))(off:Nat){p:Nat×aQ},yk ws off=some p->p∈ws/\p.1<=off
 |[],off,p,h=>by cases h
 |q::l,off,p,h=>by
  have h:bo (Nat.ble q.1 off&&Nat.ble (Nat.succ (Nat.sub off q.1)) q.2.length) (some q) (yk l off)=some p:=h;rw[dO] at h;split at h
  .rename_i hb;cases h
   rw[bU] at hb;exact⟨iV,qF hb.1⟩
  .obtain⟨h1,h2⟩:=Gw l off h;exact⟨lu _ h1,h2⟩
theorem ZZ {β:Type}{k:aQ->Nat->St->Option β}{b off:Nat}{r:β}(h:s.Ko b off k=some r):∃c m,((m=0/\∃e u,s.heap.get b=some (.cells c e u))\/∃ws,s.heap.get b=some (.uh ws)/\(m,c)∈ws)/\m<=off/\k c (off-m) (s.aV b)=some r:=by
 obtain⟨o,h1,h2⟩:=aC h;cases o with
 |cells c e u=>exact⟨c,0,.inl ⟨rfl,e,u,h1⟩,iJ _,h2⟩
 |map es=>cases h2
 |lM z p=>cases h2
 |tW m=>cases h2
 |uh ws=>
  obtain⟨p,hp,h4⟩:=aC h2;obtain⟨h5,h6⟩:=Gw ws off hp;exact⟨p.2,p.1,.inr ⟨ws,h1,h5⟩,h6,h4⟩
theorem fb.Ko (h:fb P X A ρ s.heap.get w){b m:Nat}{c:aQ}(hx:X b)(hg:(m=0/\∃e u,s.heap.get b=some (.cells c e u))\/∃ws,s.heap.get b=some (.uh ws)/\(m,c)∈ws):
  A b/\∃(pre c' aO:aQ)(e:TypeId)(fr:Nat×Nat),w.heap[(ρ b).1]?=some (.cells ⟨pre++(c'++aO)⟩ e fr)/\pre.length=m/\LR A ρ c c'/\c'.length=c.length:=by
 rcases hg with⟨rfl,e,u,hg⟩|⟨ws,hg,hm⟩
 .obtain⟨h1,c',aO,fr,h2,h3,h4,_⟩:=h.row hx hg;exact⟨h1,[],c',aO,e,fr,h2,rfl,h3,h4⟩
 .obtain⟨h1,x,h2,cs,t,fr,rfl,h0⟩:=h.lp b _ hx hg;obtain⟨pre,c',aO,rfl,h4,h3⟩:=h0 _ hm;exact⟨h1,pre,c',aO,t,fr,h2,h4,h3,h3.length⟩
theorem Kz (hE:cS E P){t:TypeId}{b off:Nat}{v:Value}(h:mq E s t b off=some (v,s')):
  s'=s.aV b/\∀X A ρ w,X b->fb P X A ρ s.heap.get w->∃v',(loadVar t ⟨(ρ b).1,off,none⟩).run P w= .ok v' w/\VR A ρ v v':=by
 obtain⟨c,m,hg,hm,h⟩:=ZZ h;obtain⟨d,hd,h⟩:=aC h;cases ha:z8 d with
 |true=>
  rw[ha] at h;obtain⟨n,hn,h⟩:=aC h;obtain⟨cs,vv,h⟩:=aC h;simp only[rS,cx] at h;obtain⟨rfl,rfl⟩:=h;refine⟨rfl,λX A ρ w hx jw=>?_⟩;obtain⟨h1,pre,c',aO,e,fr,h2,h0,h3,h4⟩:=jw.Ko hx hg;rw[pZ] at vv;obtain⟨h5,rfl⟩:=kP vv;rw[gd] at h5;rcases wc n with rfl|x7
  .refine⟨.agg #[],?_,?_⟩
   .unfold loadVar;simp only[Sem.run_bind,vu hE hd,ha,Result.andThen_ok,if_true,run_sizeOf hE hn];rfl
   .simpa using VR.agg (LR.nil (A:=A) (ρ:=ρ))
  .refine⟨.agg ⟨(c'.drop (off-m)).take n⟩,?_,?_⟩
   .unfold loadVar;simp only[Sem.run_bind,vu hE hd,ha,Result.andThen_ok,if_true,run_sizeOf hE hn];rw[jd P h2 off n (by simp;omega)];have:((pre++(c'++aO)).drop off).take n=(c'.drop (off-m)).take n:=by
     rw[List.drop_append,ye ag,pT,h0,RH ag,BJ (by simp;omega)]
    rw[this];rfl
   .exact VR.agg ((h3.drop (off-m)).take n)
 |false=>
  rw[ha] at h;obtain⟨v0,hv,h⟩:=aC h;simp only[rS,cx] at h;obtain⟨rfl,rfl⟩:=h;refine⟨rfl,λX A ρ w hx jw=>?_⟩;obtain⟨h1,pre,c',aO,e,fr,h2,h0,h3,h4⟩:=jw.Ko hx hg;rw[dR] at hv;obtain⟨v',hv',hr⟩:=h3.get hv;refine⟨v',?_,hr⟩;have hc:w.cell? ⟨(ρ b).1,off,none⟩=some v':=by
   rw[yz h2,zY ag,h0,wZ (by
    have:=(ug.1 hv').1;omega)]
   exact hv'
  unfold loadVar;simp only[Sem.run_bind,vu hE hd,ha,Result.andThen_ok,pg,jQ];simp[load,Sem.run,hc]
end
def fB.at (ρ:fB)(n:Nat)(q:Nat×Nat):fB:=λi=>if i=n then q else ρ i
@[simp] theorem fB.qW (ρ:fB)(n:Nat)(q:Nat×Nat):ρ.at n q n=q:=by simp[fB.at]
theorem fB.tY (ρ:fB){n i:Nat}(q:Nat×Nat)(h:i≠n):ρ.at n q i=ρ i:=by simp[fB.at,h]
section
variable {P:Program}{X A:Nat->Prop}{ρ:fB}{s s':St}{w w':World}
theorem Good.bf {b:Nat}{o o':gF}{x':Obj}(jw:fb P X A ρ s.heap.get w)(kK:∀b,s.next<=b->s.heap.get b=none)(hx:X b)(hg:s.heap.get b=some o)
  (fJ:∀c,s'.heap.get c=if c=b then some o' else s.heap.get c)(Vb:s'.next=s.next)(nU:In s'.wr b)
  (rN:w'.heap[(ρ b).1]?=some x')(ho:Ft P A ρ (ρ b) o' x')(hf:Fr w w' λr=>r=(ρ b).1):Good P X A ρ s s' w w' ρ:=by
 have hbn:b<s.next:=by
  rcases lq b s.next with h|h
  .exact h
  .rw[kK b h] at hg;cases hg
 have key:∀c o2,X c->s'.heap.get c=some o2->∃o3,s.heap.get c=some o3:=by
  intro c o2 _ h;rw[fJ] at h;split at h
  .subst c;exact⟨o,hg⟩
  .exact⟨o2,h⟩
 refine⟨ag,λ_ _=>rfl,⟨λc o2 hc h=>?_,λc c' o2 o3 hc ui h h' e=>?_⟩,⟨hf.os,hf.tape,hf.output,hf.size,λr hr ht=>hf.block r hr λe=>ht ⟨b,o,nU,hx,hg,e.symm⟩⟩,λc hc h=>?_,λc h1 h2=>by omega,λc hc hw=>?_,λc hc=>?_⟩
 .rw[fJ] at h;split at h
  .subst c;cases h
   exact⟨.inl (jw.lp b o hx hg).1,x',rN,ho.mono (λi hi=>.inl hi) (λ_ _=>rfl)⟩
  .rename_i fK;obtain⟨h1,x,h2,h3⟩:=jw.lp c o2 hc h;refine⟨.inl h1,x,?_,h3.mono (λi hi=>.inl hi) (λ_ _=>rfl)⟩;rw[hf.block _ (yc.1 h2).1 (λe=>fK (jw.inj c b o2 o hc hx h hg e))];exact h2
 .obtain⟨o4,h4⟩:=key c o2 hc h;obtain⟨o5,h5⟩:=key c' o3 ui h';exact jw.inj c c' o4 o5 hc ui h4 h5 e
 .rw[fJ] at h;split at h
  .subst c;rw[hg];simp
  .exact h
 .rw[fJ,if_neg];rintro rfl;exact hw nU
 .rw[fJ,if_neg ag];exact kK c ag
theorem Good.alloc {o:gF}{x:Obj}{q:Nat×Nat}(jw:fb P X A ρ s.heap.get w)(kK:∀b,s.next<=b->s.heap.get b=none)(hA:∀i,A i->i<s.next)
  (fJ:∀c,s'.heap.get c=if c=s.next then some o else s.heap.get c)(Vb:s'.next=s.next+1)(nU:In s'.wr s.next)
  (hq:w.heap.size<=q.1)(hx:w'.heap[q.1]?=some x)(ho:Ft P A ρ q o x)(hf:Fr w w' λ_=>False):Good P X A ρ s s' w w' (ρ.at s.next q):=by
 have Ad:∀i,A i->ρ.at s.next q i=ρ i:=λi hi=>fB.tY ρ q (by have:=hA i hi;omega)
 have du:∀c o2,X c->s.heap.get c=some o2->(ρ c).1<w.heap.size:=λc o2 hc h=>jw.lt hc h
 refine' za9
 refine⟨ag,λi hi=>fB.tY ρ q ag,⟨λc o2 hc h=>?_,λc c' o2 o3 hc ui h h' e=>?_⟩,⟨hf.os,hf.tape,hf.output,hf.size,λr hr ht=>hf.block r hr λe=>e⟩,λc hc h=>?_,λc h1 h2 h3=>?_,λc hc hw=>?_,λc hc=>?_⟩
 .rw[fJ] at h;split at h
  .subst c;cases h
   rw[fB.qW];exact⟨.inr ⟨cA _,ag⟩,x,hx,ho.mono (λi hi=>.inl hi) Ad⟩
  .obtain⟨h1,y,h2,h3⟩:=jw.lp c o2 hc h;rw[Ad c h1];refine⟨.inl h1,y,?_,h3.mono (λi hi=>.inl hi) Ad⟩;rw[hf.block _ (yc.1 h2).1 (λe=>e)];exact h2
 .rw[fJ] at h h';split at h<;>split at h'
  .omega
  .subst c;rw[fB.qW,fB.tY ρ q (fK c' o3 h')] at e;have:=du c' o3 ui h';omega
  .subst c';rw[fB.qW,fB.tY ρ q (fK c o2 h)] at e;have:=du c o2 hc h;omega
  .rw[fB.tY ρ q (fK c o2 h),fB.tY ρ q (fK c' o3 h')] at e;exact jw.inj c c' o2 o3 hc ui h h' e
 .rw[fJ,if_neg ag] at h;exact h
 .have:c=s.next:=by omega
  subst c;rw[fB.qW];exact .inl hq
 .rw[fJ,if_neg ag]
 .rw[fJ,if_neg ag];exact kK c ag
theorem Good.renew {b:Nat}{o o':gF}{x':Obj}(jw:fb P X A ρ s.heap.get w)(kK:∀b,s.next<=b->s.heap.get b=none)(hA:∀i,A i->i<s.next)(hx:X b)(hg:s.heap.get b=some o)
  (fJ:∀c,s'.heap.get c=if c=s.next then some o' else if c=b then none else s.heap.get c)(Vb:s'.next=s.next+1)(nU:In s'.wr b)(hwn:In s'.wr s.next)
  (rN:w'.heap[(ρ b).1]?=some x')(ho:Ft P A ρ (ρ b) o' x')(hf:Fr w w' λr=>r=(ρ b).1):Good P X A ρ s s' w w' (ρ.at s.next (ρ b)):=by
 have Ad:∀i,A i->ρ.at s.next (ρ b) i=ρ i:=λi hi=>fB.tY ρ (ρ b) (by have:=hA i hi;omega)
 refine' za9
 refine⟨ag,λi hi=>fB.tY ρ _ ag,⟨λc o2 hc h=>?_,λc c' o2 o3 hc ui h h' e=>?_⟩,⟨hf.os,hf.tape,hf.output,hf.size,λr hr ht=>hf.block r hr λe=>ht ⟨b,o,nU,hx,hg,e.symm⟩⟩,λc hc h=>?_,λc h1 h2 h3=>?_,λc hc hw=>?_,λc hc=>?_⟩
 .rw[fJ] at h;split at h
  .subst c;cases h
   rw[fB.qW];exact⟨.inr ⟨cA _,ag⟩,x',rN,ho.mono (λi hi=>.inl hi) Ad⟩
  .split at h
   .cases h
   .rename_i hcb;obtain⟨h1,y,h2,h3⟩:=jw.lp c o2 hc h;rw[Ad c h1];refine⟨.inl h1,y,?_,h3.mono (λi hi=>.inl hi) Ad⟩;rw[hf.block _ (yc.1 h2).1 (λe=>hcb (jw.inj c b o2 o hc hx h hg e))];exact h2
 .rw[fJ] at h h';split at h<;>split at h'
  .omega
  .subst c;split at h'
   .cases h'
   .rename_i hcb;rw[fB.qW,fB.tY ρ _ (fK c' o3 h')] at e;exact absurd (jw.inj c' b o3 o ui hx h' hg e.symm) hcb
  .subst c';split at h
   .cases h
   .rename_i hcb;rw[fB.qW,fB.tY ρ _ (fK c o2 h)] at e;exact absurd (jw.inj c b o2 o hc hx h hg e) hcb
  .split at h
   .cases h
   .split at h'
    .cases h'
    .rw[fB.tY ρ _ (fK c o2 h),fB.tY ρ _ (fK c' o3 h')] at e;exact jw.inj c c' o2 o3 hc ui h h' e
 .rw[fJ,if_neg ag] at h;split at h
  .exact absurd rfl h
  .exact h
 .have:c=s.next:=by omega
  subst c;rw[fB.qW];exact .inr ⟨b,o,nU,hx,hg,rfl⟩
 .rw[fJ,if_neg ag,if_neg];rintro rfl;exact hw nU
 .rw[fJ,if_neg ag];split
  .rfl
  .exact kK c ag
theorem Good.drop {b:Nat}(jw:fb P X A ρ s.heap.get w)(kK:∀b,s.next<=b->s.heap.get b=none)
  (fJ:∀c,s'.heap.get c=if c=b then none else s.heap.get c)(Vb:s'.next=s.next)(nU:In s'.wr b){o:gF}(hx:X b)(hg:s.heap.get b=some o)
  (hf:Fr w w' λr=>r=(ρ b).1):Good P X A ρ s s' w w' ρ:=by
 refine⟨ag,λi hi=>rfl,⟨λc o2 hc h=>?_,λc c' o2 o3 hc ui h h' e=>?_⟩,⟨hf.os,hf.tape,hf.output,hf.size,λr hr ht=>hf.block r hr λe=>ht ⟨b,o,nU,hx,hg,e.symm⟩⟩,λc hc h=>?_,λc h1 h2 h3=>by omega,λc hc hw=>?_,λc hc=>?_⟩
 .rw[fJ] at h;split at h
  .cases h
  .rename_i hcb;obtain⟨h1,y,h2,h3⟩:=jw.lp c o2 hc h;refine⟨.inl h1,y,?_,h3.mono (λi hi=>.inl hi) (λ_ _=>rfl)⟩;rw[hf.block _ (yc.1 h2).1 (λe=>hcb (jw.inj c b o2 o hc hx h hg e))];exact h2
 .rw[fJ] at h h';split at h
  .cases h
  .split at h'
   .cases h'
   .exact jw.inj c c' o2 o3 hc ui h h' e
 .rw[fJ] at h;split at h
  .exact absurd rfl h
  .exact h
 .rw[fJ,if_neg];rintro rfl;exact hw nU
 .rw[fJ];split
  .rfl
  .exact kK c ag
theorem Fr.alloc (w:World)(o:Obj):Fr w (w.alloc o) λ_=>False:=⟨rfl,rfl,rfl,by simp,λr hr _=>by first|exact heap_alloc_old w o r hr|exact heap_alloc_old w o hr⟩
theorem Fr.Gx (w:World)(o:Obj):Fr w (w.drew.alloc o) λ_=>False:=⟨rfl,rfl,rfl,by simp,λr hr _=>by first|exact heap_alloc_old w.drew o r hr|exact heap_alloc_old w.drew o hr⟩
theorem Fr.setRow (w:World)(g:Nat)(cs:Array Value):Fr w (w.setRow g cs) λr=>r=g:=⟨rfl,rfl,rfl,by simp,λr _ h=>setRow_other w g r cs h⟩
end
def Gl (A:Nat->Prop)(ρ:fB):Prop:=∀g,g<16->A g/\(ρ g).1=g
structure o8 (P:Program)(X A:Nat->Prop)(ρ:fB)(s s':St)(w:World):Prop where
 lt:∀i,A i->i<s.next
 eh:∀b,s.next<=b->s.heap.get b=none
 cO:∀b,In s'.cO b->X b
 st:fb P X A ρ s.heap.get w
def cD (P:Program)(X A:Nat->Prop)(ρ:fB)(s s':St)(w:World)(v:Value)(m:Sem Value):Prop:=
 ∃v' w' eI,m.run P w= .ok v' w'/\VR (di A s.next s'.next) eI v v'/\Good P X A ρ s s' w w' eI
section
variable {E:dA}{P:Program}{X A:Nat->Prop}{ρ:fB}{s s':St}{w:World}{v v':Value}{m:Sem Value}
theorem cD.same (h:o8 P X A ρ s s' w)(hn:s'.next=s.next)(hg:s'.heap=s.heap)(hr:m.run P w= .ok v' w)(hv:VR A ρ v v'):cD P X A ρ s s' w v m:=
 ⟨v',w,ρ,hr,hv.mono (λi hi=>.inl hi) (λ_ _=>rfl),Good.Va h.st h.eh hn hg rfl rfl rfl rfl⟩
theorem cD.pure (h:o8 P X A ρ s s w)(hr:m.run P w= .ok v' w)(hv:VR A ρ v v'):cD P X A ρ s s w v m:=cD.same h rfl rfl hr hv
theorem gv (s:St)(b:Nat):In (s.aV b).cO b:=by rw[sc];exact(gG _ _ _).2 (.inr rfl)
theorem fe (s:St)(b:Nat)(o:Option gF):In (s.put b o).cO b:=by rw[qV];exact(gG _ _ _).2 (.inr rfl)
theorem je (s:St)(b:Nat)(o:Option gF):In (s.put b o).wr b:=by rw[sZ];exact(gG _ _ _).2 (.inr rfl)
theorem j8 (s:St)(o:gF):In (s.new o).wr s.next:=by rw[xf];exact(gG _ _ _).2 (.inr rfl)
theorem p9 (e:TypeId)(cs:Array Value)(w:World):(newRow e cs).run P w= .ok ⟨w.heap.size,0,none⟩ (w.alloc (.cells cs e)):=rfl
theorem Ql {c:aQ}{t:TypeId}(h:NT s c t=some (v,s')):aF s s'/\∀X A ρ w c',o8 P X A ρ s s' w->LR A ρ c c'->cD P X A ρ s s' w v (do pure (.pointer (some (<-newRow t ⟨c'⟩)))):=by
 simp only[NT,aL,rS,cx] at h;obtain⟨rfl,rfl⟩:=h;refine⟨aF.jF s _,λX A ρ w c' hp hc=>⟨.pointer (some ⟨w.heap.size,0,none⟩),w.alloc (.cells ⟨c'⟩ t),ρ.at s.next (w.heap.size,c.length),?_,?_,?_⟩⟩
 .simp only[Sem.run_bind,p9,Result.andThen_ok];rfl
 .have:=VR.ptr (A:=di A s.next (s.new (.cells c t false)).next) (ρ:=ρ.at s.next (w.heap.size,c.length)) (b:=s.next) (o:=0) (s:=none) (.inr ⟨cA _,by simp⟩);simpa using this
 .refine Good.alloc (o:=.cells c t false) (x:=.cells ⟨c'⟩ t) hp.st hp.eh hp.lt (λc=>by simp) (by simp) (j8 s _) (cA _) (heap_alloc_new w _) ?_ (Fr.alloc w _);exact⟨c',[],(0,0),by simp,hc,(λh=>by cases h),λ_=>⟨.inl ⟨rfl,rfl⟩,cA _⟩⟩
theorem RU (hE:cS E P){t:TypeId}(h:Ik E s t=some (v,s')):aF s s'/\∀X A ρ w,o8 P X A ρ s s' w->cD P X A ρ s s' w v (Instr.alloc t true (.tuple #[])):=by
 obtain⟨z,hz,h⟩:=aC h;obtain⟨hg,hk⟩:=Ql (P:=P) h;refine⟨hg,λX A ρ w hp=>?_⟩;have hc:LR A ρ (bW z) z.cells.toList:=by rw[gU];exact(VR.ground (mz hE hz)).cells
 obtain⟨v',w',eI,h1,h2,h3⟩:=hk X A ρ w _ hp hc;refine⟨v',w',eI,?_,h2,h3⟩;rw[<-h1];unfold Instr.alloc;simp only[Sem.run_bind,j7 hE hz,Result.andThen_ok];rfl
theorem Ir {β:Type}{x:Value}{k:Nat->Nat->Option β}{r:β}(h:Fa x k=some r):∃b o,x= .pointer (some ⟨b,o,none⟩)/\k b o=some r:=by
 unfold Fa at h;split at h
 .exact⟨_,_,rfl,h⟩
 .cases h
theorem VR.nL {b o:Nat}{t:Option Nat}(h:VR A ρ (.pointer (some ⟨b,o,t⟩)) v'):v'= .pointer (some ⟨(ρ b).1,o,t⟩):=by rw[<-h.self,mV]
theorem VR.fY {b o l c:Nat}(h:VR A ρ (.slice (some ⟨b,o,none⟩) l c) v'):v'= .slice (some ⟨(ρ b).1,o,none⟩) l (dD (ρ b) c):=by rw[<-h.self,eE]
theorem VR.s7 {a:Addr}{l c:Nat}(h:VR A ρ (.slice (some a) l c) v'):∃a',v'= .slice (some a') l (dD (ρ a.block) c):=by
 obtain⟨a',h1⟩:=sb ρ a l c;exact⟨a',by rw[<-h.self,h1]⟩
theorem VR.jf {l c:Nat}(h:VR A ρ (.slice none l c) v'):v'= .slice none l c:=by rw[<-h.self];simp
theorem Z0 (hE:cS E P){t:TypeId}{a:Value}(h:(Fa a λb o=>mq E s t b o)=some (v,s')):aF s s'/\∀X A ρ w a',o8 P X A ρ s s' w->VR A ρ a a'->cD P X A ρ s s' w v (Instr.loadAt t a'):=by
 obtain⟨b,o,rfl,h'⟩:=Ir h;clear h;replace h:=h';clear h';obtain⟨rfl,hk⟩:=Kz hE h;refine⟨aF.aV s b,λX A ρ w a' hp ha=>?_⟩;obtain⟨v',h1,h2⟩:=hk X A ρ w (hp.cO b (gv s b)) hp.st;refine cD.same hp (by simp) (by simp) ?_ h2;rw[ha.nL];exact h1
theorem Vc (hE:cS E P){t:TypeId}{a x:Value}(h:(Fa a λb o=>mU E s t b o x)=some (v,s')):aF s s'/\∀X A ρ w a' x',o8 P X A ρ s s' w->VR A ρ a a'->VR A ρ x x'->
  v= .tuple ⟨[]⟩/\∃w' eI,(Instr.storeAt t a' x').run P w= .ok () w'/\Good P X A ρ s s' w w' eI:=by
 obtain⟨b,o,rfl,h'⟩:=Ir h;clear h;replace h:=h';clear h';obtain⟨c,e,u,hg,h⟩:=mW h;obtain⟨n,hn,h⟩:=aC h;obtain⟨hl,h⟩:=bp h;obtain⟨hf,h⟩:=bp h;obtain⟨cs,vv,h⟩:=aC h;simp only[rS,cx] at h;obtain⟨rfl,rfl⟩:=h;refine⟨(aF.aV s b).trans (aF.put _ b _ (by rw[jc,hg];simp)),λX A ρ w a' x' hp ha hx=>⟨rfl,?_⟩⟩;have hX:X b:=hp.cO b (fe _ b _);obtain⟨hA,c',aO,fr,h2,h3,h4,h5,h6,h7⟩:=hp.st.row hX hg;rw[gU] at vv hl hf;rw[dh] at hl;obtain⟨h8,h9⟩:=nS _ _ vv;have ZX:=hx.cells;have Cd:=ZX.length;have jG:x'.cells.toList.length=n:=by rw[Cd];simpa using hl
 rw[ha.nL];refine⟨w.setRow (ρ b).1 (⟨(c'++aO).take o++x'.cells.toList++(c'++aO).drop (o+x'.cells.toList.length)⟩),ρ,?_,?_⟩
 .unfold Instr.storeAt Instr.sureAddr storeVar;have iW:x'.cells.size=n:=by simpa using jG
  have nV:=mf P (ρ b).1 o e fr x'.cells.toList 0 ⟨c'++aO⟩ w h2 (by simpa using h5) (by simp at h8 Cd⊢;omega) (λy hy=>by rw[<-Ky];exact ZX.jv ((mv _).1 hf) y hy);simp only[Sem.run_bind,Sem.run_pure,Result.andThen_ok,run_sizeOf hE hn,iW,ne_eq,not_true,pg,ite_false];simpa using nV
 .have c8:(c'++aO).take o++x'.cells.toList++(c'++aO).drop (o+x'.cells.toList.length)=(c'.take o++x'.cells.toList++c'.drop (o+x'.cells.toList.length))++aO:=by
   rw[BJ ag,RH ag];simp
  refine Good.bf (o:=.cells c e u) (o':=.cells cs e u) hp.st hp.eh hX hg (λc=>by simp) (by simp) (je _ b _) (setRow_heap w _ _ _ _ _ h2) ?_ (Fr.setRow w _ _);have h8':o+x.cells.size<=c.length:=by simpa using h8
  have uG:cs.length=c.length:=by rw[h9];simp;omega
  refine⟨c'.take o++x'.cells.toList++c'.drop (o+x'.cells.toList.length),aO,fr,by rw[c8],?_,?_,?_⟩
  .rw[h9,Cd];exact((h3.take o).append ZX).append (h3.drop _)
  .rw[uG];exact h6
  .rw[uG];exact h7
end
theorem rC (a b:Int):UB a b=decide (a<b):=by
 unfold UB;split
 .rename_i x y;rw[oZ];simp[RI]
 .rename_i x y;simp only[Bool.false_eq,mb,Int.ofNat_eq_natCast];omega
 .rename_i x y;simp only[Bool.true_eq,bQ,Int.ofNat_eq_natCast];omega
 .rename_i x y;rw[oZ];simp only[lR,bQ];omega
theorem jH (a b:Int):yl a b=(a== b):=by
 unfold yl;split
 .rename_i x y;rw[oZ];simp only[CA,zZ,Int.ofNat_eq_natCast];omega
 .rename_i x y;rw[oZ];simp
 .rename_i h1 h2;rw[oZ];simp only[jQ,zZ,false_iff];rintro rfl;cases a with
  |ofNat x=>exact h1 x x rfl rfl
  |negSucc x=>exact h2 x x rfl rfl
theorem jU (k:IntKind)(n:Int):pX k n=k.wrap n:=by
 unfold pX;split
 .rename_i m;rw[dO];split
  .rename_i h;simp only[lR] at h;cases k<;>simp[half,IntKind.wrap,IntKind.bits,IntKind.signed] at h⊢<;>omega
  .rfl
 .rfl
theorem vw {k j:IntKind}(h:pY k j=true):k=j:=by
 cases k<;>cases j<;>first|rfl|(exact absurd h (by decide))
theorem eR (x:List UInt8):∀y,gp x y=(x== y):=by
 induction x with
 |nil=>intro y;cases y<;>rfl
 |cons a x ih=>intro y;cases y with
  |nil=>rfl
  |cons b y=>
   have h:gp (a::x) (b::y)=bo (Nat.beq a.toNat b.toNat) (gp x y) false:=rfl;rw[h,ih,dO,oZ];simp[w6]
theorem s8 (x:List UInt8):∀y,ot x y=Op.bytesLess x y:=by
 induction x with
 |nil=>intro y;cases y<;>simp[Op.bytesLess]<;>rfl
 |cons a x ih=>intro y;cases y with
  |nil=>simp[Op.bytesLess];rfl
  |cons b y=>
   have h:ot (a::x) (b::y)=bo (Nat.ble (Nat.succ a.toNat) b.toNat) true (bo (Nat.beq a.toNat b.toNat) (ot x y) false):=rfl;rw[h,ih,dO,dO];simp only[Op.bytesLess,lR,CA,RI,<-RJ,w6];rw[oZ];by_cases h1:a<b<;>by_cases h2:a=b<;>simp[h1,h2]
theorem toList_data (s:ByteArray):s.toList=s.data.toList:=ByteArray.toList_eq s
section
variable {E:dA}{P:Program}{X A:Nat->Prop}{ρ:fB}{s s':St}{w:World}{v v' x y x' y':Value}
theorem Vd {β:Type}{b:Bool}{x:Option β}{r:β}(h:bo b none x=some r):b=false/\x=some r:=by
 cases b with
 |true=>cases h
 |false=>exact⟨rfl,h⟩
theorem Ve {op:BinOp}{k:IntKind}{a b:Int}(h:Kq op k a b=some v)(t:TypeId)(w:World):(binOp op t (.int k a) (.int k b)).run P w= .ok v w/\∀ρ,bY ρ v=v:=by
 cases op<;>simp only[Kq,rS,reduceCtorEq] at h
 case quo=>
  refine' zaP
 case rem=>
  refine' zaP
 case xor=>
  unfold af5 at h;split at h
  .rename_i m n;obtain⟨h0,h⟩:=bp h;simp only[rS] at h;subst h;simp only[bU,lR] at h0;refine⟨?_,λρ=>by simp⟩;have hm:m<2^ 8:=by omega
   have hn:n<2^ 8:=by omega
   have hx:(BitVec.ofInt 8 (Int.ofNat m)^^^ BitVec.ofInt 8 (Int.ofNat n)).toNat=m^^^ n:=by
    rw[BitVec.toNat_xor];have e1:(BitVec.ofInt 8 (Int.ofNat m)).toNat=m:=by
     rw[show(Int.ofNat m)=((m:Nat):Int) from rfl,ZH,ZI,Ic hm]
    have e2:(BitVec.ofInt 8 (Int.ofNat n)).toNat=n:=by
     rw[show(Int.ofNat n)=((n:Nat):Int) from rfl,ZH,ZI,Ic hn]
    rw[e1,e2]
   have du:m^^^ n<2^ 8:=Nat.xor_lt_two_pow hm hn;simp only[binOp,Op.intBits,IntKind.bits,Sem.run_pure,Result.ok.injEq,Value.int.injEq,Ka,z6,ne_eq,not_true_eq_false,pg,ite_false];show IntKind.u8.wrap ((((BitVec.ofInt 8 (Int.ofNat m))^^^ (BitVec.ofInt 8 (Int.ofNat n)):BitVec 8).toNat:Nat):Int)=((m^^^ n:Nat):Int);rw[hx];generalize m^^^ n=z at du⊢;simp[IntKind.wrap,IntKind.bits,IntKind.signed];omega
  .rename_i m n;obtain⟨h0,h⟩:=bp h;simp only[rS] at h;subst h;simp only[bU,lR] at h0;refine⟨?_,λρ=>by simp⟩;have hm:m<2^ 62:=by omega
   have hm':m<2^ 64:=by omega
   have hn:n<2^ 62:=by omega
   have hn':n<2^ 64:=by omega
   have hx:(BitVec.ofInt 64 (Int.ofNat m)^^^ BitVec.ofInt 64 (Int.ofNat n)).toNat=m^^^ n:=by
    rw[BitVec.toNat_xor];have e1:(BitVec.ofInt 64 (Int.ofNat m)).toNat=m:=by
     rw[show(Int.ofNat m)=((m:Nat):Int) from rfl,ZH,ZI,Ic hm']
    have e2:(BitVec.ofInt 64 (Int.ofNat n)).toNat=n:=by
     rw[show(Int.ofNat n)=((n:Nat):Int) from rfl,ZH,ZI,Ic hn']
    rw[e1,e2]
   have du:m^^^ n<2^ 62:=Nat.xor_lt_two_pow hm hn;simp only[binOp,Op.intBits,IntKind.bits,Sem.run_pure,Result.ok.injEq,Value.int.injEq,Ka,z6,ne_eq,not_true_eq_false,pg,ite_false];show IntKind.i64.wrap ((((BitVec.ofInt 64 (Int.ofNat m))^^^ (BitVec.ofInt 64 (Int.ofNat n)):BitVec 64).toNat:Nat):Int)=((m^^^ n:Nat):Int);rw[hx];generalize m^^^ n=z at du⊢;simp[IntKind.wrap,IntKind.bits,IntKind.signed];omega
  .cases h
 all_goals
  subst h;refine⟨?_,λρ=>by simp⟩;first
                                  |(simp[binOp,Op.intArith,Op.intCmp,jU];done)
                                  |(simp[binOp,Op.intArith,Op.intCmp,rC,jH];done)
                                  |(simp only[binOp,Op.intCmp,rC,jH,ne_eq,not_true,pg,ite_false,Sem.run_pure,Result.ok.injEq,z6,Value.bool.injEq];rw[oZ];simp;done)
                                  |(simp[binOp,Op.intArith,Op.intCmp,jU];rfl)
theorem Vf {op:BinOp}{a b:List UInt8}(h:U4 op a b=some v)(t:TypeId)(w:World):(binOp op t (.string ⟨⟨a⟩⟩) (.string ⟨⟨b⟩⟩)).run P w= .ok v w/\∀ρ,bY ρ v=v:=by
 cases op<;>simp only[U4,rS,reduceCtorEq] at h
 case add=>
  obtain⟨h0,h⟩:=bp h;simp only[rS] at h;subst h;refine⟨?_,λρ=>by simp⟩;have iW:¬(IntKind.max .i64<(((⟨⟨a⟩⟩:ByteArray).size+(⟨⟨b⟩⟩:ByteArray).size:Nat):Int)):=by
   have h1:a.length+b.length<=1000000000:=by simpa using h0
   have h2:(⟨⟨a⟩⟩:ByteArray).size=a.length:=rfl;have h3:(⟨⟨b⟩⟩:ByteArray).size=b.length:=rfl;simp only[IntKind.max,IntKind.signed,IntKind.bits,h2,h3];simp;omega
  have ajS:((⟨⟨a⟩⟩:ByteArray)++(⟨⟨b⟩⟩:ByteArray))=⟨⟨a++b⟩⟩:=by
   rw[ByteArray.mk_append_mk];try rfl
  simp only[binOp,Op.stringOp,gt_iff_lt,if_neg iW,ajS,Sem.run_pure]
 all_goals
  subst h;refine⟨?_,λρ=>by simp⟩;simp[binOp,Op.stringOp,toList_data,eR,s8,dO]
theorem Is {op:BinOp}{r:Option Bool}(h:CM op r=some v):∃b,r=some b/\((op= .eql/\v= .bool b)\/(op= .neq/\v= .bool !b)):=by
 unfold CM at h;split at h
 .obtain⟨b,h1,h2⟩:=aC h;exact⟨b,h1,.inl ⟨rfl,by simpa using h2.symm⟩⟩
 .obtain⟨b,h1,h2⟩:=aC h;exact⟨b,h1,.inr ⟨rfl,by simpa using h2.symm⟩⟩
 .cases h
theorem lz (x y:Value)(xs ys:aQ):fO (x::xs) (y::ys)=ob (lO x y) λe=>ob (fO xs ys) λr=>some (bo e r false):=rfl
theorem uH:fO [] []=some true:=rfl
theorem Fv {b:Bool}(h:lO x y=some b):(∀ρ,bY ρ x=x)/\(∀ρ,bY ρ y=y):=by
 unfold lO at h;split at h
 .exact⟨λρ=>by simp,λρ=>by simp⟩
 .exact⟨λρ=>by simp,λρ=>by simp⟩
 .exact⟨λρ=>by simp,λρ=>by simp⟩
 .cases h
theorem uI (xs:aQ):∀(ys:aQ)(r:Bool),fO xs ys=some r->(∀ρ,xs.map (bY ρ)=xs)/\(∀ρ,ys.map (bY ρ)=ys):=by
 induction xs with
 |nil=>intro ys r h;cases ys with
  |nil=>simp
  |cons y ys=>cases h
 |cons x xs ih=>
  intro ys r h;cases ys with
  |nil=>cases h
  |cons y ys=>
   rw[lz] at h;obtain⟨e,he,h1⟩:=aC h;obtain⟨r',h2,h3⟩:=aC h1;obtain⟨g1,g2⟩:=Fv he;obtain⟨g3,g4⟩:=ih _ _ h2;exact⟨λρ=>by rw[vp,g1,g3],λρ=>by rw[vp,g2,g4]⟩
theorem Iu (v:Value)(xs:aQ)(k:Nat)(ks:List Nat):eV (v::xs) (k::ks)=bo (Nat.beq (ym v) k) (bo (Nat.ble k 2) (eV xs ks) false) false:=rfl
theorem mX {v:Value}{xs:aQ}{k:Nat}{ks:List Nat}(h:eV (v::xs) (k::ks)=true):ym v=k/\k<=2/\eV xs ks=true:=by
 rw[Iu,dO,dO] at h;split at h
 .rename_i h1;split at h
  .rename_i h2;exact⟨by simpa using h1,by simpa using h2,h⟩
  .cases h
 .cases h
theorem Af {v:Value}(h:ym v=0):∃n,v= .int .i64 n:=by
 unfold ym at h;split at h
 .exact⟨_,rfl⟩
 all_goals cases h
theorem Ag {v:Value}(h:ym v=1):∃z,v= .string ⟨⟨z⟩⟩:=by
 unfold ym at h;split at h
 .cases h
 .rename_i s;obtain⟨⟨z⟩⟩:=s;exact⟨z,rfl⟩
 all_goals cases h
theorem xg {v:Value}(h:ym v=2):∃b,v= .bool b:=by
 unfold ym at h;split at h
 .cases h
 .cases h
 .exact⟨_,rfl⟩
 .cases h
theorem uJ:∀(xs:aQ)(ks:List Nat),eV xs ks=true->∀ρ,xs.map (bY ρ)=xs
 |[],_,_,ρ=>rfl
 |v::xs,[],h,ρ=>by cases h
 |v::xs,k::ks,h,ρ=>by
  obtain⟨h1,h2,h3⟩:=mX h;rw[vp,uJ xs ks h3 ρ];have:k=0\/k=1\/k=2:=by omega
  rcases this with h|h|h
  .obtain⟨n,rfl⟩:=Af (h1.trans h);simp
  .obtain⟨n,rfl⟩:=Ag (h1.trans h);simp
  .obtain⟨n,rfl⟩:=xg (h1.trans h);simp
theorem uK (t:Nat)(xs:aQ):∀l:List (TypeId×List Nat),yn t xs l=true->∃ks,(t,ks)∈l/\eV xs ks=true
 |[],h=>by cases h
 |p::r,h=>by
  have h2:bo (bo (Nat.beq t p.1) (eV xs p.2) false) true (yn t xs r)=true:=h;rw[dO] at h2;split at h2
  .rename_i h3;rw[dO] at h3;split at h3
   .rename_i h4;have:t=p.1:=by simpa using h4
    exact⟨p.2,by rw[this];exact iV ..,h3⟩
   .cases h3
  .obtain⟨ks,h5,h6⟩:=uK t xs r h2;exact⟨ks,lu _ h5,h6⟩
theorem KA {t:Nat}{xs:aQ}{l:List (TypeId×List Nat)}(h:yn t xs l=true):∀ρ,xs.map (bY ρ)=xs:=by
 obtain⟨ks,_,h2⟩:=uK t xs l h;exact uJ xs ks h2
theorem binOp_eql {t:TypeId}{x y:Value}{b:Bool}(hx:∀k n,x≠ .int k n)(hf:∀k n,x≠ .float k n)(hc:∀k m n,x≠ .complex k m n)(hs:∀s,x≠ .string s)(h:(Op.equal t x y).run P w= .ok b w):
  (binOp .eql t x y).run P w= .ok (.bool b) w/\(binOp .neq t x y).run P w= .ok (.bool !b) w:=by
 unfold binOp;constructor<;>split<;>simp_all
theorem px (op:BinOp)(t:TypeId)(ox oy:Operand){x y:Value}(hn:¬(x= .nilIface/\y= .nilIface))(ha:∀a b,¬(x= .agg a/\y= .agg b)):(eqGuard op t ox oy x y).run P w= .ok () w:=by
 unfold eqGuard;cases op<;>simp only[Ie,Ig,jQ,pg,if_true,ite_false,ite_true]<;>first|rfl|skip
 all_goals
  split
  .exact absurd ⟨rfl,rfl⟩ hn
  .exact absurd ⟨rfl,rfl⟩ (ha _ _)
  .rfl
theorem Vg (hE:cS E P){t:TypeId}{d:TypeDesc}{b:Bool}(hd:ja E t=some d)(h:ZN E d x y=some b)(hx:VR A ρ x x')(hy:VR A ρ y y')(w:World):(Op.equal t x' y').run P w= .ok b w:=by
 have hu:=dX hE hd;unfold Op.equal Op.maxDepth;unfold Op.equalIn;simp only[Sem.run_bind,run_underlying hu,Result.andThen_ok];unfold ZN at h;split at h
 .rw[hx.sY,hy.sY];simpa using h
 .have:=hx.self;simp only[Gu] at this;subst this;rename_i a;have yA:=hy.self;rw[<-yA];cases a with
  |none=>simpa using h
  |some a=>obtain⟨b,o,s⟩:=a;simp only[mV];simpa using h
 .rename_i a;obtain⟨b,o,s⟩:=a;rw[hx.nL];have yA:=hy.self;simp only[Gu] at yA;subst yA;simpa using h
 .obtain⟨n,hn,h⟩:=aC h;obtain⟨h1,h3⟩:=bp h;clear h;have hb:=j6 h3;clear h3;rw[bU] at h1;obtain⟨h1,h2⟩:=h1;have e1:=o7 h1;have e2:=o7 h2;subst e1 e2 hb;rw[hx.nL,hy.nL];simp only[Sem.run_bind,run_sizeOf hE hn,Result.andThen_ok];split
  .simp[sameAddr]
  .simp
 .have:=hx.jf;subst this;rename_i a l2 c2;cases a with
  |none=>have:=hy.jf;subst this;simpa using h
  |some a=>obtain⟨a',yA⟩:=hy.s7;rw[yA];simpa using h
 .rename_i a l1 c1 l2 c2;obtain⟨a',rN⟩:=hx.s7;rw[rN,hy.jf];simpa using h
 .have h1:=hx.self;have h2:=hy.self;simp only[sX] at h1 h2;subst h1 h2;simpa using h
 .have h1:=hx.self;simp only[sX] at h1;subst h1;rename_i fn f c;obtain⟨f⟩:=f;obtain⟨c⟩:=c;obtain⟨f',c',rfl,_,_⟩:=hy.CS;simpa using h
 .have h1:=hy.self;simp only[sX] at h1;subst h1;rename_i fn f c;obtain⟨f⟩:=f;obtain⟨c⟩:=c;obtain⟨f',c',rfl,_,_⟩:=hx.CS;simpa using h
 .cases h
end
section
variable {E:dA}{P:Program}{X A:Nat->Prop}{ρ:fB}{s s':St}{w:World}{v v' x y x' y':Value}
theorem Fw (op:BinOp)(t:TypeId){ox oy:Operand}(hc:(ZO ox||ZO oy)=true)(w:World):(eqGuard op t ox oy .nilIface .nilIface).run P w= .ok () w:=by
 cases ox<;>cases oy<;>first
  |(cases op<;>(simp[eqGuard];done))
  |(simp[ZO] at hc;done)
def Z1 (x:Value):Bool:=match x with
 |.bool _=>true
 |.pointer _=>true
 |.slice .. =>true
 |.func .. =>true
 |.nilFunc=>true
 |_=>false
theorem Vh (ρ:fB)(v:Value):Z1 (bY ρ v)=Z1 v:=by
 cases v<;>try(simp[bY,Z1];done)
 .rename_i a;cases a<;>simp[bY,Z1]
 .rename_i a l c;cases a with
  |none=>simp[bY,Z1]
  |some a=>
   obtain⟨a',h⟩:=sb ρ a l c;rw[h];simp[Z1]
 .rename_i a;cases a<;>simp[bY,Z1]
theorem Z2 {d:TypeDesc}{b:Bool}(h:ZN E d x y=some b):Z1 x=true:=by
 unfold ZN at h;split at h<;>first|rfl|(cases h;done)
theorem Z3 (hE:cS E P){op:BinOp}{t:TypeId}{ox oy:Operand}(h:RN E op t (ZO ox||ZO oy) x y=some v)(hx:VR A ρ x x')(hy:VR A ρ y y')(w:World):
  ∃v',(do eqGuard op t ox oy x' y';binOp op t x' y').run P w= .ok v' w/\VR A ρ v v':=by
 simp only[Sem.run_bind];unfold RN at h;split at h
 .rename_i k a k' b;rw[dO] at h;split at h
  .rw[hx.mw,hy.mw,px op t ox oy (by simp) (by simp)];have hb:Gm k=k.bits:=by cases k<;>rfl
   have RV:∀m:Nat,CN m (Gm k)=min m k.bits:=λm=>by
    unfold CN;rw[dO,hb];simp only[lR];split<;>omega
   unfold shV at h;split at h
   .rename_i m n _;have:=j6 h;subst this;refine⟨_,?_,VR.int _ _⟩;simp only[Result.andThen_ok,binOp,Op.shift];have h0:¬(Int.ofNat n<0):=by simp
    rw[if_neg h0,RV];simp only[Sem.run_pure]
    congr 2
    show Int.fdiv (Int.ofNat m) (2^ (min (Int.toNat (Int.ofNat n)) k.bits))=_;have e1:(2:Int)^ (min (Int.toNat (Int.ofNat n)) k.bits)=((2^ (min n k.bits):Nat):Int):=by
     simp
    rw[e1];show Int.fdiv ((m:Nat):Int) _=((Nat.shiftRight m (min n k.bits):Nat):Int);rw[Int.fdiv_eq_ediv_of_nonneg _ (Kb _),<-Int.natCast_ediv]
    congr 1
    exact(Nat.shiftRight_eq_div_pow m _).symm
   .rename_i m n _;have:=j6 h;subst this;refine⟨_,?_,VR.int _ _⟩;simp only[Result.andThen_ok,binOp,Op.shift];have h0:¬(Int.ofNat n<0):=by simp
    rw[if_neg h0,RV,jU];simp only[Sem.run_pure]
    congr 3
    have e1:(2:Int)^ (min (Int.toNat (Int.ofNat n)) k.bits)=((2^ (min n k.bits):Nat):Int):=by
     simp
    rw[e1];show((m:Nat):Int)*((2^ (min n k.bits):Nat):Int)=((Nat.shiftLeft m (min n k.bits):Nat):Int);rw[<-Int.natCast_mul]
    congr 1
    exact(Nat.shiftLeft_eq m _).symm
   .cases h
  obtain⟨h1,h0⟩:=Ip h;clear h;have:=vw h1;subst this;rw[hx.mw,hy.mw];obtain⟨h2,h3⟩:=Ve (P:=P) h0 t w;rw[px op t ox oy (by simp) (by simp)];exact⟨v,h2,VR.ground h3⟩
 .rename_i a b;rw[hx.uF,hy.uF];obtain⟨h2,h3⟩:=Vf (P:=P) h t w;rw[px op t ox oy (by simp) (by simp)];exact⟨v,h2,VR.ground h3⟩
 .obtain⟨hc,h⟩:=bp h;obtain⟨d,hd,h⟩:=aC h;obtain⟨hi,h⟩:=bp h;have rN:=hx.self;have yA:=hy.self;simp only[Fq] at rN yA;subst rN yA;have hu:=dX hE hd;have hg:=Fw (P:=P) op t hc w;have he:(Op.equal t .nilIface .nilIface).run P w= .ok true w:=by
   unfold Op.equal Op.maxDepth Op.equalIn;simp only[Sem.run_bind,run_underlying hu,Result.andThen_ok];cases d<;>simp_all [isIface]
  rw[hg];obtain⟨b,hb,h⟩:=Is h;simp only[rS] at hb;subst hb;obtain⟨h1,h2⟩:=binOp_eql (P:=P) (w:=w) (t:=t) (x:=.nilIface) (y:=.nilIface) (by simp) (by simp) (by simp) (by simp) he;rcases h with⟨rfl,rfl⟩|⟨rfl,rfl⟩
  .exact⟨_,h1,VR.bool _⟩
  .exact⟨_,h2,VR.bool _⟩
 .rename_i xs ys;obtain⟨hq,h⟩:=bp h;obtain⟨b,hb,h⟩:=Is h;obtain⟨h1,h2⟩:=uI _ _ _ hb;obtain⟨xs',rfl,RW⟩:=hx.Qk;obtain⟨ys',rfl,hys⟩:=hy.Qk;have e1:=RW.self;rw[h1] at e1;subst e1;have e2:=hys.self;rw[h2] at e2;subst e2;obtain⟨h4,h5⟩:=hE.eqs _ _ hq ys b hb w;rw[h5 op ox oy];obtain⟨h6,h7⟩:=binOp_eql (P:=P) (w:=w) (t:=t) (by simp) (by simp) (by simp) (by simp) h4;rcases h with⟨rfl,rfl⟩|⟨rfl,rfl⟩
  .exact⟨_,h6,VR.bool _⟩
  .exact⟨_,h7,VR.bool _⟩
 .obtain⟨d,hd,h⟩:=aC h;obtain⟨b,hb,h⟩:=Is h;have he:=Vg hE hd hb hx hy w;have ajT:Z1 x'=true:=by rw[<-hx.self,Vh];exact Z2 hb
  have Ce:(∀k n,x'≠ .int k n)/\(∀k n,x'≠ .float k n)/\(∀k m n,x'≠ .complex k m n)/\(∀s,x'≠ .string s)/\x'≠ .nilIface/\(∀a,x'≠ .agg a):=by
   refine⟨?_,?_,?_,?_,?_,?_⟩<;>intros<;>rintro rfl<;>cases ajT
  obtain⟨s1,s2,s3,s4,s5,s6⟩:=Ce;rw[px op t ox oy (λhh=>s5 hh.1) (λa b hh=>s6 a hh.1)];obtain⟨h6,h7⟩:=binOp_eql (P:=P) (w:=w) (t:=t) s1 s2 s3 s4 he;rcases h with⟨rfl,rfl⟩|⟨rfl,rfl⟩
  .exact⟨_,h6,VR.bool _⟩
  .exact⟨_,h7,VR.bool _⟩
end
section
variable {E:dA}{P:Program}{X A:Nat->Prop}{ρ:fB}{s s':St}{w:World}{v v' x y x' y':Value}
theorem aG {v:Value}{s:St}{r:Value×St}(h:aL v s=some r):r=(v,s):=by
 simpa[aL] using h.symm
theorem ady {op:UnOp}(h:unV op x s=some (v,s')):s'=s/\∀A ρ x',VR A ρ x x'->∃v',(∀w,(Op.unary op x').run P w= .ok v' w)/\VR A ρ v v':=by
 unfold unV at h;split at h
 .rename_i b;have:=aG h;simp only[cx] at this;obtain⟨rfl,rfl⟩:=this;refine⟨rfl,λA ρ x' hx=>⟨.bool !b,λw=>?_,VR.bool _⟩⟩;rw[hx.sY];rfl
 .cases h
theorem KB {i:Nat}(h:yr s x i=some (v,s')):s'=s/\∀A ρ x',VR A ρ x x'->∃v',(∀w,(Instr.extract x' i).run P w= .ok v' w)/\VR A ρ v v':=by
 unfold yr at h;split at h
 .rename_i vs;obtain⟨u,hu,h2⟩:=aC h;have:=aG h2;simp only[cx] at this;obtain⟨rfl,rfl⟩:=this;refine⟨rfl,λA ρ x' hx=>?_⟩;obtain⟨Cf,rfl,hl⟩:=hx.ZU;rw[dR] at hu;obtain⟨u',KC,hr⟩:=hl.get hu;refine⟨u',λw=>?_,hr⟩;simp[Instr.extract,KC]
 .cases h
theorem RX (hE:cS E P){t:TypeId}(h:Io E s t x y=some (v,s')):s'=s/\∀A ρ x' y',VR A ρ x x'->VR A ρ y y'->∃v',(∀w,(Instr.index t x' y').run P w= .ok v' w)/\VR A ρ v v':=by
 obtain⟨d,hd,h1⟩:=aC h;clear h;split at h1
 .rename_i z k i;obtain⟨c,hc,h2⟩:=aC h1;have:=aG h2;simp only[cx] at this;obtain⟨rfl,rfl⟩:=this;refine⟨rfl,λA ρ x' y' hx hy=>⟨.int .u8 c.toNat,λw=>?_,VR.int _ _⟩⟩;rw[hx.uF,hy.mw];rw[dR] at hc;have hb:(⟨⟨z⟩⟩:ByteArray)[i]?=some c:=by
   have du:=(ug.1 hc).1;have iW:(⟨⟨z⟩⟩:ByteArray).size=z.length:=rfl;rw[getElem?_pos _ _ (by rw[iW];exact du)];have:=(ug.1 hc).2;rw[<-this];rfl
  unfold Instr.index;simp only[Sem.run_bind,asIntOf,Sem.run_pure,Result.andThen_ok,run_underlying (dX hE hd)];simp[hb]
 .cases h1
theorem RY (hE:cS E P){t:TypeId}{i:Nat}(h:Im E s t x i=some (v,s')):s'=s/\∀A ρ x',VR A ρ x x'->∃v',(∀w,(Instr.field t x' i).run P w= .ok v' w)/\VR A ρ v v':=by
 obtain⟨d,hd,h1⟩:=aC h;clear h;split at h1
 .rename_i fs cs;obtain⟨f,hf,h2⟩:=aC h1;obtain⟨df,uj,h3⟩:=aC h2;obtain⟨hb,h4⟩:=bp h3;obtain⟨u,hu,h5⟩:=aC h4;have:=aG h5;simp only[cx] at this;obtain⟨rfl,rfl⟩:=this;refine⟨rfl,λA ρ x' hx=>?_⟩;obtain⟨cs',rfl,hl⟩:=hx.Qk;rw[dR] at hu hf;obtain⟨u',KC,hr⟩:=hl.get hu;refine⟨u',λw=>?_,hr⟩;have ha:z8 df=false:=by simpa using hb
  have hff:(⟨fs⟩:Array Field)[i]?=some f:=by simpa using hf
  have Qm:(⟨cs'⟩:Array Value)[f.offset]?=some u':=by simpa using KC
  unfold Instr.field part;simp only[Sem.run_bind,run_underlying (dX hE hd),Result.andThen_ok,hff,asAgg,Sem.run_pure,vu hE uj,ha,Qm,pg,jQ]
 .cases h1
theorem Fx (hE:cS E P){t:TypeId}{i:Nat}(h:nQ E s t x i=some (v,s')):s'=s/\∀A ρ x',(∀v v',VR A ρ v v'->True)->VR A ρ x x'->∃v',(∀w,(Instr.fieldAt t x' i).run P w= .ok v' w)/\VR A ρ v v':=by
 obtain⟨d,hd,h1⟩:=aC h;clear h;split at h1
 .rename_i fs;obtain⟨f,hf,h2⟩:=aC h1;obtain⟨n,hn,h3⟩:=aC h2;obtain⟨hb,h4⟩:=bp h3;obtain⟨b,o,rfl,h5⟩:=Ir h4;have:=aG h5;simp only[cx] at this;obtain⟨rfl,rfl⟩:=this;refine⟨rfl,λA ρ x' _ hx=>⟨.pointer (some ⟨(ρ b).1,o+f.offset,none⟩),λw=>?_,λeI e=>?_⟩⟩
  .rw[hx.nL];rw[dR] at hf;have x7:n≠0:=by simp at hb;omega
   unfold Instr.fieldAt;simp only[Sem.run_bind,run_underlying (dX hE hd),Result.andThen_ok];have hf':(⟨fs⟩:Array Field)[i]?=some f:=by simpa using hf
   simp only[hf',Instr.sureAddr,Sem.run_bind,Sem.run_pure,Result.andThen_ok,fieldPlace,run_sizeOf hE hn,x7,pg,ite_false,add_lit]
  .have h1:=(hx eI e).trans hx.self.symm;simp only[mV,Value.pointer.injEq,rS,Addr.mk.injEq,z6] at h1;rw[mV,h1];rfl
 .cases h1
theorem Fy (hE:cS E P){t:TypeId}(h:nR E s t x y=some (v,s')):s'=s/\∀A ρ x' y',VR A ρ x x'->VR A ρ y y'->∃v',(∀w,(Instr.indexAt t x' y').run P w= .ok v' w)/\VR A ρ v v':=by
 obtain⟨d,hd,h1⟩:=aC h;clear h;split at h1
 .rename_i n e b o k i;obtain⟨hb,h2⟩:=bp h1;obtain⟨sz,iW,h3⟩:=aC h2;have:=aG h3;simp only[cx] at this;obtain⟨rfl,rfl⟩:=this;refine⟨rfl,λA ρ x' y' hx hy=>⟨.pointer (some ⟨(ρ b).1,o+i*sz,none⟩),λw=>?_,λeI e=>?_⟩⟩
  .rw[hx.nL,hy.mw];have hi:i<n:=by simpa[RI] using hb
   unfold Instr.indexAt;simp only[Sem.run_bind,asIntOf,Sem.run_pure,Result.andThen_ok,run_underlying (dX hE hd),Instr.sureAddr];have hc:(0:Int)<=Int.ofNat i/\Int.ofNat i<(n:Int):=by constructor<;>simp<;>omega
   simp[hc,hi,run_sizeOf hE iW,add_lit]
  .have h1:=(hx eI e).trans hx.self.symm;simp only[mV,Value.pointer.injEq,rS,Addr.mk.injEq,z6] at h1;rw[mV,h1];rfl
 .rename_i e b o n cap k i;obtain⟨hb,h2⟩:=bp h1;obtain⟨sz,iW,h3⟩:=aC h2;have:=aG h3;simp only[cx] at this;obtain⟨rfl,rfl⟩:=this;refine⟨rfl,λA ρ x' y' hx hy=>⟨.pointer (some ⟨(ρ b).1,o+i*sz,none⟩),λw=>?_,λeI e=>?_⟩⟩
  .rw[hx.fY,hy.mw];have hi:i<n:=by simpa[RI] using hb
   unfold Instr.indexAt;simp only[Sem.run_bind,asIntOf,Sem.run_pure,Result.andThen_ok,run_underlying (dX hE hd)];simp[hi,run_sizeOf hE iW,add_lit]
  .have h1:=(hx eI e).trans hx.self.symm;simp only[eE,Value.slice.injEq,rS,Addr.mk.injEq,z6] at h1;rw[mV,h1.1];rfl
 .cases h1
theorem Z4 (hE:cS E P){t ty:TypeId}(h:RP E t x=some v):∀A ρ x' ts,VR A ρ x x'->ts[0]?=some t->∃v',(∀w,(Builtin.len_ ts ty #[x']).run P w= .ok v' w)/\VR A ρ v v':=by
 obtain⟨d,hd,h1⟩:=aC h;clear h;split at h1
 .rename_i z;have:=j6 h1;subst this;refine λA ρ x' ts hx hts=>⟨.int .i64 (.ofNat z.length),λw=>?_,by simpa using VR.int _ _⟩
  rw[hx.uF];simp[Builtin.len_,hts,run_underlying (dX hE hd),goInt];rfl
 .rename_i e a n c;have:=j6 h1;subst this;refine λA ρ x' ts hx hts=>⟨.int .i64 (.ofNat n),λw=>?_,VR.int _ _⟩
  cases a with
  |none=>rw[hx.jf];simp[Builtin.len_,hts,run_underlying (dX hE hd),goInt]
  |some a=>obtain⟨a',rN⟩:=hx.s7;rw[rN];simp[Builtin.len_,hts,run_underlying (dX hE hd),goInt]
 .cases h1
theorem Z5 (h:ZR x y s=some (v,s')):s'=s/\∀A ρ x' y' ts ty,VR A ρ x x'->VR A ρ y y'->∃v',(∀w,(Builtin.max_ ts ty #[x',y']).run P w= .ok v' w)/\VR A ρ v v':=by
 unfold ZR at h;split at h
 .rename_i k a k' b;obtain⟨hk,h2⟩:=bp h;have:=aG h2;simp only[cx] at this;obtain⟨rfl,rfl⟩:=this;refine⟨rfl,λA ρ x' y' ts ty hx hy=>⟨_,λw=>?_,VR.int _ _⟩⟩;rw[hx.mw,hy.mw];simp only[Builtin.max_,List.foldlM,Builtin.max2];simp[dO,rC]
 .cases h
end
section
variable {E:dA}{P:Program}{X A:Nat->Prop}{ρ:fB}{s s':St}{w:World}{v v' x y x' y':Value}
def NY (A:Nat->Prop)(ρ:fB):Option Value->Option Value->Prop
 |none,none=>True
 |some v,some v'=>VR A ρ v v'
 |_,_=>False
theorem NY.none {o:Option Value}(h:NY A ρ none o):o=none:=by cases o<;>simp_all [NY]
theorem NY.some {v:Value}{o:Option Value}(h:NY A ρ (some v) o):∃v',o=some v'/\VR A ρ v v':=by
 cases o with
 |none=>simp[NY] at h
 |some v'=>exact⟨v',rfl,h⟩
theorem s9 {y i:Nat}(h:pw v y=some i):i<=y/\∃k,v= .int k (.ofNat i):=by
 unfold pw at h;split at h
 .rename_i k j;obtain⟨h1,h2⟩:=Ip h;have:=j6 h2;subst this;exact⟨by simpa using h1,k,rfl⟩
 .cases h
theorem run_sliceBound {y i:Nat}(h:pw v y=some i)(hv:VR A ρ v v')(z:Nat)(hz:y<=z)(code:BoundsCode)(w:World):(Instr.sliceBound v' z code).run P w= .ok i w:=by
 obtain⟨h1,k,rfl⟩:=s9 h;rw[hv.mw];unfold Instr.sliceBound;simp only[Sem.run_bind,asIntOf,Sem.run_pure,Result.andThen_ok];have:(0:Int)<=Int.ofNat i/\Int.ofNat i<=(z:Int):=by constructor<;>simp<;>omega
 simp[this];omega
theorem sd {β:Type}{len cap:Nat}{lo hi mx:Option Value}{k:Nat->Nat->Nat->Option β}{r:β}(h:bounds len cap lo hi mx k=some r):
  ∃l h m,k l h m=some r/\(m<=cap/\(mx=none->m=cap))/\l<=h/\(len<=cap->mx=none->h<=cap)/\
   ∀A ρ Gy fE Iv,NY A ρ lo Gy->NY A ρ hi fE->NY A ρ mx Iv->∀(P:Program)(sl:Bool) w CT,cap<=CT->(Instr.sliceBounds sl len CT Gy fE Iv).run P w= .ok (l,h,if mx=none then CT else m) w:=by
 obtain⟨m,hm,h1⟩:=aC h;obtain⟨hh,Zr,h2⟩:=aC h1;obtain⟨l,hl,h3⟩:=aC h2;clear h h1 h2;have hm':m<=cap/\(mx=none->m=cap):=by
  cases mx with
  |none=>have:=j6 hm;exact⟨ag,λ_=>this.symm⟩
  |some v=>exact⟨(s9 hm).1,λh=>by cases h⟩
 have jG:l<=hh:=by
  cases lo with
  |none=>have:=j6 hl;subst this;exact iJ _
  |some v=>exact(s9 hl).1
 refine⟨l,hh,m,h3,hm',jG,λhc hmx=>?_,λA ρ Gy fE Iv o1 o2 o3 P sl w CT Qm=>?_⟩
 .subst hmx;cases hi with
  |none=>have:=j6 Zr;omega
  |some v=>have:=(s9 Zr).1;have:=hm'.1;omega
 .unfold Instr.sliceBounds;cases mx with
  |none=>
   have:=j6 hm;subst this;rw[o3.none];cases hi with
   |none=>
    have:=j6 Zr;subst this;rw[o2.none];cases lo with
    |none=>have:=j6 hl;subst this;rw[o1.none];simp
    |some v=>obtain⟨v',rfl,hv⟩:=o1.some;simp[run_sliceBound (P:=P) hl hv _ (cA _)]
   |some u=>
    obtain⟨u',rfl,hu⟩:=o2.some;cases lo with
    |none=>have:=j6 hl;subst this;rw[o1.none];simp[run_sliceBound (P:=P) Zr hu CT Qm]
    |some v=>obtain⟨v',rfl,hv⟩:=o1.some;simp[run_sliceBound (P:=P) Zr hu CT Qm,run_sliceBound (P:=P) hl hv _ (cA _)]
  |some q=>
   obtain⟨q',rfl,hq⟩:=o3.some;cases hi with
   |none=>cases Zr
   |some u=>
    obtain⟨u',rfl,hu⟩:=o2.some;cases lo with
    |none=>have:=j6 hl;subst this;rw[o1.none];simp[run_sliceBound (P:=P) hm hq CT Qm,run_sliceBound (P:=P) Zr hu _ (cA _)]
    |some v=>obtain⟨v',rfl,hv⟩:=o1.some;simp[run_sliceBound (P:=P) hm hq CT Qm,run_sliceBound (P:=P) Zr hu _ (cA _),run_sliceBound (P:=P) hl hv _ (cA _)]
theorem extract_mk (z:List UInt8)(l h:Nat):(⟨⟨z⟩⟩:ByteArray).extract l h=⟨⟨(z.drop l).take (h-l)⟩⟩:=by
 apply ByteArray.ext;rw[ByteArray.data_extract];apply wg;simp[List.take_drop]
theorem fw {q:Nat×Nat}{c:Nat}(h:c<eH):dD q c=c:=by
 unfold dD;rw[if_neg ag]
theorem CU (a:Addr)(n:Nat):rW (some a) n=some (a.add n):=by
 obtain⟨b,o,s⟩:=a;simp only[rW,dO,CA,Addr.add];split<;>rfl
theorem Qn {α:Type}{o:Option α}(h:ZP o=true):o=none:=by cases o<;>simp_all [ZP]
theorem RZ (hE:cS E P){t:TypeId}{lo hi mx:Option Value}(h:kj E s t x lo hi mx=some (v,s')):aF s s'/\∀X A ρ w x' Gy fE Iv,o8 P X A ρ s s' w->VR A ρ x x'->NY A ρ lo Gy->NY A ρ hi fE->NY A ρ mx Iv->
  cD P X A ρ s s' w v (Instr.sliceAt t x' Gy fE Iv):=by
 obtain⟨d,hd,h1⟩:=aC h;clear h;have hu:=dX hE hd;split at h1
 .rename_i z;obtain⟨u,KC,h2⟩:=aC h1;have:=aG h2;simp only[cx] at this;obtain⟨rfl,rfl⟩:=this;refine⟨aF.refl _,λX A ρ w x' Gy fE Iv hp hx o1 o2 o3=>?_⟩;obtain⟨qE,h3⟩:=bp KC;have:=Qn qE;subst this;rw[o3.none];obtain⟨l,hh,m,h4,h5,h6,h7,h8⟩:=sd h3;have:=j6 h4;subst this;refine cD.pure hp ?_ (VR.str _);rw[hx.uF];have hb:=h8 A ρ Gy fE none o1 o2 (by simp[NY]) P false w (ek z) (cA _);unfold Instr.sliceAt;simp only[Sem.run_bind,run_underlying hu,Result.andThen_ok];unfold Instr.slice;simp only[Sem.run_bind,run_underlying hu,Result.andThen_ok,Option.isSome_none,jQ,pg];have iW:(⟨⟨z⟩⟩:ByteArray).size=z.length:=rfl;rw[dh] at hb;simp[iW,hb,extract_mk]
 .rename_i elem a len cap
  replace h1:=bp h1
  obtain⟨rD,h1⟩:=h1;obtain⟨sz,iW,h2⟩:=aC h1;cases hk:Nat.ble eH cap with
  |false=>
   rw[hk,eJ] at h2;obtain⟨u,KC,h3⟩:=aC h2;have:=aG h3;simp only[cx] at this;obtain⟨rfl,rfl⟩:=this;refine⟨aF.refl _,λX A ρ w x' Gy fE Iv hp hx o1 o2 o3=>?_⟩;obtain⟨l,hh,m,h4,h5,h6,h7,h8⟩:=sd KC;have:=j6 h4;subst this;have Ah:cap<eH:=by
    rcases lq cap eH with h|h
    .exact h
    .rw[il h] at hk;cases hk
   have hb:=h8 A ρ Gy fE Iv o1 o2 o3 P true w cap (cA _);have hm:(if mx=none then cap else m)=m:=by
    split
    .rename_i hmx;exact(h5.2 hmx).symm
    .rfl
   rw[hm] at hb;have nV:∀a',(Instr.sliceAt t (.slice a' len cap) Gy fE Iv).run P w= .ok (.slice (if m=l then a' else a'.map (·.add (l*sz))) (hh-l) (m-l)) w:=by
    intro a';unfold Instr.sliceAt;simp only[Sem.run_bind,run_underlying hu,Result.andThen_ok];unfold Instr.slice;simp only[Sem.run_bind,run_underlying hu,Result.andThen_ok,hb,run_sizeOf hE iW];rfl
   have Qo:m-l<eH:=by have:=h5.1;omega
   cases a with
   |none=>
    rw[hx.jf];refine cD.pure hp (nV none) ?_;simp only[rW,dO,Option.map_none,ite_self];exact VR.ground (by simp)
   |some a=>
    obtain⟨b,o,q⟩:=a;cases q with
    |some q=>cases rD
    |none=>
    rw[hx.fY,fw Ah];refine cD.pure hp (nV _) λeI e=>?_
    have h1:=(hx eI e).trans hx.self.symm;simp only[eE,Value.slice.injEq,rS,Addr.mk.injEq,z6] at h1;rw[dO,CU];simp only[CA];by_cases KD:m=l
    .simp only[KD,if_true,Fm];rw[eE,h1.1,show l.sub l=0 from Fm l,fw (show 0<eH by decide)];rfl
    .simp only[KD,pg,wh,Addr.add];by_cases hz:l*sz=0
     .simp only[show Nat.mul l sz=0 from hz,hz,if_true];rw[eE,h1.1,fw (c:=m.sub l) Qo];rfl
     .simp only[show ¬Nat.mul l sz=0 from hz,hz,pg];rw[eE,h1.1,fw (c:=m.sub l) Qo];rfl
  |true=>
   rw[hk,gu] at h2;have Ah:eH<=cap:=qF hk;cases hz:nO lo hi mx with
   |true=>
    rw[hz,gu] at h2;unfold nP at h2;split at h2
    rotate_left
    .cases h2
    rename_i b o;have:=aG h2;simp only[cx] at this;obtain⟨rfl,rfl⟩:=this;unfold nO at hz;split at hz
    rotate_left
    .cases hz
    rename_i k;refine⟨aF.refl _,λX A ρ w x' Gy fE Iv hp hx o1 o2 o3=>?_⟩;rw[hx.fY,o1.none,o3.none];obtain⟨u',rfl,KC⟩:=o2.some;rw[KC.mw];refine cD.pure hp (v':=.slice (some ⟨(ρ b).1,o,none⟩) 0 (dD (ρ b) cap)) ?_ λeI e=>?_
    .unfold Instr.sliceAt;simp only[Sem.run_bind,run_underlying hu,Result.andThen_ok];unfold Instr.slice;simp only[Sem.run_bind,run_underlying hu,Result.andThen_ok];have hb:(Instr.sliceBounds true len (dD (ρ b) cap) none (some (.int k (.ofNat 0))) none).run P w= .ok (0,0,dD (ρ b) cap) w:=by
      unfold Instr.sliceBounds;have h0:(Instr.sliceBound (.int k (.ofNat 0)) (dD (ρ b) cap) .sliceAcap).run P w= .ok 0 w:=by
       unfold Instr.sliceBound;simp[asIntOf]
      simp[Instr.sliceBound,asIntOf]
     simp only[hb,Result.andThen_ok,run_sizeOf hE iW,wh,add_lit,Ih,wY,Nat.sub_zero,ite_self];try rfl
    .have h1:=(hx eI e).trans hx.self.symm;simp only[eE,Value.slice.injEq,rS,Addr.mk.injEq,z6,Ka] at h1;rw[eE,h1.1,h1.2]
   |false=>
   rw[hz,eJ] at h2;unfold iE at h2;split at h2
   .rename_i b o;obtain⟨c,e,wd,hg,h3⟩:=mW h2;obtain⟨hc,h4⟩:=bp h3;simp only[bU,CA,lR,dh] at hc;obtain⟨⟨⟨hw,he⟩,ho⟩,c8⟩:=hc;subst he;split at h4
    rotate_left
    .rename_i mx0;obtain⟨ajU,h4⟩:=bp h4;obtain⟨u,KC,h3⟩:=aC h4;have:=aG h3;simp only[cx] at this;obtain⟨rfl,rfl⟩:=this;refine⟨aF.aV s b,λX A ρ w x' Gy fE Iv hp hx o1 o2 o3=>?_⟩;obtain⟨hA,c',aO,fr,r1,r2,r3,r4,r5,r6⟩:=hp.st.row (hp.cO b (gv s b)) hg;have Iw:(cap-eH)+len<=(ρ b).2:=by
      refine' zag
     have hcm:dD (ρ b) cap=(ρ b).2-(cap-eH):=by unfold dD;rw[if_pos Ah]
     have hlu:len<eH:=qF ajU;obtain⟨l,hh,m,h4,h5,h6,h7,h8⟩:=sd KC;have:=j6 h4;subst this;have hb:=h8 A ρ Gy fE Iv o1 o2 o3 P true w (dD (ρ b) cap) (by rw[hcm];omega);simp only[reduceCtorEq,pg] at hb;have Qo:m-l<eH:=by have:=h5.1;omega
     refine cD.same hp (by simp) (by simp) (v':=.slice (if m=l then some ⟨(ρ b).1,o,none⟩ else some ((⟨(ρ b).1,o,none⟩:Addr).add (l*sz))) (hh-l) (m-l)) ?_ λeI ee=>?_
     .rw[hx.fY];unfold Instr.sliceAt;simp only[Sem.run_bind,run_underlying hu,Result.andThen_ok];unfold Instr.slice;simp only[Sem.run_bind,run_underlying hu,Result.andThen_ok,hb,run_sizeOf hE iW,wh];rfl
     .rw[dO,CU];simp only[CA];by_cases KD:m=l
      .simp only[KD,if_true,Fm];rw[eE,ee b hA,show l.sub l=0 from Fm l,fw (show 0<eH by decide)];rfl
      .simp only[KD,pg,add_lit];rw[eE,ee b hA,fw (c:=m.sub l) Qo];rfl
    obtain⟨l,hh,m,h5,h6,h7,NZ,h8⟩:=sd h4;rw[dO] at h5;split at h5
    rotate_left
    .rename_i hlh;have:=aG h5;simp only[cx] at this;obtain⟨rfl,rfl⟩:=this;refine⟨aF.aV s b,λX A ρ w x' Gy fE Iv hp hx o1 o2 o3=>?_⟩;obtain⟨hA,c',aO,fr,r1,r2,r3,r4,r5,r6⟩:=hp.st.row (hp.cO b (gv s b)) hg;have Iw:(cap-eH)+len<=(ρ b).2:=by
      refine' zag
     have hcm:dD (ρ b) cap=(ρ b).2-(cap-eH):=by unfold dD;rw[if_pos Ah]
     have hb:=h8 A ρ Gy fE Iv o1 o2 o3 P true w (dD (ρ b) cap) (by rw[hcm];omega);rw[o3.none] at hb⊢;simp only[if_true] at hb;have h77:=NZ (cA _) rfl;have hll:hh=l:=by
      simp only[mS,CA,lR,not_or] at hlh;have:Nat.succ l=l+1:=rfl;omega
     refine cD.same hp (by simp) (by simp) ?_ (v':=.slice (some ⟨(ρ b).1,if(ρ b).2-(cap-eH)-l=0 then o else o+l*sz,none⟩) 0 ((ρ b).2-(cap-eH)-l)) λeI ee=>?_
     .rw[hx.fY];unfold Instr.sliceAt;simp only[Sem.run_bind,run_underlying hu,Result.andThen_ok];unfold Instr.slice;simp only[Sem.run_bind,run_underlying hu,Result.andThen_ok,hb,run_sizeOf hE iW,wh,add_lit];rw[hcm,hll];have hle:l<=(ρ b).2-(cap-eH):=by omega
      by_cases hq:(ρ b).2-(cap-eH)=l
      .simp[hq]
      .simp[hq];intro h0;omega
     .rw[Kx,ee b hA];have:dD (ρ b) (Nat.add cap l)=(ρ b).2-(cap-eH)-l:=by
       have h3:Nat.add cap l=cap+l:=rfl;unfold dD;rw[h3,if_pos ag];omega
      rw[this];rfl
    rename_i hlh;have h9:=h5;have:=aG h9;simp only[cx] at this;obtain⟨rfl,rfl⟩:=this;refine⟨aF.aV s b,λX A ρ w x' Gy fE Iv hp hx o1 o2 o3=>?_⟩;obtain⟨hA,c',aO,fr,r1,r2,r3,r4,r5,r6⟩:=hp.st.row (hp.cO b (gv s b)) hg;have Iw:(cap-eH)+len<=(ρ b).2:=by
     refine' zag
    have hcm:dD (ρ b) cap=(ρ b).2-(cap-eH):=by unfold dD;rw[if_pos Ah]
    have hb:=h8 A ρ Gy fE Iv o1 o2 o3 P true w (dD (ρ b) cap) (by rw[hcm];omega);rw[o3.none] at hb⊢;simp only[if_true] at hb;refine cD.same hp (by simp) (by simp) ?_ (v':=.slice (some ⟨(ρ b).1,o+l*sz,none⟩) (hh-l) ((ρ b).2-(cap-eH)-l)) λeI ee=>?_
    .rw[hx.fY];unfold Instr.sliceAt;simp only[Sem.run_bind,run_underlying hu,Result.andThen_ok];unfold Instr.slice;simp only[Sem.run_bind,run_underlying hu,Result.andThen_ok,hb,run_sizeOf hE iW,wh,add_lit];have hll:l=0\/l<hh:=by simpa[RI] using hlh
     have h77:=NZ (cA _) rfl;rw[hcm];by_cases hq:(ρ b).2-(cap-eH)=l
     .have:l=0:=by omega
      subst this;simp[hq]
     .simp[hq]
    .rw[eE,ee b hA];have:dD (ρ b) (Nat.add cap l)=(ρ b).2-(cap-eH)-l:=by
      have h3:Nat.add cap l=cap+l:=rfl;unfold dD;rw[h3,if_pos ag];omega
     rw[this];rfl
   .cases h2
 .rename_i n elem b o;obtain⟨sz,iW,h3⟩:=aC h1;obtain⟨hn,h4⟩:=bp h3;have hn:n<eH:=qF hn;obtain⟨u,KC,h5⟩:=aC h4;have:=aG h5;simp only[cx] at this;obtain⟨rfl,rfl⟩:=this;refine⟨aF.refl _,λX A ρ w x' Gy fE Iv hp hx o1 o2 o3=>?_⟩;obtain⟨l,hh,m,h6,h7,h8,h9,Fc⟩:=sd KC;have:=j6 h6;subst this;have hb:=Fc A ρ Gy fE Iv o1 o2 o3 P false w n (cA _);have hm:(if mx=none then n else m)=m:=by
   split
   .rename_i hmx;exact(h7.2 hmx).symm
   .rfl
  rw[hm] at hb;have Qo:m-l<eH:=by have:=h7.1;omega
  rw[hx.nL];refine cD.pure hp (v':=.slice (some (if m=l then⟨(ρ b).1,o,none⟩ else(⟨(ρ b).1,o,none⟩:Addr).add (l*sz))) (hh-l) (m-l)) ?_ λeI e=>?_
  .unfold Instr.sliceAt;simp only[Sem.run_bind,run_underlying hu,Result.andThen_ok,Instr.sureAddr,Sem.run_pure,hb,run_sizeOf hE iW]
  .have h1:=(hx eI e).trans hx.self.symm;simp only[mV,Value.pointer.injEq,rS,Addr.mk.injEq,z6] at h1;rw[dO,CU];simp only[CA];by_cases KD:m=l
   .simp only[KD,if_true,Fm];rw[eE,h1,show l.sub l=0 from Fm l,fw (show 0<eH by decide)];rfl
   .simp only[KD,pg,add_lit];rw[eE,h1,fw (c:=m.sub l) Qo];rfl
 .cases h1
end
section
variable {E:dA}{P:Program}{X A:Nat->Prop}{ρ:fB}{s s':St}{w:World}{v v' x y x' y':Value}
theorem Gz (off:Nat):∀(vs:aQ)(i:Nat)(cs:Array Value),off+i+vs.length<=cs.size->
  (vs.zipIdx i).foldl (λcs (x:Value×Nat)=>cs.setIfInBounds (off+x.2) x.1) cs=⟨cs.toList.take (off+i)++vs++cs.toList.drop (off+i+vs.length)⟩
 |[],i,cs,_=>by simp
 |v::vs,i,cs,h=>by
  simp only[cY] at h;rw[List.zipIdx_cons,wi,Gz off vs (i+1) _ (by simp;omega)];rw[Array.toList_setIfInBounds,show off+(i+1)=off+i+1 by omega,rB _ _ _ (by simp;omega),wE,cY,show off+i+1+vs.length=off+i+(vs.length+1) by omega];simp
theorem N0 (bM:Nat->Option (Nat×Nat))(p:Nat×Value)(l:List (Nat×Value))(cells:aQ):
  rX bM (p::l) cells=ob (bM p.1) λq=>eg (Nat.beq (ek (bW p.2)) q.2)<| ob (fP q.1 (bW p.2) cells) λcs=>rX bM l cs:=rfl
def PR (A:Nat->Prop)(ρ:fB):List (Nat×Value)->List (Nat×Value)->Prop
 |[],l=>l=[]
 |p::ps,l=>∃v' r,l=(p.1,v')::r/\VR A ρ p.2 v'/\PR A ρ ps r
theorem yB (bM:Nat->Option (Nat×Nat))(N1:Nat->Option (Nat×Nat)):∀(l:List (Nat×Value))(cells:aQ){r:aQ},rX bM l cells=some r->(∀i q,bM i=some q->N1 i=some q)->
  ∀A ρ l' uL,PR A ρ l l'->LR A ρ cells uL->∃r',Instr.fill N1 ⟨uL⟩ l'=some ⟨r'⟩/\LR A ρ r r'
 |[],cells,r,h,_,A,ρ,l',uL,hl,hc=>by
  have:cells=r:=j6 h;subst this;have:l'=[]:=hl;subst this;exact⟨uL,rfl,hc⟩
 |p::l,cells,r,h,rD,A,ρ,l',uL,hl,hc=>by
  rw[N0] at h;obtain⟨q,hq,h1⟩:=aC h;obtain⟨hb,h2⟩:=bp h1;obtain⟨cs,vv,h3⟩:=aC h2;obtain⟨v',r',rfl,hv,hr⟩:=hl;rw[gU] at hb vv;obtain⟨h4,h5⟩:=nS _ _ vv;have hvc:=hv.cells;have hvl:=hvc.length;have uG:=hc.length;have c8:p.2.cells.toList.length=q.2:=by simpa using hb
  have age:v'.cells.size=q.2:=by have:=hvl;simp at this c8;omega
  obtain⟨r2,h6,h7⟩:=yB bM N1 l cs h3 rD A ρ r' (uL.take q.1++v'.cells.toList++uL.drop (q.1+v'.cells.toList.length)) hr (by
   rw[h5,hvl];exact((hc.take q.1).append hvc).append (hc.drop _))
  refine⟨r2,?_,h7⟩;unfold Instr.fill;rw[rD _ _ hq];obtain⟨off,sz⟩:=q;simp only at age h4 c8 h6⊢;rw[if_neg (by simp at h4 uG c8⊢;omega)];rw[<-h6]
  congr 1
  have:=Gz off v'.cells.toList 0 ⟨uL⟩ (by simp at h4 uG c8⊢;omega);simp only[wY] at this;rw[<-this];rw[<-Array.foldl_toList,Array.toList_zipIdx]
theorem ta (ev NA:Operand->Value):∀(l:List (Nat×Operand)),(∀p∈l,VR A ρ (ev p.2) (NA p.2))->PR A ρ (sU ev l) (l.map λx=>(x.1,NA x.2))
 |[],_=>rfl
 |p::l,h=>⟨NA p.2,_,rfl,h p (by simp),ta ev NA l λq hq=>h q (by simp[hq])⟩
end
section
variable {E:dA}{P:Program}{X A:Nat->Prop}{ρ:fB}{s s':St}{w:World}{v v' x y x' y':Value}
theorem vx (zs:aQ)(n:Nat):lU zs (n+1)=zs++lU zs n:=rfl
theorem Ba (zs:aQ)(n:Nat):(lU zs n).length=n*zs.length:=by
 induction n with
 |zero=>show([]:aQ).length=_;simp
 |succ n ih=>rw[vx,bJ,ih,Nat.succ_mul];omega
theorem Vi (zs:aQ)(n:Nat):∀k,k<n*zs.length->(lU zs n)[k]?=zs[k% zs.length]?:=by
 induction n with
 |zero=>intro k h;simp at h
 |succ n ih=>
  intro k h;rw[Nat.succ_mul] at h;rw[vx];rcases lq k zs.length with h1|h1
  .rw[wZ h1,Ic h1]
  .rw[zY h1,ih _ ag,Nat.mod_eq_sub_mod h1]
theorem yC (z:Value)(n sz:Nat)(hz:z.cells.size=sz)(h0:0<sz):(Array.range (n*sz)).map (z.cells[·% z.cells.size]!)=⟨lU z.cells.toList n⟩:=by
 apply wg;apply UU;intro k;simp only[Array.toList_map,Array.toList_range,BK];rcases lq k (n*sz) with h|h
 .rw[RL h];simp only[wh];rw[Vi _ _ k (by simpa[hz] using h)];have hm:k% z.cells.size<z.cells.size:=RM _ ag;simp[hm]
 .rw[rT (by simpa using h),rT (by rw[Ba];simpa[hz] using h)];rfl
theorem uM {zs:aQ}(h:∀ρ,zs.map (bY ρ)=zs)(n:Nat):LR A ρ (lU zs n) (lU zs n):=by
 intro eI _;induction n with
 |zero=>show([]:aQ).map _=[];rfl
 |succ n ih=>rw[vx,J7,h,ih]
theorem py {z:Value}(h:∀ρ,bY ρ z=z)(ρ:fB):z.cells.toList.map (bY ρ)=z.cells.toList:=by
 rw[<-xe,h]
theorem pI {β:Type}{t:Option TypeId}{k:TypeId->Option β}{r:β}(h:elemOf E t k=some r):∃t' e,t=some t'/\ja E t'=some (.slice e)/\k e=some r:=by
 obtain⟨t',h1,h2⟩:=aC h;obtain⟨d,h3,h4⟩:=aC h2;split at h4
 .exact⟨t',_,h1,h3,h4⟩
 .cases h4
theorem GA {c:aQ}{e:TypeId}{c':aQ}(l k:Nat)(hk:k<eH)(hp:o8 P X A ρ s (s.new (.cells c e false)) w)(hc:LR A ρ c c'){m:Sem Value}
  (hm:m.run P w= .ok (.slice (some ⟨w.heap.size,0,none⟩) l k) (w.alloc (.cells ⟨c'⟩ e))):cD P X A ρ s (s.new (.cells c e false)) w (.slice (some ⟨s.next,0,none⟩) l k) m:=by
 refine⟨_,_,ρ.at s.next (w.heap.size,c.length),hm,?_,?_⟩
 .have:=VR.slice (A:=di A s.next (s.new (.cells c e false)).next) (ρ:=ρ.at s.next (w.heap.size,c.length)) (b:=s.next) (o:=0) (l:=l) (c:=k) (.inr ⟨cA _,by simp⟩);rw[fw hk] at this;simpa using this
 .refine Good.alloc (o:=.cells c e false) (x:=.cells ⟨c'⟩ e) hp.st hp.eh hp.lt (λc=>by simp) (by simp) (j8 s _) (cA _) (heap_alloc_new w _) ?_ (Fr.alloc w _);exact⟨c',[],(0,0),by simp,hc,(λh=>by cases h),λ_=>⟨.inl ⟨rfl,rfl⟩,cA _⟩⟩
theorem GB (hE:cS E P)(w:World):∀(fs:List Field){pl:List (Nat×Nat)},places E fs=some pl->(fs.mapM λf=>do pure (f.offset,<-sizeOf f.type):Sem (List (Nat×Nat))).run P w= .ok pl w
 |[],pl,h=>by have:=j6 h;subst this;simp
 |f::fs,pl,h=>by
  have h':ob (size E f.type) (λsz=>ob (places E fs) λr=>some ((f.offset,sz)::r))=some pl:=h;obtain⟨sz,h1,h2⟩:=aC h';obtain⟨r,h3,h4⟩:=aC h2;have:=j6 h4;subst this;have ih:=GB hE w fs h3;simp only[Fo,Sem.run_bind,run_sizeOf hE h1,Sem.run_pure,Result.andThen_ok,ih]
theorem R0 (hE:cS E P){t:TypeId}{ev:Operand->Value}{ps:List (Nat×Operand)}(h:Il E ev s t ps=some (v,s')):s'=s/\∀A ρ (NA:Operand->Value),(∀p∈ps,VR A ρ (ev p.2) (NA p.2))->
  ∃v',(∀w,(Instr.build t (ps.map λx=>(x.1,NA x.2)).toArray).run P w= .ok v' w)/\VR A ρ v v':=by
 obtain⟨z,hz,h1⟩:=aC h;obtain⟨d,hd,h2⟩:=aC h1;clear h h1;have hu:=dX hE hd;split at h2
 .rename_i fs;obtain⟨pl,rD,h3⟩:=aC h2;obtain⟨cs,vv,h4⟩:=aC h3;have:=aG h4;simp only[cx] at this;obtain⟨rfl,rfl⟩:=this;refine⟨rfl,λA ρ NA hev=>?_⟩;obtain⟨r',h5,h6⟩:=yB (jb pl) (pl.toArray[·]?) _ _ vv (λi q hq=>by simpa using hq) A ρ _ z.cells.toList (ta ev NA ps hev) (by rw[gU];exact λeI _=>py (mz hE hz) eI);refine⟨.agg ⟨r'⟩,λw=>?_,VR.agg h6⟩;unfold Instr.build;simp only[Sem.run_bind,j7 hE hz,Result.andThen_ok,run_underlying hu];have hmm:((⟨fs⟩:Array Field).mapM λf=>do pure (f.offset,<-sizeOf f.type):Sem (Array (Nat×Nat))).run P w= .ok pl.toArray w:=by
   have:=GB hE w fs rD;rw[Array.mapM_eq_mapM_toList];simp only[map_eq_pure_bind,Sem.run_bind,this,Result.andThen_ok,Sem.run_pure]
  simp only[hmm,Result.andThen_ok];simp only[h5];rfl
 .rename_i n e;obtain⟨sz,iW,h3⟩:=aC h2;obtain⟨cs,vv,h4⟩:=aC h3;have:=aG h4;simp only[cx] at this;obtain⟨rfl,rfl⟩:=this;refine⟨rfl,λA ρ NA hev=>?_⟩;obtain⟨r',h5,h6⟩:=yB (oG sz) (λi=>some (i*sz,sz)) _ _ vv (λi q hq=>hq) A ρ _ z.cells.toList (ta ev NA ps hev) (by rw[gU];exact λeI _=>py (mz hE hz) eI);refine⟨.agg ⟨r'⟩,λw=>?_,VR.agg h6⟩;unfold Instr.build;simp only[Sem.run_bind,j7 hE hz,Result.andThen_ok,run_underlying hu,run_sizeOf hE iW];simp only[h5];rfl
 .cases h2
end
section
variable {E:dA}{P:Program}{X A:Nat->Prop}{ρ:fB}{s s':St}{w:World}{v v' x y x' y':Value}
theorem CV (hE:cS E P){t:TypeId}{n:Nat}{ev:Operand->Value}{ps:List (Nat×Operand)}(h:uB E ev s t n ps=some (v,s')):aF s s'/\∀X A ρ w (NA:Operand->Value),o8 P X A ρ s s' w->(∀p∈ps,VR A ρ (ev p.2) (NA p.2))->
  cD P X A ρ s s' w v (Instr.buildSlice t n (ps.map λx=>(x.1,NA x.2)).toArray):=by
 obtain⟨t',e,ht,hd,h1⟩:=pI h;have:=j6 ht;subst this;obtain⟨sz,iW,h2⟩:=aC h1;obtain⟨z,hz,h3⟩:=aC h2;obtain⟨hc,h4⟩:=bp h3;obtain⟨cs,vv,h5⟩:=aC h4;have:=aG h5;simp only[cx] at this;obtain⟨rfl,rfl⟩:=this;clear h h1 h2 h3 h4 h5 ht;simp only[bU,CA,lR,dh,gU] at hc;obtain⟨⟨vy,qH⟩,Ix⟩:=hc;have hmul:Nat.mul n sz=n*sz:=rfl;rw[hmul] at Ix;have hu:=dX hE hd;refine⟨aF.jF s _,λX A ρ w NA hp hev=>?_⟩;rw[gU] at vv;obtain⟨r',h5,h6⟩:=yB (oG sz) (λi=>some (i*sz,sz)) _ _ vv (λi q hq=>hq) A ρ _ _ (ta ev NA ps hev) (uM (py (mz hE hz)) n);refine GA n n (by simp[eH];have:n<=n*sz:=UW n qH;omega) hp h6 ?_;unfold Instr.buildSlice;simp only[Sem.run_bind,run_underlying hu,Result.andThen_ok,run_sizeOf hE iW];rw[if_neg ag];have hm:=yC z n sz (by simpa using vy) qH;by_cases h0:n*sz=0
 .have hn:n=0:=by
   rcases Nat.mul_eq_zero.1 h0 with h|h
   .exact h
   .omega
  subst hn;simp only[Ih,if_true,Sem.run_pure,Result.andThen_ok];have e1:∀f:Nat->Value,(Array.map f (Array.range 0))=⟨lU z.cells.toList 0⟩:=λf=>by
   apply wg;show _=([]:aQ);simp
  simp only[Sem.run_bind,Sem.run_pure,Result.andThen_ok,e1,h5,p9]
 .simp only[h0,pg,Sem.run_bind,j7 hE hz,Result.andThen_ok,Sem.run_pure];rw[hm,h5];simp only[Sem.run_bind,p9,Result.andThen_ok,Sem.run_pure]
theorem Fz (hE:cS E P){t:TypeId}(h:xa E s t x y=some (v,s')):aF s s'/\∀X A ρ w x' y',o8 P X A ρ s s' w->VR A ρ x x'->VR A ρ y y'->cD P X A ρ s s' w v (Instr.makeSlice t x' y'):=by
 obtain⟨t',e,ht,hd,h1⟩:=pI h;have:=j6 ht;subst this;obtain⟨i,hi,h2⟩:=aC h1;obtain⟨z,hz,h3⟩:=aC h2;clear h h1 h2 ht;split at h3
 .rename_i kl l kc c;obtain⟨hc,h4⟩:=bp h3;have:=aG h4;simp only[cx] at this;obtain⟨rfl,rfl⟩:=this;clear h3 h4;simp only[bU,CA,lR,dh,gU] at hc;obtain⟨⟨⟨⟨vy,qH⟩,Ix⟩,UC⟩,hc5⟩:=hc;have hu:=dX hE hd;have hI:=hE.ty _ _ hi;refine⟨aF.jF s _,λX A ρ w x' y' hp hx hy=>?_⟩;rw[hx.mw,hy.mw];rw[gU] at hp⊢;refine GA l c (by simp[eH];omega) hp (uM (py (hE.zs _ _ _ hi hz)) c) ?_;have hb:(i.bytes:Int)*(c:Int)<=281474976710656:=by
   have:i.bytes*c<=1000000*1000000:=Nat.mul_le_mul Ix qH;have h2:((i.bytes*c:Nat):Int)<=281474976710656:=by omega
   rwa [Int.natCast_mul] at h2
  have:=run_makeSlice (P:=P) w t e i z hu hI hz kl kc (l:Int) (c:Int) ag ag;rw[show(Int.ofNat l)=(l:Int) from rfl,show(Int.ofNat c)=(c:Int) from rfl];rw[run_make w t e i z hu hI hz kl kc (l:Int) (c:Int) ag ag hb ag];simp only[uy];have hm:=yC z c i.size (by simpa using UC) hc5;rw[show madeCells z.cells (c*i.size)=⟨lU z.cells.toList c⟩ from hm]
 .cases h3
theorem Z6 (h:adu x s=some (v,s')):s'=s/\v=x/\((∃a,x= .pointer (some a))\/∃f a b,x= .func (.func f) a b):=by
 unfold adu at h;split at h
 .rename_i a;have:=aG h;simp only[cx] at this;exact⟨this.2.symm▸rfl,this.1▸rfl,.inl ⟨a,rfl⟩⟩
 .rename_i f a b;have:=aG h;simp only[cx] at this;exact⟨this.2.symm▸rfl,this.1▸rfl,.inr ⟨f,a,b,rfl⟩⟩
 .cases h
end
section
variable {E:dA}{P:Program}{X A:Nat->Prop}{ρ:fB}{s s':St}{w:World}{v v' x y x' y':Value}
theorem strCells_eq (l:List UInt8):strCells l=l.map λc=>Value.int .u8 (c.toNat:Int):=by
 induction l with
 |nil=>rfl
 |cons c l ih=>exact fI (Value.int .u8 (c.toNat:Int)::·) ih
theorem jV (l:List UInt8)(ρ:fB):(strCells l).map (bY ρ)=strCells l:=by
 rw[strCells_eq,List.map_map];apply Fl;intro c _;simp
theorem fb.drew {g:Nat->Option gF}(h:fb P X A ρ g w):fb P X A ρ g w.drew:=⟨h.lp,h.inj⟩
theorem Qp {β:Type}{sz:Nat}{k:Nat->aQ->St->Option β}{r:β}(h:Kr s sz x k=some r):∃n new s1,k n new s1=some r/\s1.heap=s.heap/\s1.next=s.next/\s1.wr=s.wr/\aF s s1/\new.length=n*sz/\
  ∀X A ρ w x',(∀b,In s1.cO b->X b)->fb P X A ρ s.heap.get w->VR A ρ x x'->∃fL,LR A ρ new fL/\fL=new.map (bY ρ)/\
   ∀w2,w2.heap=w.heap->(Builtin.lenOf x').run P w2= .ok n w2/\∀m,m<=n->(Builtin.firstCells sz m x').run P w2= .ok ⟨fL.take (m*sz)⟩ w2:=by
 unfold Kr at h;split at h
 .rename_i z;obtain⟨h1,h2⟩:=bp h;have h1:sz=1:=by simpa using h1
  subst h1;refine⟨_,_,s,h2,rfl,rfl,rfl,aF.refl s,by rw[strCells_eq];simp,λX A ρ w x' hX jw hx=>⟨strCells z,λeI _=>jV z eI,(jV z ρ).symm,λw2 hw=>⟨?_,λm hm=>?_⟩⟩⟩
  .rw[hx.uF,dh];rfl
  .rw[hx.uF];unfold Builtin.firstCells;simp only[Sem.run_pure,extract_mk,Nat.sub_zero,CB,z7]
   congr 1
   apply wg;simp[strCells_eq,List.map_take]
 .rename_i n c;obtain⟨h1,h2⟩:=bp h;have h1:n=0:=by simpa using h1
  subst h1;refine⟨_,_,s,h2,rfl,rfl,rfl,aF.refl s,by simp,λX A ρ w x' hX jw hx=>⟨[],LR.nil,rfl,λw2 hw=>⟨?_,λm hm=>?_⟩⟩⟩
  .rw[hx.jf];rfl
  .rw[hx.jf];simp[Builtin.firstCells]
 .rename_i b o n c;obtain⟨cs,e,u,hg,h1⟩:=mW h;obtain⟨new,hn,h2⟩:=aC h1;rw[pZ] at hn;obtain⟨h3,h4⟩:=kP hn;rw[gd] at h3;have hmul:Nat.mul n sz=n*sz:=rfl;rw[hmul] at h3 h4;refine⟨_,_,s.aV b,h2,by simp,by simp,by simp,aF.aV s b,by rw[h4];simp;omega,λX A ρ w x' hX jw hx=>?_⟩;obtain⟨hA,c',aO,fr,r1,r2,r3,r4,r5,r6⟩:=jw.row (hX b (gv s b)) hg;refine⟨(c'.drop o).take (n*sz),?_,?_,λw2 hw=>⟨?_,λm hm=>?_⟩⟩
  .rw[h4];exact(r2.drop o).take _
  .rw[h4,<-r2.self,List.map_take,List.map_drop]
  .rw[hx.fY];rfl
  .rw[hx.fY];unfold Builtin.firstCells;have hms:m*sz<=n*sz:=Kc _ hm;rcases wc (m*sz) with h0|h0
   .simp only[h0,loadCells,loadCellsFrom,List.take_zero];rfl
   .rw[jd P (by rw[hw];exact r1) o (m*sz) (by simp;omega)]
    congr 1
    apply wg;simp only[];rw[RH ag,BJ (by simp;omega),NO,BL hms]
 .rename_i b o q n c;obtain⟨h1,h2⟩:=bp h;have h1:n=0:=by simpa using h1
  subst h1;refine⟨_,_,s,h2,rfl,rfl,rfl,aF.refl s,by simp,λX A ρ w x' hX jw hx=>⟨[],LR.nil,rfl,λw2 hw=>⟨?_,λm hm=>?_⟩⟩⟩
  .obtain⟨a',rN⟩:=hx.s7;rw[rN];rfl
  .obtain⟨a',rN⟩:=hx.s7;have Fe:m=0:=Nat.eq_zero_of_le_zero hm;subst Fe;rw[rN];simp[Builtin.firstCells,loadCells,loadCellsFrom]
 .cases h
end
section
variable {E:dA}{P:Program}{X A:Nat->Prop}{ρ:fB}{s s':St}{w w':World}{v v' x y x' y':Value}
theorem N2 {e:TypeId}{i:TypeInfo}(hi:P.info? e=some i)(w:World):(typeInfo e).run P w= .ok i w:=by simp[typeInfo,hi]
theorem gV {ts:Array TypeId}{ty t xt e:TypeId}{xd:TypeDesc}{i:TypeInfo}(h0:ts[0]?=some t)(h1:ts[1]?=some xt)(ht:P.underlying t=some (.slice e))(JZ:P.underlying xt=some xd)(Iy:isInt xd=false)(hi:P.info? e=some i)
  {len n cap:Nat}{base:aK}{new:aQ}(hl:(Builtin.lenOf x').run P w= .ok n w)(hf:(Builtin.firstCells i.size n x').run P w= .ok ⟨new⟩ w)(hr:len+n<=cap)
  (hn:base=none->w'=w)(hs:∀a,base=some a->(storeCells (a.add (len*i.size)) new).run P w= .ok () w'):
  (Builtin.append_ ts ty #[.slice base len cap,x']).run P w= .ok (.slice base (len+n) cap) w':=by
 cases xd<;>first|(cases Iy;done)|skip
 all_goals
  unfold Builtin.append_;simp only[h0,h1,Kd,ZJ,ZK,Sem.run_bind,run_underlying ht,run_underlying JZ,Result.andThen_ok,sizeOf,N2 hi,Sem.run_pure,jQ,pg,hl,hr,if_true,Ig,hf];cases base with
  |none=>simp[hn rfl]
  |some a=>simp[hs a rfl]
theorem nW {ts:Array TypeId}{ty t xt e:TypeId}{xd:TypeDesc}{i:TypeInfo}{z:Value}(h0:ts[0]?=some t)(h1:ts[1]?=some xt)(ht:P.underlying t=some (.slice e))(JZ:P.underlying xt=some xd)(Iy:isInt xd=false)(hi:P.info? e=some i)(hz:i.zero=some z)
  {len n cap:Nat}{base:aK}{old new:aQ}(hl:(Builtin.lenOf x').run P w= .ok n w)(hf:(Builtin.firstCells i.size n x').run P w.drew= .ok ⟨new⟩ w.drew)(ho:(Builtin.firstCells i.size len (.slice base len cap)).run P w.drew= .ok ⟨old⟩ w.drew)(hr:¬len+n<=cap)
  (Z7:len+n<=1000000)(hby:i.bytes<=1000000):
  (Builtin.append_ ts ty #[.slice base len cap,x']).run P w= .ok (.slice (some ⟨w.heap.size,0,none⟩) (len+n) (grownCap w (len+n) cap e)) (w.drew.alloc (.cells (⟨old⟩++⟨new⟩++Builtin.zeroCells z.cells (grownCap w (len+n) cap e-(len+n))) e)):=by
 have hb:(len+n)*i.bytes<=140737488355328:=by
  have:(len+n)*i.bytes<=1000000*1000000:=Nat.mul_le_mul Z7 hby;omega
 have hgs:=growslice_fits (need:=len+n) (old:=cap) (bytes:=i.bytes) ag hb;have h48:¬(2^ 48<Builtin.nextslicecap (len+n) cap*i.bytes):=by omega
 have h63:¬(((len+n:Nat):Int)>IntKind.i64.max):=by
  have:IntKind.i64.max=9223372036854775807:=rfl;rw[this];omega
 have hq:(Question.appendCap (len+n) cap e).forced=false:=rfl;have dS:(choose (.appendCap (len+n) cap e)).run P w= .ok (grownCap w (len+n) cap e) w.drew:=by
  rfl
 have har:∀k,(askRoom k).run P w.drew= .ok () w.drew:=by
  intro k;unfold askRoom;split<;>simp[mark,Sem.run]
 cases xd<;>first|(cases Iy;done)|skip
 all_goals
  unfold Builtin.append_;simp only[h0,h1,Kd,ZJ,ZK,Sem.run_bind,run_underlying ht,run_underlying JZ,Result.andThen_ok,sizeOf,N2 hi,Sem.run_pure,jQ,pg,hl,hr,Ig,if_true,h63,false_and,gt_iff_lt,h48];simp only[dS,har,ho,hf,Result.andThen_ok,zeroValue,Sem.run_bind,N2 hi,Sem.run_pure,hz,p9];rfl
theorem CW (z:Array Value)(n:Nat):(Builtin.zeroCells z n).toList.length=n*z.size:=by simp[Builtin.zeroCells]
theorem CX {c c':aQ}{e:TypeId}{i:TypeInfo}{z:Value}{len cap:Nat}(hp:o8 P X A ρ s (s.new (.cells c e true)) w)(hc:LR A ρ c c')(hi:P.info? e=some i)(hzs:z.cells.size=i.size)(h0:0<i.size)(hl:c.length=len*i.size)(c8:len<=1000000){m:Sem Value}
  (hm:m.run P w= .ok (.slice (some ⟨w.heap.size,0,none⟩) len (grownCap w len cap e)) (w.drew.alloc (.cells ⟨c'++(Builtin.zeroCells z.cells (grownCap w len cap e-len)).toList⟩ e))):
  cD P X A ρ s (s.new (.cells c e true)) w (bV s len) m:=by
 have Zs:P.cellsOf e=i.size:=by simp[Program.cellsOf,hi]
 have ZW:=grownCap_ge w len cap e;have hle:=grownCap_le_maxLen w len cap e (by unfold maxLen;omega);refine⟨_,_,ρ.at s.next (w.heap.size,grownCap w len cap e),hm,?_,?_⟩
 .have:=VR.slice (A:=di A s.next (s.new (.cells c e true)).next) (ρ:=ρ.at s.next (w.heap.size,grownCap w len cap e)) (b:=s.next) (o:=0) (l:=len) (c:=eH) (.inr ⟨cA _,by simp⟩);simpa[dD,bV] using this
 .refine Good.alloc (o:=.cells c e true) (x:=.cells ⟨c'++(Builtin.zeroCells z.cells (grownCap w len cap e-len)).toList⟩ e) hp.st hp.eh hp.lt (λc=>by simp) (by simp) (j8 s _) (cA _) (heap_alloc_new w.drew _) ?_ (Fr.Gx w _);refine⟨c',_,(0,0),rfl,hc,λ_=>⟨rfl,?_,by rw[Zs];exact h0,hle⟩,λh=>by cases h⟩;rw[CW,hzs,hl,Zs,<-mK]
  congr 1;omega
theorem Good.Iz {s1:St}{eI:fB}(h1:s1.heap=s.heap)(h2:s1.next=s.next)(g:Good P X A ρ s1 s' w w' eI):Good P X A ρ s s' w w' eI:=by
 obtain⟨a,b,c,d,e,f,g,h⟩:=g;rw[h2] at a b c e f g;rw[h1] at d e f g;exact⟨a,b,c,d,e,f,g,h⟩
theorem cD.Iz {s1:St}{m:Sem Value}(h1:s1.heap=s.heap)(h2:s1.next=s.next)(g:cD P X A ρ s1 s' w v m):cD P X A ρ s s' w v m:=by
 obtain⟨v',w',eI,a,b,c⟩:=g;exact⟨v',w',eI,a,by rw[<-h2];exact b,c.Iz h1 h2⟩
theorem o8.Iz {s1 s2:St}(h1:s1.heap=s.heap)(h2:s1.next=s.next)(kQ:∀b,In s2.cO b->In s'.cO b)(h:o8 P X A ρ s s' w):o8 P X A ρ s1 s2 w:=
 ⟨by rw[h2];exact h.lt,by rw[h1,h2];exact h.eh,λb hb=>h.cO b (kQ b hb),by rw[h1];exact h.st⟩
theorem se {g:Nat}{cs:aQ}{e:TypeId}{fr:Nat×Nat}(hg:w.heap[g]?=some (.cells ⟨cs⟩ e fr))(Ae:fr=(0,0)\/cs.length<=fr.1)(o:Nat)(vs:aQ)(hl:o+vs.length<=cs.length)(hf:∀v∈vs,flat v=true):
  (storeCells ⟨g,o,none⟩ vs).run P w= .ok () (w.setRow g ⟨cs.take o++vs++cs.drop (o+vs.length)⟩):=by
 have:=mf P g o e fr vs 0 ⟨cs⟩ w hg (by simpa using Ae) (by simpa using hl) (λv hv=>by rw[<-Ky];exact hf v hv);simpa using this
theorem Z8 (c' aO fL:aQ)(k:Nat)(h:c'.length=k):(c'++aO).take k++fL++(c'++aO).drop (k+fL.length)=(c'++fL)++aO.drop fL.length:=by
 subst h;rw[List.take_left,List.drop_append,ye ag];simp
theorem Cg (c' aO fL:aQ)(k:Nat)(h:k+fL.length<=c'.length):(c'++aO).take k++fL++(c'++aO).drop (k+fL.length)=(c'.take k++fL++c'.drop (k+fL.length))++aO:=by
 rw[BJ ag,RH ag];simp
theorem adz (a b:aQ)(c:Array Value):((⟨a⟩:Array Value)++(⟨b⟩:Array Value)++c)=⟨a++b++c.toList⟩:=by apply wg;simp
theorem KE (hE:cS E P){elem t xt:TypeId}{xd:TypeDesc}{i:TypeInfo}{z:Value}{base:aK}{len cap n:Nat}{new:aQ}{s1:St}
  (h:oF elem i.size base len cap n new s1=some (v,s'))(hi:P.info? elem=some i)(hz:i.zero=some z)(hzs:z.cells.size=i.size)(iW:0<i.size)(hby:i.bytes<=1000000)(nC:new.length=n*i.size)(N3:∀v∈new,flat v=true)(c8:len+n<=1000000)
  (ht:P.underlying t=some (.slice elem))(JZ:P.underlying xt=some xd)(Iy:isInt xd=false):
  aF s1 s'/\∀X A ρ w b' x' fL (ts:Array TypeId) ty,o8 P X A ρ s1 s' w->VR A ρ (.slice base len cap) b'->LR A ρ new fL->ts[0]?=some t->ts[1]?=some xt->
   (∀w2,w2.heap=w.heap->(Builtin.lenOf x').run P w2= .ok n w2/\(Builtin.firstCells i.size n x').run P w2= .ok ⟨fL⟩ w2)->cD P X A ρ s1 s' w v (Builtin.append_ ts ty #[b',x']):=by
 have Zs:P.cellsOf elem=i.size:=by simp[Program.cellsOf,hi]
 unfold oF at h;split at h
 .obtain⟨hc,h2⟩:=bp h;simp only[bU,CA] at hc;obtain⟨rfl,rfl⟩:=hc;cases hn:Nat.beq n 0 with
  |true=>
   rw[hn,gu] at h2;have x7:n=0:=by simpa using hn
   subst x7;have:=aG h2;simp only[cx] at this;obtain⟨rfl,rfl⟩:=this;refine⟨aF.refl _,λX A ρ w b' x' fL ts ty hp hb lA h0 h1 hx=>?_⟩;rw[hb.jf];have hr:=gV (ty:=ty) (w':=w) h0 h1 ht JZ Iy hi (hx w rfl).1 (hx w rfl).2 (len:=0) (cap:=0) (base:=none) ag (λ_=>rfl) (λa h=>by cases h);exact cD.pure hp hr (VR.ground (by simp))
  |false=>
   rw[hn,eJ] at h2;have x7:n≠0:=by intro e;subst e;cases hn
   have:=aG h2;simp only[cx] at this;obtain⟨rfl,rfl⟩:=this;refine⟨aF.jF s1 _,λX A ρ w b' x' fL ts ty hp hb lA h0 h1 hx=>?_⟩;rw[hb.jf];have hr:=nW (ty:=ty) h0 h1 ht JZ Iy hi hz (hx w rfl).1 (hx w.drew rfl).2 (len:=0) (cap:=0) (base:=none) (old:=[]) (by simp[Builtin.firstCells]) ag ag hby;simp only[nF] at hr;refine CX (cap:=0) hp lA hi hzs iW nC ag (hr.trans ?_);rw[adz,pT]
 .rename_i b o;obtain⟨c,e,wd,hg,h3⟩:=mW h;cases hk:Nat.ble eH cap with
  |true=>
   rw[hk,gu] at h3;obtain⟨hc,h4⟩:=bp h3;simp only[bU,CA,dh] at hc;obtain⟨⟨⟨hw,he⟩,Ah⟩,ho⟩:=hc;subst hw he Ah ho;have hmul:Nat.mul len i.size=len*i.size:=rfl;have Qq:∀ρ:fB,dD (ρ b) eH=(ρ b).2:=λρ=>by simp[dD]
   cases hbq:Nat.beq (ek c) (Nat.mul len i.size) with
   |false=>
    rw[hbq,eJ] at h4;obtain⟨hc,h4⟩:=bp h4;simp only[lR,dh] at hc;obtain⟨old,hold,h4⟩:=aC h4;obtain⟨h5,h6⟩:=kP hold;rw[hmul] at h5 h6;have BO:Nat.add (Nat.mul len i.size) new.length=len*i.size+new.length:=rfl;rw[BO] at hc;have:=aG h4;simp only[cx] at this;obtain⟨rfl,rfl⟩:=this;have Zt:aF s1 (((s1.aV b).put b none).new (.cells (old++new) e true)):=((aF.aV s1 b).trans (aF.put _ b _ (by rw[jc,hg];simp))).trans (aF.jF _ _);refine⟨Zt,λX A ρ w b' x' fL ts ty hp hb lA h0 h1 hx=>?_⟩;have hX:X b:=hp.cO b ((aF.jF _ _).cO b (fe _ b _));obtain⟨hA,c',aO,fr,r1,r2,r3,r4,r5,r6⟩:=hp.st.row hX hg;obtain⟨r7,r8,r9,r10⟩:=r5 rfl;rw[Zs] at r8;subst r7;rw[hb.fY,Qq];have Vj:=lA.length;have KF:LR A ρ (old++new) (c'.take (len*i.size)++fL):=by rw[h6];exact(r2.take _).append lA
    have wF:len+n<=(ρ b).2:=by
     refine UT (c:=i.size) ?_ iW;rw[mK];omega
    have jw:=se (P:=P) r1 r4 (len*i.size) fL (by simp;omega) (lA.jv N3);have hr:=gV (ty:=ty) (w':=w.setRow (ρ b).1 ⟨(c'++aO).take (len*i.size)++fL++(c'++aO).drop (len*i.size+fL.length)⟩) h0 h1 ht JZ Iy hi (hx w rfl).1 (hx w rfl).2 (len:=len) (cap:=(ρ b).2) (base:=some ⟨(ρ b).1,0,none⟩) wF (λh=>by cases h) (λa h=>by
     have:=j6 h;subst this;rw[add_lit,nF];exact jw)
    refine⟨_,_,ρ.at s1.next (ρ b),hr,?_,?_⟩
    .have:=VR.slice (A:=di A s1.next (((s1.aV b).put b none).new (.cells (old++new) e true)).next) (ρ:=ρ.at s1.next (ρ b)) (b:=s1.next) (o:=0) (l:=len+n) (c:=eH) (.inr ⟨cA _,by simp⟩);simpa[dD,bV] using this
    .refine Good.renew (o:=.cells c e true) (o':=.cells (old++new) e true) hp.st hp.eh hp.lt hX hg (λc=>by simp) (by simp) ((aF.jF _ _).wr b (je _ b _)) ?_ (setRow_heap w _ _ _ _ _ r1) ?_ (Fr.setRow w _ _)
     .have:=j8 ((s1.aV b).put b none) (.cells (old++new) e true);simpa using this
     .refine⟨c'.take (len*i.size)++fL,c'.drop (len*i.size+fL.length)++aO,(0,0),?_,KF,λ_=>⟨rfl,?_,r9,r10⟩,λh=>by cases h⟩
      .rw[Cg c' aO fL _ ag,kG]
      .rw[Zs,bJ,bJ,gd,h6,cZ,BL h5];omega
   |true=>
   rw[hbq,gu] at h4;have uG:c.length=len*i.size:=by rw[<-dh];exact o7 hbq
   cases hn:Nat.beq n 0 with
   |true=>
    rw[hn,gu] at h4;have x7:n=0:=by simpa using hn
    subst x7;have:=aG h4;simp only[cx] at this;obtain⟨rfl,rfl⟩:=this;refine⟨aF.aV s1 b,λX A ρ w b' x' fL ts ty hp hb lA h0 h1 hx=>?_⟩;obtain⟨hA,c',aO,fr,r1,r2,r3,r4,r5,r6⟩:=hp.st.row (hp.cO b (gv s1 b)) hg;obtain⟨r7,r8,r9,r10⟩:=r5 rfl;rw[Zs] at r8;rw[hb.fY,Qq];have hle:len<=(ρ b).2:=UT (c:=i.size) ag iW;have hn':fL=[]:=mT (by rw[lA.length,nC];omega);have hr:=gV (ty:=ty) (w':=w) h0 h1 ht JZ Iy hi (hx w rfl).1 (hx w rfl).2 (len:=len) (cap:=(ρ b).2) (base:=some ⟨(ρ b).1,0,none⟩) ag (λh=>by cases h) (λa h=>by
     subst hn';simp[storeCells])
    refine cD.same hp (by simp) (by simp) hr ?_;have:=VR.slice (A:=A) (ρ:=ρ) (b:=b) (o:=0) (l:=len) (c:=eH) hA;rw[Qq] at this;exact this
   |false=>
    rw[hn,eJ] at h4;have:=aG h4;simp only[cx] at this;obtain⟨rfl,rfl⟩:=this;have Zt:aF s1 (((s1.aV b).put b none).new (.cells (c++new) e true)):=((aF.aV s1 b).trans (aF.put _ b _ (by rw[jc,hg];simp))).trans (aF.jF _ _);refine⟨Zt,λX A ρ w b' x' fL ts ty hp hb lA h0 h1 hx=>?_⟩;have hX:X b:=hp.cO b ((aF.jF _ _).cO b (fe _ b _));obtain⟨hA,c',aO,fr,r1,r2,r3,r4,r5,r6⟩:=hp.st.row hX hg;obtain⟨r7,r8,r9,r10⟩:=r5 rfl;rw[Zs] at r8;subst r7;rw[hb.fY,Qq];have Vj:=lA.length;have KF:LR A ρ (c++new) (c'++fL):=r2.append lA;by_cases wF:len+n<=(ρ b).2
    .have adA:len*i.size+n*i.size<=c.length+aO.length:=by rw[r8,<-mK];exact Kc _ wF
     have jw:=se (P:=P) r1 r4 (len*i.size) fL (by simp;omega) (lA.jv N3);have hr:=gV (ty:=ty) (w':=w.setRow (ρ b).1 ⟨(c'++aO).take (len*i.size)++fL++(c'++aO).drop (len*i.size+fL.length)⟩) h0 h1 ht JZ Iy hi (hx w rfl).1 (hx w rfl).2 (len:=len) (cap:=(ρ b).2) (base:=some ⟨(ρ b).1,0,none⟩) wF (λh=>by cases h) (λa h=>by
      have:=j6 h;subst this;rw[add_lit,nF];exact jw)
     refine⟨_,_,ρ.at s1.next (ρ b),hr,?_,?_⟩
     .have:=VR.slice (A:=di A s1.next (((s1.aV b).put b none).new (.cells (c++new) e true)).next) (ρ:=ρ.at s1.next (ρ b)) (b:=s1.next) (o:=0) (l:=len+n) (c:=eH) (.inr ⟨cA _,by simp⟩);simpa[dD,bV] using this
     .refine Good.renew (o:=.cells c e true) (o':=.cells (c++new) e true) hp.st hp.eh hp.lt hX hg (λc=>by simp) (by simp) ((aF.jF _ _).wr b (je _ b _)) ?_ (setRow_heap w _ _ _ _ _ r1) ?_ (Fr.setRow w _ _)
      .have:=j8 ((s1.aV b).put b none) (.cells (c++new) e true);simpa using this
      .have ajV:c'.length=len*i.size:=by omega
       refine⟨c'++fL,aO.drop fL.length,(0,0),?_,KF,λ_=>⟨rfl,?_,r9,r10⟩,λh=>by cases h⟩
       .rw[Z8 c' aO fL _ ajV]
       .rw[Zs,bJ,gd];omega
    .have hold:(Builtin.firstCells i.size len (.slice (some ⟨(ρ b).1,0,none⟩) len (ρ b).2)).run P w.drew= .ok ⟨c'⟩ w.drew:=by
      unfold Builtin.firstCells;rw[jd P (w:=w.drew) r1 0 (len*i.size) (by simp;omega)];rw[CB,BJ ag,qG ag]
     have hr:=nW (ty:=ty) h0 h1 ht JZ Iy hi hz (hx w rfl).1 (hx w.drew rfl).2 (len:=len) (cap:=(ρ b).2) (base:=some ⟨(ρ b).1,0,none⟩) hold wF c8 hby;have BN:Good P X A ρ s1 ((s1.aV b).put b none) w w ρ:=Good.drop (o:=.cells c e true) hp.st hp.eh (λc=>by simp) (by simp) (je _ b _) hX hg (Fr.refl w _);have hp2:o8 P X (di A s1.next ((s1.aV b).put b none).next) ρ ((s1.aV b).put b none) (((s1.aV b).put b none).new (.cells (c++new) e true)) w:=
      ⟨λj hj=>by
         rcases hj with hj|hj
         .have:=hp.lt j hj;simp;exact this
         .simp at hj;omega,λc hc=>BN.eh c hc,hp.cO,BN.state⟩
     obtain⟨v',w',eI,g1,g2,g3⟩:=CX (cap:=(ρ b).2) (m:=Builtin.append_ ts ty #[.slice (some ⟨(ρ b).1,0,none⟩) len (ρ b).2,x']) hp2 (KF.mono (λi hi=>.inl hi) (λ_ _=>rfl)) hi hzs iW (len:=len+n) (by rw[bJ,uG,nC,mK]) c8 (hr.trans (by rw[adz]));refine⟨v',w',eI,g1,?_,?_⟩
     .have:bV ((s1.aV b).put b none) (len+n)=bV s1 (len+n):=by simp[bV]
      refine VR.mono (g2) (λj hj=>?_) (λ_ _=>rfl);rcases hj with(hj|hj)|hj
      .exact .inl hj
      .simp at hj;omega
      .exact .inr (by simpa using hj)
     .exact Good.trans hp.cO ((aF.aV s1 b).trans (aF.put _ b _ (by rw[jc,hg];simp))) (aF.jF _ _) hp.lt BN g3
  |false=>
   rw[hk,eJ] at h3;have Ah:cap<eH:=by
    rcases lq cap eH with h|h
    .exact h
    .rw[il h] at hk;cases hk
   cases hr:Nat.ble (Nat.add len n) cap with
   |true=>
    rw[hr,gu] at h3;have wF:len+n<=cap:=qF hr;cases hn:Nat.beq n 0 with
    |true=>
     rw[hn,gu] at h3;have x7:n=0:=by simpa using hn
     subst x7;have:=aG h3;simp only[cx] at this;obtain⟨rfl,rfl⟩:=this;refine⟨aF.aV s1 b,λX A ρ w b' x' fL ts ty hp hb lA h0 h1 hx=>?_⟩;rw[hb.fY,fw Ah];have hn':fL=[]:=mT (by rw[lA.length,nC];omega);have hr:=gV (ty:=ty) (w':=w) h0 h1 ht JZ Iy hi (hx w rfl).1 (hx w rfl).2 (len:=len) (cap:=cap) (base:=some ⟨(ρ b).1,o,none⟩) wF (λh=>by cases h) (λa h=>by
      subst hn';simp[storeCells])
     have hA:=(hp.st.row (hp.cO b (gv s1 b)) hg).1;refine cD.same hp (by simp) (by simp) hr ?_;have:=VR.slice (A:=A) (ρ:=ρ) (b:=b) (o:=o) (l:=len) (c:=cap) hA;rw[fw Ah] at this;exact this
    |false=>
     rw[hn,eJ] at h3;obtain⟨cs,vv,h4⟩:=aC h3;have:=aG h4;simp only[cx] at this;obtain⟨rfl,rfl⟩:=this;obtain⟨h8,h9⟩:=nS _ _ vv;refine⟨(aF.aV s1 b).trans (aF.put _ b _ (by rw[jc,hg];simp)),λX A ρ w b' x' fL ts ty hp hb lA h0 h1 hx=>?_⟩;have hX:X b:=hp.cO b (fe _ b _);obtain⟨hA,c',aO,fr,r1,r2,r3,r4,r5,r6⟩:=hp.st.row hX hg;rw[hb.fY,fw Ah];have Vj:=lA.length;have BO:Nat.add o (Nat.mul len i.size)=o+len*i.size:=rfl;rw[BO] at h8 h9;have jw:=se (P:=P) r1 r4 (o+len*i.size) fL (by simp;omega) (lA.jv N3);have hr:=gV (ty:=ty) (w':=w.setRow (ρ b).1 ⟨(c'++aO).take (o+len*i.size)++fL++(c'++aO).drop (o+len*i.size+fL.length)⟩) h0 h1 ht JZ Iy hi (hx w rfl).1 (hx w rfl).2 (len:=len) (cap:=cap) (base:=some ⟨(ρ b).1,o,none⟩) wF (λh=>by cases h) (λa h=>by
      have:=j6 h;subst this;rw[add_lit];exact jw)
     refine⟨_,_,ρ,hr,?_,?_⟩
     .have:=VR.slice (A:=di A s1.next ((s1.aV b).put b (some (.cells cs e wd))).next) (ρ:=ρ) (b:=b) (o:=o) (l:=len+n) (c:=cap) (.inl hA);rw[fw Ah] at this;exact this
     .refine Good.bf (o:=.cells c e wd) (o':=.cells cs e wd) hp.st hp.eh hX hg (λc=>by simp) (by simp) (je _ b _) (setRow_heap w _ _ _ _ _ r1) ?_ (Fr.setRow w _ _);have uG:cs.length=c.length:=by rw[h9];simp;omega
      refine⟨c'.take (o+len*i.size)++fL++c'.drop (o+len*i.size+fL.length),aO,fr,?_,?_,?_,?_⟩
      .rw[Cg c' aO fL _ ag]
      .rw[h9,Vj];exact((r2.take _).append lA).append (r2.drop _)
      .rw[uG];exact r5
      .rw[uG];exact r6
   |false=>
    rw[hr,eJ] at h3;have wF:¬len+n<=cap:=λh=>by
     have:Nat.ble (Nat.add len n) cap=true:=il h;rw[this] at hr;cases hr
    obtain⟨old,hold,h4⟩:=aC h3;have:=aG h4;simp only[cx] at this;obtain⟨rfl,rfl⟩:=this;rw[pZ] at hold;obtain⟨h5,h6⟩:=kP hold;have hmul:Nat.mul len i.size=len*i.size:=rfl;rw[hmul] at h5 h6;rw[gd] at h5;refine⟨(aF.aV s1 b).trans (aF.jF _ _),λX A ρ w b' x' fL ts ty hp hb lA h0 h1 hx=>?_⟩;have hX:X b:=hp.cO b ((aF.jF _ _).cO b (gv s1 b));obtain⟨hA,c',aO,fr,r1,r2,r3,r4,r5,r6⟩:=hp.st.row hX hg;rw[hb.fY,fw Ah];have agf:(Builtin.firstCells i.size len (.slice (some ⟨(ρ b).1,o,none⟩) len cap)).run P w.drew= .ok ⟨(c'.drop o).take (len*i.size)⟩ w.drew:=by
     unfold Builtin.firstCells;rcases wc (len*i.size) with zS|zS
     .simp only[zS,loadCells,loadCellsFrom,List.take_zero];rfl
     .rw[jd P (w:=w.drew) r1 o (len*i.size) (by simp;omega)]
      congr 1
      apply wg;simp only[];rw[RH ag,BJ (by simp;omega)]
    have hr:=nW (ty:=ty) h0 h1 ht JZ Iy hi hz (hx w rfl).1 (hx w.drew rfl).2 (len:=len) (cap:=cap) (base:=some ⟨(ρ b).1,o,none⟩) agf wF c8 hby;have KF:LR A ρ (old++new) ((c'.drop o).take (len*i.size)++fL):=by rw[h6];exact((r2.drop o).take _).append lA
    have KG:(old++new).length=(len+n)*i.size:=by
     rw[bJ,nC,h6,cZ,gd,BL h5,mK]
    have pJ:o8 P X A ρ (s1.aV b) ((s1.aV b).new (.cells (old++new) elem true)) w:=hp.Iz (by simp) (by simp) (λ_ h=>h);have:=CX (cap:=cap) (m:=Builtin.append_ ts ty #[.slice (some ⟨(ρ b).1,o,none⟩) len cap,x']) pJ KF hi hzs iW (len:=len+n) KG c8 (hr.trans (by rw[adz]));have o9:bV (s1.aV b) (Nat.add len n)=bV (s1.aV b) (len+n):=rfl;rw[o9];exact this.Iz (by simp) (by simp)
 .cases h
end
section
variable {E:dA}{P:Program}{X A:Nat->Prop}{ρ:fB}{s s':St}{w w':World}{v v' x y x' y':Value}
theorem N4 (hE:cS E P){ts:List TypeId}(h:vq E s ts x y=some (v,s')):aF s s'/\∀X A ρ w x' y' ty,o8 P X A ρ s s' w->VR A ρ x x'->VR A ρ y y'->cD P X A ρ s s' w v (Builtin.append_ ⟨ts⟩ ty #[x',y']):=by
 obtain⟨t,elem,ht,hd,h1⟩:=pI h;obtain⟨xt,JZ,h2⟩:=aC h1;obtain⟨xd,Iy,h3⟩:=aC h2;obtain⟨UD,h4⟩:=bp h3;obtain⟨i,hi,h5⟩:=aC h4;obtain⟨z,hz,h6⟩:=aC h5;obtain⟨hc,h7⟩:=bp h6;obtain⟨n,new,s1,h8,e1,e2,e3,BN,amN,adB⟩:=Qp (P:=P) h7;obtain⟨nC,h9⟩:=bp h8;obtain⟨N3,Fc⟩:=bp h9;clear h h1 h2 h3 h4 h5 h6 h7 h8 h9;rw[dR] at ht JZ;simp only[bU,lR,CA,dh,gU] at hc;obtain⟨⟨vy,qH⟩,Ix⟩:=hc;have nC:new.length=n*i.size:=by simpa using nC
 have N3:=(mv new).1 N3;split at Fc
 .rename_i base len cap;obtain⟨c8,Zu⟩:=bp Fc;have c8:len+n<=1000000:=qF c8;have hI:=hE.ty _ _ hi;obtain⟨Cb,hk⟩:=KE hE Zu hI hz (by simpa using Ix) vy qH nC N3 c8 (dX hE hd) (dX hE Iy) (by simpa using UD);refine⟨BN.trans Cb,λX A ρ w x' y' ty hp hx hy=>?_⟩;obtain⟨fL,Ai,h13,h14⟩:=adB X A ρ w y' (λb hb=>hp.cO b (Cb.cO b hb)) hp.st hy;refine(hk X A ρ w x' y' fL ⟨ts⟩ ty (hp.Iz e1 e2 λ_ h=>h) hx Ai (by simpa using ht) (by simpa using JZ) λw2 R1=>?_).Iz e1 e2;obtain⟨h15,IA⟩:=h14 w2 R1;refine⟨h15,?_⟩;rw[IA n (cA _),qG (by rw[Ai.length,nC];exact cA _)]
 .cases Fc
theorem Vk (hE:cS E P){ts:List TypeId}(h:copyV E s ts x y=some (v,s')):aF s s'/\∀X A ρ w x' y' ty,o8 P X A ρ s s' w->VR A ρ x x'->VR A ρ y y'->cD P X A ρ s s' w v (Builtin.copy_ ⟨ts⟩ ty #[x',y']):=by
 unfold copyV at h;split at h
 .rename_i b o n cap;obtain⟨t,e,ht,hd,h1⟩:=pI h;obtain⟨sz,iW,h2⟩:=aC h1;obtain⟨k,new,s1,h3,e1,e2,e3,BN,nC,adB⟩:=Qp (P:=P) h2;unfold Aa at h3;obtain⟨N3,h4⟩:=bp h3;obtain⟨adC,GC,h5⟩:=aC h4;obtain⟨c,ee,wd,hg,h6⟩:=mW h5;obtain⟨cs,vv,h7⟩:=aC h6;have:=aG h7;simp only[cx] at this;obtain⟨rfl,rfl⟩:=this;clear h h1 h2 h3 h4 h5 h6 h7;rw[dR] at ht;have N3:=(mv new).1 N3;obtain⟨h8,h9⟩:=kP GC;have RV:CN k n=Nat.min k n:=by
   unfold CN;rw[dO];simp only[lR];show _=min k n;rw[Nat.min_def]
  rw[RV] at h8 h9⊢;have mA:Nat.min k n<=k:=Nat.min_le_left k n;have hmul:Nat.mul (Nat.min k n) sz=Nat.min k n*sz:=rfl;rw[hmul] at h8 h9;obtain⟨Fc,Zu⟩:=nS _ _ vv;have Zt:aF s1 ((s1.aV b).put b (some (.cells cs ee wd))):=(aF.aV s1 b).trans (aF.put _ b _ (by rw[jc,hg];simp));refine⟨BN.trans Zt,λX A ρ w x' y' ty hp hx hy=>?_⟩;have hX:X b:=hp.cO b (fe _ b _);have Z9:o8 P X A ρ s1 ((s1.aV b).put b (some (.cells cs ee wd))) w:=hp.Iz e1 e2 λ_ h=>h
  obtain⟨hA,c',aO,fr,r1,r2,r3,r4,r5,r6⟩:=Z9.st.row hX hg;obtain⟨fL,Ai,h13,h14⟩:=adB X A ρ w y' (λj hj=>hp.cO j (Zt.cO j hj)) hp.st hy;obtain⟨h15,IA⟩:=h14 w rfl;rw[hx.fY];have adD:LR A ρ adC (fL.take (Nat.min k n*sz)):=by rw[h9];exact Ai.take _
  have tZ:=adD.length;have jw:=se (P:=P) r1 r4 o (fL.take (Nat.min k n*sz)) (by rw[tZ,bJ];omega) (adD.jv λu hu=>by rw[h9] at hu;exact N3 u (NP hu));have hf:=IA _ mA;have hu:=dX hE hd;have nV:(Builtin.copy_ ⟨ts⟩ ty #[.slice (some ⟨(ρ b).1,o,none⟩) n (dD (ρ b) cap),y']).run P w= .ok (.int .i64 (.ofNat (Nat.min k n))) (w.setRow (ρ b).1 ⟨(c'++aO).take o++fL.take (Nat.min k n*sz)++(c'++aO).drop (o+(fL.take (Nat.min k n*sz)).length)⟩):=by
   unfold Builtin.copy_;have ht':(⟨ts⟩:Array TypeId)[0]?=some t:=by simpa using ht
   simp only[ht',Kd,ZJ,ZK,Sem.run_bind,run_underlying hu,Result.andThen_ok,h15,run_sizeOf hE iW,hf,jw];rfl
  refine cD.Iz e1 e2 ⟨_,_,ρ,nV,VR.int _ _,?_⟩;refine Good.bf (o:=.cells c ee wd) (o':=.cells cs ee wd) Z9.st Z9.eh hX hg (λc=>by simp) (by simp) (je _ b _) (setRow_heap w _ _ _ _ _ r1) ?_ (Fr.setRow w _ _);have uG:cs.length=c.length:=by rw[Zu];simp;omega
  refine⟨c'.take o++fL.take (Nat.min k n*sz)++c'.drop (o+(fL.take (Nat.min k n*sz)).length),aO,fr,?_,?_,?_,?_⟩
  .rw[Cg c' aO _ _ ag]
  .rw[Zu,tZ];exact((r2.take _).append adD).append (r2.drop _)
  .rw[uG];exact r5
  .rw[uG];exact r6
 .cases h
theorem GD {zs:aQ}(h:∀y∈zs,flat y=true):∀(n:Nat),∀y∈lU zs n,flat y=true
 |0,_,hy=>by cases hy
 |n+1,y,hy=>by
  rw[vx] at hy;exact(eX.1 hy).elim (h y) (GD h n y)
theorem R5 (hE:cS E P){ts:List TypeId}(h:Ab E s ts x=some (v,s')):aF s s'/\∀X A ρ w x' ty,o8 P X A ρ s s' w->VR A ρ x x'->cD P X A ρ s s' w v (Builtin.clear_ ⟨ts⟩ ty #[x']):=by
 unfold Ab at h;split at h
 .rename_i n c;obtain⟨t,e,ht,hd,h1⟩:=pI h;have:=aG h1;simp only[cx] at this;obtain⟨rfl,rfl⟩:=this;rw[dR] at ht;have hu:=dX hE hd;refine⟨aF.refl _,λX A ρ w x' ty hp hx=>cD.pure hp (v':=.tuple #[]) ?_ (VR.ground (by simp))⟩;rw[hx.jf];simp[Builtin.clear_,ht,run_underlying hu]
 .rename_i b o q n c;obtain⟨t,e,ht,hd,h1⟩:=pI h;rw[dR] at ht;have hu:=dX hE hd;cases hn:Nat.beq n 0 with
  |true=>
   rw[show Nat.beq n (nat_lit 0)=true from hn,gu] at h1;have x7:n=0:=by simpa using hn
   subst x7;have:=aG h1;simp only[cx] at this;obtain⟨rfl,rfl⟩:=this;refine⟨aF.refl _,λX A ρ w x' ty hp hx=>cD.pure hp (v':=.tuple #[]) ?_ (VR.ground (by simp))⟩;obtain⟨a',rfl⟩:=hx.s7;simp[Builtin.clear_,ht,run_underlying hu]
  |false=>
   rw[show Nat.beq n (nat_lit 0)=false from hn,eJ] at h1;obtain⟨hq,h2⟩:=bp h1;have:=Qn hq;subst this;obtain⟨cs0,e',wd,hg,h3⟩:=mW h2;obtain⟨sz,iW,h4⟩:=aC h3;obtain⟨z,hz,h5⟩:=aC h4;obtain⟨hc,h6⟩:=bp h5;obtain⟨cs,vv,h7⟩:=aC h6;have:=aG h7;simp only[cx] at this;obtain⟨rfl,rfl⟩:=this;simp only[bU,lR,CA,dh,gU] at hc;obtain⟨⟨vy,qH⟩,Ix⟩:=hc;rw[gU] at vv;refine⟨(aF.aV s b).trans (aF.put _ b _ (by rw[jc,hg];simp)),λX A ρ w x' ty hp hx=>?_⟩;have hX:X b:=hp.cO b (fe _ b _);obtain⟨hA,c',aO,fr,r2,r3,r4,r5,r6,r7⟩:=hp.st.row hX hg;obtain⟨h8,h9⟩:=nS _ _ vv;have Vl:(lU z.cells.toList n).length=n*sz:=by rw[<-vy];exact Ba _ _
   have hrf:∀y∈lU z.cells.toList n,flat y=true:=GD ((mv _).1 Ix) n;have R6:LR A ρ (lU z.cells.toList n) (lU z.cells.toList n):=uM (λeI=>by rw[<-xe,mz hE hz]) n;have uG:c'.length=cs0.length:=r3.length;have x7:n≠0:=by rintro rfl;cases hn
   rw[hx.fY];have nV:(Builtin.clear_ ⟨ts⟩ ty #[.slice (some ⟨(ρ b).1,o,none⟩) n (dD (ρ b) c)]).run P w= .ok (.tuple #[]) (w.setRow (ρ b).1 ⟨(c'++aO).take o++lU z.cells.toList n++(c'++aO).drop (o+(lU z.cells.toList n).length)⟩):=by
    have Fc:=se (P:=P) (g:=(ρ b).1) (cs:=c'++aO) (e:=e') (fr:=fr) (w:=w) r2 (by simpa using r5) o (lU z.cells.toList n) (by rw[bJ];omega) hrf;have hm:=yC z n sz (by simpa using vy) qH;have hzc:Builtin.zeroCells z.cells n=⟨lU z.cells.toList n⟩:=by
     unfold Builtin.zeroCells;rw[show z.cells.size=sz by simpa using vy];rw[show z.cells.size=sz by simpa using vy] at hm;exact hm
    unfold Builtin.clear_;simp only[Kd,ht,Sem.run_bind,run_underlying hu,Result.andThen_ok];simp only[Kd,ZJ,Sem.run_bind,run_underlying hu,Result.andThen_ok];rw[j7 hE hz];simp only[Result.andThen_ok,hzc];rw[show(storeCells ⟨(ρ b).1,o,none⟩ (⟨lU z.cells.toList n⟩:Array Value).toList).run P w=_ from Fc];rfl
   refine⟨_,_,ρ,nV,VR.ground (by simp),?_⟩;refine Good.bf (o:=.cells cs0 e' wd) (o':=.cells cs e' wd) hp.st hp.eh hX hg (λc=>by simp) (by simp) (je _ b _) (setRow_heap w _ _ _ _ _ r2) ?_ (Fr.setRow w _ _);have hle:cs.length=cs0.length:=by rw[h9];simp;omega
   refine⟨c'.take o++lU z.cells.toList n++c'.drop (o+(lU z.cells.toList n).length),aO,fr,by rw[Cg c' aO _ o ag],?_,?_,?_⟩
   .rw[h9];exact((r3.take o).append R6).append (r3.drop _)
   .rw[hle];exact r6
   .rw[hle];exact r7
 .cases h
end
section
variable {E:dA}{P:Program}{X A:Nat->Prop}{ρ:fB}{s s':St}{w w':World}{v v' x y x' y':Value}
theorem FA (h:w8 x s=some (v,s')):aF s s'/\∀X A ρ w x' ts ty,o8 P X A ρ s s' w->VR A ρ x x'->cD P X A ρ s s' w v (Builtin.unsafeSliceData_ ts ty #[x']):=by
 unfold w8 at h;split at h
 .rename_i b n cap;obtain⟨hc,h1⟩:=bp h;obtain⟨c,e,wd,hg,h2⟩:=mW h1;obtain⟨hw,h3⟩:=bp h2;have:=aG h3;simp only[cx] at this;obtain⟨rfl,rfl⟩:=this;have hc:cap=eH:=by simpa using hc
  subst hc;simp only[bU,lR,dh] at hw;obtain⟨rfl,hl⟩:=hw;refine⟨aF.aV s b,λX A ρ w x' ts ty hp hx=>?_⟩;obtain⟨hA,c',aO,fr,r1,r2,r3,r4,r5,r6⟩:=hp.st.row (hp.cO b (gv s b)) hg;obtain⟨r7,r8,r9,r10⟩:=r5 rfl;rw[hx.fY];refine cD.same hp (by simp) (by simp) (Lib.run_unsafeSliceData_row w ts ty _ n _ ?_) (VR.ptr hA);simp only[dD,cA,if_true,Fm,Nat.sub_zero];rintro h0;rw[h0] at r8;omega
 .cases h
theorem N5 (v:Value)(l:aQ):A7 (v::l)=match v with
  |.int .u8 (.ofNat k)=>eg (Nat.ble (Nat.succ k) 256)<| ob (A7 l) λr=>some (UInt8.ofNat k::r)
  |_=>none:=rfl
theorem CY:∀(l:aQ){bs:List UInt8},A7 l=some bs->l=strCells bs
 |[],bs,h=>by have:=j6 h;subst this;rfl
 |v::l,bs,h=>by
  rw[N5] at h;split at h
  .rename_i k;obtain⟨h1,h2⟩:=bp h;obtain⟨r,h3,h4⟩:=aC h2;have:=j6 h4;subst this;have hk:k<256:=by simpa[RI] using h1
   have ih:=CY l h3;rw[strCells_eq,vp,ih,strCells_eq]
   congr 2
   have:(UInt8.ofNat k).toNat=k:=by simp[UInt8.toNat_ofNat,Ic hk]
   rw[this];rfl
  .cases h
theorem Fr.freeze (w:World)(g n:Nat):Fr w (w.freeze ⟨g,0,none⟩ n) λr=>r=g:=by
 unfold World.freeze;split
 .exact Fr.refl w _
 .refine⟨rfl,rfl,rfl,by simp,λr hr fK=>?_⟩;simp only[NQ];rw[if_neg (λe=>fK e.symm)]
theorem Aj (hE:cS E P){ts:List TypeId}(h:rz E ts x y s=some (v,s')):aF s s'/\∀X A ρ w x' y' ty,o8 P X A ρ s s' w->VR A ρ x x'->VR A ρ y y'->cD P X A ρ s s' w v (Builtin.unsafeString_ ⟨ts⟩ ty #[x',y']):=by
 unfold rz at h;split at h
 .rename_i pt it b n;obtain⟨c,e,wd,hg,h1⟩:=mW h;obtain⟨d,hd,h2⟩:=aC h1;split at h2
  .rename_i e';obtain⟨sz,iW,h3⟩:=aC h2;obtain⟨hc,h4⟩:=bp h3;obtain⟨l,hl,h5⟩:=aC h4;obtain⟨bs,hbs,h6⟩:=aC h5;have:=aG h6;simp only[cx] at this;obtain⟨rfl,rfl⟩:=this;simp only[bU,lR,CA] at hc;obtain⟨⟨⟨he,tc⟩,Qr⟩,GC⟩:=hc;subst he tc;have hu:=dX hE hd;refine⟨(aF.aV s b).trans (aF.put _ b _ (by rw[jc,hg];simp)),λX A ρ w x' y' ty hp hx hy=>?_⟩;have hX:X b:=hp.cO b (fe _ b _);obtain⟨hA,c',aO,fr,r1,r2,r3,r4,r5,r6⟩:=hp.st.row hX hg;rw[hx.nL,hy.mw];obtain⟨h7,h8⟩:=kP hl;have h9:=CY _ hbs;have c8:bs.length=n:=by
    have:=fI List.length h9;rw[h8,strCells_eq,ux,cZ] at this;omega
   have KF:LR A ρ (strCells bs) (c'.take n):=by rw[<-h9,h8];exact r2.take n
   have ui:c'.take n=strCells bs:=by rw[<-KF.self,jV]
   have nV:=Lib.run_unsafeString_row (P:=P) w pt it ty e hu (by rw[nT hE iW]) (ρ b).1 (c'++aO).length (by simp[World.shape?,r1]) bs (by rintro rfl;simp at c8;omega) (by rw[bJ];omega) ag (λj u hu=>by
    rw[add_lit,nF,yz r1];have hj:j<n:=by rw[<-c8];exact(ug.1 hu).1
    rw[wZ ag];have:(c'.take n)[j]?=some (.int .u8 (u.toNat:Int)):=by rw[ui,strCells_eq];simp[hu]
    rw[J9,if_pos hj] at this;exact this)
   rw[c8] at nV;refine⟨_,_,ρ,nV,VR.str _,?_⟩;exact Good.drop (o:=.cells c e wd) hp.st hp.eh (λc=>by simp) (by simp) (je _ b _) hX hg (Fr.freeze w _ n)
  .cases h2
 .cases h
end
section
variable {E:dA}{P:Program}{X A:Nat->Prop}{ρ:fB}{s s':St}{w w':World}{v v' x y x' y':Value}
theorem KH (bs:List UInt8):∀(cO:List UInt8),(bs.map λb=>(b.toNat:Int)).foldl (λ(r:ByteArray) n=>r.push (UInt8.ofNat n.toNat)) ⟨⟨cO⟩⟩=⟨⟨cO++bs⟩⟩:=by
 induction bs with
 |nil=>intro cO;simp
 |cons b bs ih=>
  intro cO;rw[vp,wi];have:(⟨⟨cO⟩⟩:ByteArray).push (UInt8.ofNat ((b.toNat:Int)).toNat)=⟨⟨cO++[b]⟩⟩:=by
   apply ByteArray.ext;simp[ByteArray.push]
  rw[this,ih];simp
theorem Vm (hE:cS E P){src dst:TypeId}(h:wC E s src dst x=some (v,s')):aF s s'/\∀X A ρ w x',o8 P X A ρ s s' w->VR A ρ x x'->cD P X A ρ s s' w v (convert src dst x'):=by
 obtain⟨ds,hs,h1⟩:=aC h;obtain⟨dd,hd,h2⟩:=aC h1;clear h h1;have R7:=dX hE hs;have hud:=dX hE hd;split at h2
 .rename_i k0 k k1 n;have:=aG h2;simp only[cx] at this;obtain⟨rfl,rfl⟩:=this;refine⟨aF.refl _,λX A ρ w x' hp hx=>cD.pure hp (v':=.int k (pX k n)) ?_ (VR.int _ _)⟩;rw[hx.mw,jU];unfold convert;simp only[Sem.run_bind,run_underlying R7,run_underlying hud,Result.andThen_ok];rfl
 .rename_i e a n c;obtain⟨d,IB,h3⟩:=aC h2;obtain⟨hb,h4⟩:=bp h3;have hue:=dX hE IB;have hd8:d= .int .u8:=by
   unfold isByte at hb;split at hb
   .rfl
   .cases hb
  subst hd8;have Vn:∀w x',(∀s,x'≠ .string s)->(∀k n,x'≠ .int k n)->(convert src dst x').run P w=(Conv.bytesToString x').run P w:=by
   intro w x' q1 q2;unfold convert;simp only[Sem.run_bind,run_underlying R7,run_underlying hud,Result.andThen_ok];rw[run_underlying hue];rfl
  unfold NR at h4;split at h4
  .have:=aG h4;simp only[cx] at this;obtain⟨rfl,rfl⟩:=this;refine⟨aF.refl _,λX A ρ w x' hp hx=>cD.pure hp (v':=.string ⟨⟨[]⟩⟩) ?_ (VR.str _)⟩;rw[hx.jf,Vn w _ (by simp) (by simp)];rfl
  .rename_i b o;obtain⟨cs,e2,wd,hg,h5⟩:=mW h4;obtain⟨l,hl,h6⟩:=aC h5;obtain⟨bs,hbs,h7⟩:=aC h6;have:=aG h7;simp only[cx] at this;obtain⟨rfl,rfl⟩:=this;refine⟨aF.aV s b,λX A ρ w x' hp hx=>?_⟩;obtain⟨hA,c',aO,fr,r1,r2,r3,r4,r5,r6⟩:=hp.st.row (hp.cO b (gv s b)) hg;rw[hx.fY];rw[pZ] at hl;obtain⟨h8,h9⟩:=kP hl;rw[gd] at h8;have Fc:=CY _ hbs;have KF:LR A ρ (strCells bs) ((c'.drop o).take n):=by rw[<-Fc,h9];exact(r2.drop o).take n
   have ui:(c'.drop o).take n=strCells bs:=by rw[<-KF.self,jV]
   refine cD.same hp (by simp) (by simp) (v':=.string ⟨⟨bs⟩⟩) ?_ (VR.str _);rw[Vn w _ (by simp) (by simp)];have agh:(loadCells ⟨(ρ b).1,o,none⟩ n).run P w= .ok ((bs.map λb=>(b.toNat:Int)).map (Value.int .u8)).toArray w:=by
    rcases wc n with h0|h0
    .subst h0;have:bs=[]:=by
      have:=fI List.length ui;simp[strCells_eq] at this;exact mT this.symm
     subst this;rfl
    .rw[jd P r1 o n (by simp;omega)];rw[RH ag,BJ (by simp;omega),ui,strCells_eq,List.map_map];rfl
   rw[run_bytesToString w _ n _ _ agh];have:=KH bs [];rw[pT] at this;rw[<-this];rfl
  .rename_i b o q;obtain⟨h5,h6⟩:=bp h4;have hn:n=0:=o7 h5;subst hn;have:=aG h6;simp only[cx] at this;obtain⟨rfl,rfl⟩:=this;refine⟨aF.refl _,λX A ρ w x' hp hx=>cD.pure hp (v':=.string ⟨⟨[]⟩⟩) ?_ (VR.str _)⟩;obtain⟨a',rN⟩:=hx.s7;rw[rN,Vn w _ (by simp) (by simp),run_bytesToString w _ 0 _ [] rfl];rfl
 .rename_i t b;obtain⟨c,e,wd,hg,h3⟩:=mW h2;obtain⟨sz,iW,h4⟩:=aC h3;obtain⟨hc,h5⟩:=bp h4;have:=aG h5;simp only[cx] at this;obtain⟨rfl,rfl⟩:=this;simp only[bU,lR,dh,pU] at hc;obtain⟨⟨rfl,hl⟩,tc⟩:=hc;refine⟨aF.aV s b,λX A ρ w x' hp hx=>?_⟩;obtain⟨hA,c',aO,fr,r1,r2,r3,r4,r5,r6⟩:=hp.st.row (hp.cO b (gv s b)) hg;obtain⟨i,J0,ua⟩:=Cc hE iW;rw[hx.nL];refine cD.same hp (by simp) (by simp) (Lib.run_to_unsafe w ⟨(ρ b).1,0,none⟩ R7 hud J0 ag (e:=e) (cells:=(c'++aO).length) (by simp[World.shape?,r1]) (by simp;omega)) (VR.ptr hA)
 .rename_i u b;obtain⟨c,e,wd,hg,h3⟩:=mW h2;obtain⟨sz,iW,h4⟩:=aC h3;obtain⟨hc,h5⟩:=bp h4;have:=aG h5;simp only[cx] at this;obtain⟨rfl,rfl⟩:=this;simp only[bU,CA,dh,pU] at hc;obtain⟨⟨⟨rfl,hl⟩,he⟩,hu⟩:=hc;subst he hu;refine⟨aF.aV s b,λX A ρ w x' hp hx=>?_⟩;obtain⟨hA,c',aO,fr,r1,r2,r3,r4,r5,r6⟩:=hp.st.row (hp.cO b (gv s b)) hg;obtain⟨i,J0,ua⟩:=Cc hE iW;rcases(r6 rfl).1 with⟨h7,_⟩|⟨h7,_⟩
  .subst h7;rw[hx.nL];refine cD.same hp (by simp) (by simp) (Lib.run_from_unsafe w ⟨(ρ b).1,0,none⟩ R7 hud J0 (e:=E.U3) (cells:=2) (by simp[World.shape?,r1,r3,hl]) hE.U3) (VR.ptr hA)
  .exact absurd h7 hE.agb
 .rename_i e z;obtain⟨d,IB,h3⟩:=aC h2;obtain⟨hb,h4⟩:=bp h3;obtain⟨sz,iW,h5⟩:=aC h4;obtain⟨hc,h6⟩:=bp h5;have:=aG h6;simp only[cx] at this;obtain⟨rfl,rfl⟩:=this;simp only[bU,CA,lR,dh] at hc;obtain⟨rfl,hlz⟩:=hc;have hue:=dX hE IB;have hd8:d= .int .u8:=by
   unfold isByte at hb;split at hb
   .rfl
   .cases hb
  subst hd8;refine⟨aF.jF s _,λX A ρ w x' hp hx=>?_⟩;rw[hx.uF];have ab8:(⟨⟨z⟩⟩:ByteArray).size=z.length:=rfl;have ZW:=grownCap_ge w z.length 0 e;have nV:(convert src dst (.string ⟨⟨z⟩⟩)).run P w= .ok (.slice (some ⟨w.heap.size,0,none⟩) z.length (grownCap w z.length 0 e)) ((w.drew.alloc (.cells ⟨strCells z++List.replicate (grownCap w z.length 0 e-z.length) (.int .u8 0)⟩ e)).freeze ⟨w.heap.size,grownCap w z.length 0 e,none⟩ 1):=by
   unfold convert;simp only[Sem.run_bind,run_underlying R7,run_underlying hud,Result.andThen_ok,run_underlying hue];have dS:(choose (.appendCap z.length 0 e)).run P w= .ok (grownCap w z.length 0 e) w.drew:=rfl;unfold Conv.stringToBytes;rw[ab8];simp only[Sem.run_bind,dS,Result.andThen_ok,p9];have FB:((⟨⟨z⟩⟩:ByteArray).data.map λb=>Value.int .u8 (b.toNat:Int))++Array.replicate (grownCap w z.length 0 e-z.length) (Value.int .u8 0)=⟨strCells z++List.replicate (grownCap w z.length 0 e-z.length) (.int .u8 0)⟩:=by
    apply wg;simp[strCells_eq]
   rw[FB];have Ce:((w.drew.alloc (.cells ⟨strCells z++List.replicate (grownCap w z.length 0 e-z.length) (.int .u8 0)⟩ e)).shape? w.heap.size)=some (e,grownCap w z.length 0 e):=by
    unfold World.shape?;rw[show w.heap.size=w.drew.heap.size from rfl,heap_alloc_new];simp only[rS,cx,Ka];show(strCells z++List.replicate (grownCap w z.length 0 e-z.length) (Value.int .u8 0)).length=_;rw[bJ,ry,strCells_eq,ux];omega
   unfold markStringish;have e1:w.drew.heap.size=w.heap.size:=rfl;simp only[Sem.run_bind,shape,freeze,Sem.run,e1,Ce,Result.andThen_ok,Sem.run_pure]
  refine⟨_,_,ρ.at s.next (w.heap.size,grownCap w z.length 0 e),nV,?_,?_⟩
  .have:=VR.slice (A:=di A s.next (s.new (.cells (strCells z) e false)).next) (ρ:=ρ.at s.next (w.heap.size,grownCap w z.length 0 e)) (b:=s.next) (o:=0) (l:=z.length) (c:=eH) (.inr ⟨cA _,by simp⟩);simpa[dD,bV] using this
  .refine Good.alloc (o:=.cells (strCells z) e false) (x:=.cells ⟨strCells z++List.replicate (grownCap w z.length 0 e-z.length) (.int .u8 0)⟩ e (grownCap w z.length 0 e,grownCap w z.length 0 e+1)) hp.st hp.eh hp.lt (λc=>by simp) (by simp) (j8 s _) (cA _) ?_ ?_ ?_
   .unfold World.freeze;rw[if_neg (by decide)];simp only[NQ];rw[if_pos trivial,show w.heap.size=w.drew.heap.size from rfl,heap_alloc_new];rfl
   .refine⟨strCells z,_,_,rfl,λeI _=>jV z eI,(λh=>by cases h),λ_=>⟨.inr ⟨hue,nT hE iW,?_⟩,by rw[strCells_eq,ux];exact ZW⟩⟩
    .rw[strCells_eq,ux,ry];simp;omega
   .refine⟨rfl,rfl,rfl,?_,λr hr _=>?_⟩
    .unfold World.freeze;rw[if_neg (by decide)];simp
    .unfold World.freeze;rw[if_neg (by decide)];simp only[NQ];rw[if_neg ag];exact(Fr.Gx w _).block r hr (λh=>h)
 .rename_i e0 e b o n c;obtain⟨d,IB,h3⟩:=aC h2;obtain⟨hb,h4⟩:=bp h3;obtain⟨cs,e',wd,hg,h5⟩:=mW h4;obtain⟨sz,iW,h6⟩:=aC h5;obtain⟨d',ajW,h7⟩:=aC h6;obtain⟨hc,h8⟩:=bp h7;have:=aG h8;simp only[cx] at this;obtain⟨rfl,rfl⟩:=this;simp only[bU,CA] at hb hc;obtain⟨hb,rfl⟩:=hb;obtain⟨lB,rfl⟩:=hc;have he0:e0=e:=by rw[hs] at hd;cases hd;rfl
  subst he0;have h8:∀{d:TypeDesc},isByte d=true->d= .int .u8:=λhb=>by
   unfold isByte at hb;split at hb
   .rfl
   .cases hb
  have hd8:=h8 hb;subst hd8;have ajX:=h8 lB;subst ajX;have hue:=dX hE IB;have ajY:=dX hE ajW;refine⟨(aF.aV s b).trans (aF.put _ b _ (by rw[jc,hg];simp)),λX A ρ w x' hp hx=>?_⟩;have hX:X b:=hp.cO b (fe _ b _);obtain⟨hA,c',aO,fr,r1,r2,r3,r4,r5,r6⟩:=hp.st.row hX hg;rw[hx.fY];have tX:P.cellsOf e'=1:=nT hE iW;have c8:(⟨c'++aO⟩:Array Value).size=cs.length+aO.length:=by show(c'++aO).length=_;rw[bJ,r3]
  have nV:(convert src src (.slice (some ⟨(ρ b).1,o,none⟩) n (dD (ρ b) c))).run P w= .ok (.slice (some ⟨(ρ b).1,o,none⟩) n (dD (ρ b) c)) (w.freeze ⟨(ρ b).1,cs.length+aO.length,none⟩ 1):=by
   unfold convert;simp only[Sem.run_bind,run_underlying R7,run_underlying hud,Result.andThen_ok,run_underlying hue];have Ce:w.shape? (ρ b).1=some (e',cs.length+aO.length):=by
    unfold World.shape?;rw[r1];simp only[rS,cx,Ka];exact c8
   have heq:(src== src)=true:=by simp
   rw[heq];simp only[run_underlying hue,Result.andThen_ok];unfold markStringish;simp only[Sem.run_bind,shape,freeze,Sem.run,Ce,Result.andThen_ok,Sem.run_pure]
  have hfz:∃fr2:Nat×Nat,(w.freeze ⟨(ρ b).1,cs.length+aO.length,none⟩ 1).heap[(ρ b).1]?=some (.cells ⟨c'++aO⟩ e' fr2)/\cs.length+aO.length<=fr2.1:=by
   unfold World.freeze;rw[if_neg (by decide)];simp only[NQ];rw[if_pos trivial,r1];obtain⟨lo,hi⟩:=fr;refine⟨_,rfl,?_⟩;split
   .exact cA _
   .rename_i fK;rcases r4 with h|h
    .cases h;exact absurd fK (by simp)
    .rw[bJ,r3] at h;simp only;simp only at h;omega
  obtain⟨fr2,hf1,hf2⟩:=hfz;refine⟨_,_,ρ,nV,?_,?_⟩
  .exact VR.slice (.inl hA)
  .refine Good.bf (o:=.cells cs e' wd) (o':=.cells cs e' false) hp.st hp.eh hX hg (λc=>by simp) (by simp) (je _ b _) hf1 ?_ ?_
   .exact⟨c',aO,fr2,rfl,r2,(λh=>by cases h),λ_=>⟨.inr ⟨ajY,tX,hf2⟩,by
     cases wd with
     |false=>exact(r6 rfl).2
     |true=>
      have h8:=(r5 rfl).2.1;rw[tX,z7] at h8;omega⟩⟩
   .refine⟨rfl,rfl,rfl,?_,λr hr h2=>?_⟩
    .unfold World.freeze;rw[if_neg (by decide)];simp
    .unfold World.freeze;rw[if_neg (by decide)];simp only[NQ];rw[if_neg (λh=>h2 h.symm)]
 .cases h2
end
section
variable {E:dA}{P:Program}{X A:Nat->Prop}{ρ:fB}{s s':St}{w w':World}{v v' x y x' y':Value}
theorem N6 (t:TypeId):∀X A ρ w,o8 P X A ρ s (s.new (.map [])) w->cD P X A ρ s (s.new (.map [])) w (.map (some s.next)) (Instr.makeMap t none):=by
 intro X A ρ w hp;refine⟨.map (some w.heap.size),w.alloc (.map #[] 0),ρ.at s.next (w.heap.size,0),rfl,?_,?_⟩
 .have:=VR.ajN (A:=di A s.next (s.new (.map [])).next) (ρ:=ρ.at s.next (w.heap.size,0)) (b:=s.next) (.inr ⟨cA _,by simp⟩);simpa using this
 .refine Good.alloc (o:=.map []) (x:=.map #[] 0) hp.st hp.eh hp.lt (λc=>by simp) (by simp) (j8 s _) (cA _) (heap_alloc_new w _) ?_ (Fr.alloc w _);exact⟨[],0,rfl,LR.nil,LR.nil⟩
theorem VR.GF {b:Nat}(h:VR A ρ (.map (some b)) v'):v'= .map (some (ρ b).1):=by rw[<-h.self,Gt]
theorem bytes_beq (a b:List UInt8):((⟨⟨a⟩⟩:ByteArray)== (⟨⟨b⟩⟩:ByteArray))=(a== b):=by
 have h:((⟨⟨a⟩⟩:ByteArray)== (⟨⟨b⟩⟩:ByteArray))=((⟨a⟩:Array UInt8)== (⟨b⟩:Array UInt8)):=rfl;rw[h,oZ];simp
theorem xh (k:Value)(p:Value×Value)(l:List (Value×Value)):rY k (p::l)=ob (kx k p.1) λb=>bo b (some (some p.2)) (rY k l):=rfl
theorem vz (k:Value)(p:Value×Value)(l:List (Value×Value)):RQ k (p::l)=ob (kx k p.1) λb=>bo b (some l) (ob (RQ k l) λr=>some (p::r)):=rfl
theorem GG (k v:Value)(p:Value×Value)(l:List (Value×Value)):NS k v (p::l)=ob (kx k p.1) λb=>bo b (some ((k,v)::l)) (ob (NS k v l) λr=>some (p::r)):=rfl
theorem yD {k k':Value}{b:Bool}(h:kx k k'=some b)(ρ:fB):bY ρ k'=k':=by
 unfold kx at h;split at h
 .have:=(uI _ _ _ h).2 ρ;simp[this]
 .simp
 .simp
 .cases h
theorem KI {x y:Value}(h:lO x y=some true):x=y:=by
 unfold lO at h;split at h
 .rw[jH] at h;simp at h;rw[h]
 .rw[eR] at h;simp at h;rw[h]
 .rename_i a b;cases a<;>cases b<;>first|rfl|cases h
 .cases h
theorem IC (xs:aQ):∀(ys:aQ),fO xs ys=some true->xs=ys:=by
 induction xs with
 |nil=>intro ys h;cases ys with
  |nil=>rfl
  |cons y ys=>cases h
 |cons x xs ih=>
  intro ys h;cases ys with
  |nil=>cases h
  |cons y ys=>
   rw[lz] at h;obtain⟨e,he,h1⟩:=aC h;obtain⟨r,h2,h3⟩:=aC h1;have h4:=j6 h3;cases e with
   |false=>cases h4
   |true=>
    rw[gu] at h4;subst h4;rw[KI he,ih _ h2]
theorem CZ {k k':Value}(h:kx k k'=some true):k'=k:=by
 unfold kx at h;split at h
 .rw[IC _ _ h]
 .obtain⟨h1,h2⟩:=bp h;have:=vw h1;subst this;rw[jH] at h2;simp at h2;rw[h2]
 .rw[eR] at h;simp at h;rw[h]
 .cases h
theorem td {kt:TypeId}{d:TypeDesc}{k:Value}(h:yo E kt d k=true):((∃j,d= .int j)/\(∃j n,k= .int j n))\/(d= .string/\∃z,k= .string ⟨⟨z⟩⟩)\/(((∃fs,d= .struct fs)\/∃n e,d= .array n e)/\∃cs,k= .agg ⟨cs⟩/\yn kt cs E.eqs=true):=by
 unfold yo at h;split at h
 .exact .inr (.inr ⟨.inl ⟨_,rfl⟩,_,rfl,h⟩)
 .exact .inr (.inr ⟨.inr ⟨_,_,rfl⟩,_,rfl,h⟩)
 .exact .inl ⟨⟨_,rfl⟩,_,_,rfl⟩
 .rename_i s;obtain⟨⟨z⟩⟩:=s;exact .inr (.inl ⟨rfl,z,rfl⟩)
 .cases h
theorem qX {kt:TypeId}{d:TypeDesc}{k:Value}(h:yo E kt d k=true):(∀ρ,bY ρ k=k):=by
 intro ρ;rcases td h with⟨_,j,n,rfl⟩|⟨_,z,rfl⟩|⟨_,cs,rfl,hq⟩
 .simp
 .simp
 .simp[KA hq ρ]
theorem R8 {kt:TypeId}{k k':Value}{b:Bool}{d:TypeDesc}(h:kx k k'=some b)(hd:(∃j,d= .int j)/\(∃j n,k= .int j n)\/(d= .string/\∃z,k= .string ⟨⟨z⟩⟩)):Instr.sameNow d k k'=some b:=by
 rcases hd with⟨⟨j0,rfl⟩,j,n,rfl⟩|⟨rfl,z,rfl⟩
 .unfold kx at h;split at h
  .simp_all
  .rename_i j1 a j' a' e1;obtain⟨h1,h2⟩:=bp h;have:=vw h1;subst this;have:=j6 h2;subst this;cases e1
   simp[Instr.sameNow,jH]
  .simp_all
  .cases h
 .unfold kx at h;split at h
  .simp_all
  .simp_all
  .rename_i a b' e1;have:=j6 h;subst this;cases e1
   simp[Instr.sameNow,eR,bytes_beq]
  .cases h
def sf (A:Nat->Prop)(ρ:fB)(k:Value)(es:List (Value×Value))(xs:List MapEntry)(i:Nat)(r:Option Value)(r':Option (Nat×Value)):Prop:=match r with
 |none=>r'=none/\RQ k es=some es
 |some v=>∃j v',r'=some (i+j,v')/\VR A ρ v v'/\(xs[j]?).map (·.key)=some k/\RQ k es=some (es.eraseIdx j)/\∀u,NS k u es=some (es.set j (k,u))
theorem sf.step {k:Value}{p:Value×Value}{x:MapEntry}{es:List (Value×Value)}{xs:List MapEntry}{i:Nat}{r:Option Value}{r':Option (Nat×Value)}(hb:kx k p.1=some false)(h:sf A ρ k es xs (i+1) r r'):sf A ρ k (p::es) (x::xs) i r r':=by
 cases r with
 |none=>
  obtain⟨h1,h2⟩:=h;refine⟨h1,?_⟩;rw[vz,hb,h2];rfl
 |some v=>
  obtain⟨j,v',h1,h2,h3,h4,h5⟩:=h;refine⟨j+1,v',by rw[h1];congr 2;omega,h2,by simpa using h3,?_,λu=>?_⟩
  .rw[vz,hb,h4];rfl
  .rw[GG,hb,h5];rfl
theorem sf.here {k:Value}{p:Value×Value}{x:MapEntry}{es:List (Value×Value)}{xs:List MapEntry}{i:Nat}{v':Value}(hb:kx k p.1=some true)(hx:x.key=k)(h:VR A ρ p.2 v'):sf A ρ k (p::es) (x::xs) i (some p.2) (some (i,v')):=by
 refine⟨0,v',rfl,h,by simp[hx],?_,λu=>?_⟩
 .rw[vz,hb];rfl
 .rw[GG,hb];rfl
theorem LR.split {es:List (Value×Value)}{p:Value×Value}{xs:List MapEntry}(h1:LR A ρ ((p::es).map (·.1)) (xs.map (·.key)))(h2:LR A ρ ((p::es).map (·.2)) (xs.map (·.val))):∃x xs',xs=x::xs'/\VR A ρ p.1 x.key/\VR A ρ p.2 x.val/\LR A ρ (es.map (·.1)) (xs'.map (·.key))/\LR A ρ (es.map (·.2)) (xs'.map (·.val)):=by
 cases xs with
 |nil=>have:=h1.length;simp at this
 |cons x xs=>
  simp only[vp] at h1 h2;obtain⟨u,us,e1,hu,R7⟩:=h1.jE;simp only[List.cons.injEq] at e1;obtain⟨rfl,rfl⟩:=e1;obtain⟨u2,us2,e2,Vo,Vp⟩:=h2.jE;simp only[List.cons.injEq] at e2;obtain⟨rfl,rfl⟩:=e2;exact⟨x,xs,rfl,hu,Vo,R7,Vp⟩
theorem C0 {k:Value}{d:TypeDesc}(hd:(∃j,d= .int j)/\(∃j n,k= .int j n)\/(d= .string/\∃z,k= .string ⟨⟨z⟩⟩)):∀(es:List (Value×Value))(xs:List MapEntry)(i:Nat){r:Option Value},rY k es=some r->LR A ρ (es.map (·.1)) (xs.map (·.key))->LR A ρ (es.map (·.2)) (xs.map (·.val))->
  ∃r',Instr.findNow d k xs i=some r'/\sf A ρ k es xs i r r'
 |[],xs,i,r,h,h1,h2=>by
  have:=j6 h;subst this;cases xs with
  |nil=>exact⟨none,rfl,rfl,rfl⟩
  |cons x xs=>have:=h1.length;simp at this
 |p::es,xs,i,r,h,h1,h2=>by
  refine' zaX
  have hs:=R8 (kt:=0) hb hd;unfold Instr.findNow;rw[hk,hs];cases b with
  |true=>
   rw[gu] at h3;have:=j6 h3;subst this;exact⟨_,rfl,sf.here hb (by rw[hk,CZ hb]) Vo⟩
  |false=>
   rw[eJ] at h3;obtain⟨r',h4,h5⟩:=C0 hd es xs (i+1) h3 R7 Vp;exact⟨r',h4,sf.step hb h5⟩
theorem wG (hE:cS E P){kt:TypeId}{cs:aQ}(hq:yn kt cs E.eqs=true):∀(es:List (Value×Value))(xs:List MapEntry)(i:Nat){r:Option Value},rY (.agg ⟨cs⟩) es=some r->LR A ρ (es.map (·.1)) (xs.map (·.key))->LR A ρ (es.map (·.2)) (xs.map (·.val))->
  ∃r',(∀w,(Instr.findAsking kt (.agg ⟨cs⟩) xs i).run P w= .ok r' w)/\sf A ρ (.agg ⟨cs⟩) es xs i r r'
 |[],xs,i,r,h,h1,h2=>by
  have:=j6 h;subst this;cases xs with
  |nil=>exact⟨none,λw=>rfl,rfl,rfl⟩
  |cons x xs=>have:=h1.length;simp at this
 |p::es,xs,i,r,h,h1,h2=>by
  refine' zaX
  obtain⟨ys,hy⟩:∃ys,p.1= .agg ⟨ys⟩:=by
   revert hb
   cases p.1<;>intro hb<;>first|cases hb|(rename_i q;exact⟨q.toList,rfl⟩)
  have Zs:fO cs ys=some b:=by rw[hy] at hb;exact hb
  have hs:∀w,(Op.equal kt (.agg ⟨cs⟩) x.key).run P w= .ok b w:=λw=>by rw[hk,hy];exact(hE.eqs kt cs hq ys b Zs w).1
  cases b with
  |true=>
   rw[gu] at h3;have:=j6 h3;subst this;refine⟨some (i,x.val),λw=>?_,sf.here hb (by rw[hk,CZ hb]) Vo⟩;unfold Instr.findAsking;simp only[Sem.run_bind,hs,Result.andThen_ok,if_true,Sem.run_pure]
  |false=>
   rw[eJ] at h3;obtain⟨r',h4,h5⟩:=wG hE hq es xs (i+1) h3 R7 Vp;refine⟨r',λw=>?_,sf.step hb h5⟩;unfold Instr.findAsking;simp only[Sem.run_bind,hs,Result.andThen_ok,jQ,pg,h4]
theorem te (hE:cS E P){kt:TypeId}{d:TypeDesc}{k:Value}(hu:P.underlying kt=some d)(hk:yo E kt d k=true){es:List (Value×Value)}{xs:List MapEntry}{r:Option Value}(h:rY k es=some r)(h1:LR A ρ (es.map (·.1)) (xs.map (·.key)))(h2:LR A ρ (es.map (·.2)) (xs.map (·.val))):
  ∃r',(∀w,(Instr.findKey kt k xs).run P w= .ok r' w)/\sf A ρ k es xs 0 r r':=by
 have go:((∃j,d= .int j)/\(∃j n,k= .int j n)\/(d= .string/\∃z,k= .string ⟨⟨z⟩⟩))->∃r',(∀w,(Instr.findKey kt k xs).run P w= .ok r' w)/\sf A ρ k es xs 0 r r':=λhd=>by
  obtain⟨r',h3,h4⟩:=C0 hd es xs 0 h h1 h2;refine⟨r',λw=>?_,h4⟩;unfold Instr.findKey;simp only[Sem.run_bind,run_underlying hu,Result.andThen_ok,h3,Sem.run_pure]
 rcases td hk with hd|hd|⟨hd,cs,rfl,hq⟩
 .exact go (.inl hd)
 .exact go (.inr hd)
 .obtain⟨r',h3,h4⟩:=wG hE hq es xs 0 h h1 h2;refine⟨r',λw=>?_,h4⟩;unfold Instr.findKey;simp only[Sem.run_bind,run_underlying hu,Result.andThen_ok];cases xs with
  |nil=>
   have:=h3 w;unfold Instr.findNow;simpa[Instr.findAsking] using this
  |cons x xs=>
   have:Instr.findNow d (.agg ⟨cs⟩) (x::xs) 0=none:=by
    unfold Instr.findNow;rcases hd with⟨fs,rfl⟩|⟨n,e,rfl⟩<;>rfl
   rw[this];exact h3 w
theorem run_checkKey (hE:cS E P)(b:Bool){t:TypeId}{d:TypeDesc}{k:Value}(hu:P.underlying t=some d)(hk:yo E t d k=true)(w:World):(Instr.checkKey b 10000 t k).run P w= .ok () w:=by
 rcases td hk with⟨⟨j0,rfl⟩,j,n,rfl⟩|⟨rfl,z,rfl⟩|⟨hd,cs,rfl,hq⟩
 .show(Instr.checkKey b (9999+1) t _).run P w=_;unfold Instr.checkKey;simp only[Sem.run_bind,run_underlying hu,Result.andThen_ok];rfl
 .show(Instr.checkKey b (9999+1) t _).run P w=_;unfold Instr.checkKey;simp only[Sem.run_bind,run_underlying hu,Result.andThen_ok];rfl
 .exact hE.keys t cs hq b w
theorem C1:∀(xs:aQ)(ks:List Nat),eV xs ks=true->∀n,(xs.zip xs).all (λ(x,y)=>Instr.sameBits n x y)=true
 |[],_,_,n=>rfl
 |v::xs,[],h,n=>by cases h
 |v::xs,k::ks,h,n=>by
  obtain⟨h1,h2,h3⟩:=mX h;have ih:=C1 xs ks h3 n;have hk:k=0\/k=1\/k=2:=by omega
  have:Instr.sameBits n v v=true:=by
   rcases hk with h|h|h
   .obtain⟨m,rfl⟩:=Af (h1.trans h);simp[Instr.sameBits]
   .obtain⟨m,rfl⟩:=Ag (h1.trans h);simp[Instr.sameBits,bytes_beq]
   .obtain⟨m,rfl⟩:=xg (h1.trans h);simp[Instr.sameBits]
  simpa[this] using ih
theorem ID {kt:TypeId}{d:TypeDesc}{k:Value}(hk:yo E kt d k=true)(w:World):(Instr.keyThatStays k k).run P w= .ok k w:=by
 have h:Instr.sameBits 10000 k k=true:=by
  rcases td hk with⟨_,j,n,rfl⟩|⟨_,z,rfl⟩|⟨_,cs,rfl,hq⟩
  .simp[Instr.sameBits]
  .simp[Instr.sameBits,bytes_beq]
  .obtain⟨ks,_,h2⟩:=uK kt cs _ hq;have:=C1 cs ks h2 9999;show Instr.sameBits (9999+1) (.agg ⟨cs⟩) (.agg ⟨cs⟩)=true;unfold Instr.sameBits;simp only[beq_self_eq_true,yf];exact this
 unfold Instr.keyThatStays;simp only[h,if_true,Sem.run_pure]
theorem sg {o:gF}{es:List (Value×Value)}(h:mapOf o=some es):o= .map es:=by
 cases o with
 |cells c e w=>cases h
 |map es'=>have:=j6 h;subst this;rfl
 |lM z p=>cases h
 |tW m=>cases h
 |uh ws=>cases h
theorem N7 (hE:cS E P){t:TypeId}{ok:Bool}(h:yq E s t x y ok=some (v,s')):aF s s'/\∀X A ρ w x' y',o8 P X A ρ s s' w->VR A ρ x x'->VR A ρ y y'->cD P X A ρ s s' w v (Instr.lookup t x' y' ok):=by
 obtain⟨d,hd,h1⟩:=aC h;clear h;split at h1
 .rename_i kt e b;obtain⟨kd,Vq,h2⟩:=aC h1;obtain⟨KJ,h3⟩:=bp h2;obtain⟨z,hz,h4⟩:=aC h3;obtain⟨o,ho,h5⟩:=aC h4;obtain⟨es,tg,h6⟩:=aC h5;obtain⟨r,hr,h7⟩:=aC h6;have:=sg tg;subst this;have hu:=dX hE hd;have UE:=dX hE Vq;have hs':s'=s.aV b:=by
   split at h7
   .have:=aG h7;simp only[cx] at this;exact this.2.symm▸rfl
   .have:=aG h7;simp only[cx] at this;exact this.2.symm▸rfl
  refine⟨by rw[hs'];exact aF.aV s b,λX A ρ w x' y' hp hx hy=>?_⟩;obtain⟨hA,xo,Ff,xs,ck,rfl,sS,tZ⟩:=hp.st.lp b _ (hp.cO b (by rw[hs'];exact gv s b)) ho;have yA:y'=y:=by rw[<-hy.self,qX KJ]
  subst yA;rw[hx.GF];obtain⟨r',ajZ,nG⟩:=te hE UE KJ hr sS tZ;have fJ:(getObj (ρ b).1).run P w= .ok (.map ⟨xs⟩ ck) w:=by
   simp[getObj,Sem.run,Ff]
  have hfk:(Instr.findKey kt y' (⟨xs⟩:Array MapEntry).toList).run P w= .ok r' w:=ajZ w;split at h7
  .rename_i u;obtain⟨j,v2,rfl,GH,_⟩:=nG;have:=aG h7;simp only[cx] at this;obtain⟨rfl,rfl⟩:=this;refine cD.same hp (by simp) (by simp) (v':=if ok then .tuple #[v2,.bool true] else v2) ?_ ?_
   .unfold Instr.lookup;simp only[Sem.run_bind,run_underlying hu,Result.andThen_ok,fJ,Sem.run_pure,run_checkKey hE _ UE KJ,hfk]
   .cases ok with
    |true=>exact VR.tuple (LR.cons GH (LR.cons (VR.bool _) LR.nil))
    |false=>exact GH
  .obtain⟨nG,_⟩:=nG;subst nG;have:=aG h7;simp only[cx] at this;obtain⟨rfl,rfl⟩:=this;refine cD.same hp (by simp) (by simp) (v':=if ok then .tuple #[z,.bool false] else z) ?_ ?_
   .unfold Instr.lookup;simp only[Sem.run_bind,run_underlying hu,Result.andThen_ok,fJ,Sem.run_pure,run_checkKey hE _ UE KJ,hfk,j7 hE hz]
   .have hzz:VR A ρ z z:=VR.ground (mz hE hz);cases ok with
    |true=>exact VR.tuple (LR.cons hzz (LR.cons (VR.bool _) LR.nil))
    |false=>exact hzz
 .cases h1
theorem LR.setAt {l l':aQ}(h:LR A ρ l l')(hv:VR A ρ v v')(j:Nat):LR A ρ (l.set j v) (l'.set j v'):=λeI e=>by
 rw[List.map_set,h eI e,hv eI e]
theorem mB {α β:Type}(f:α->β):∀(l:List α)(j:Nat),(l.eraseIdx j).map f=(l.map f).eraseIdx j
 |[],j=>by simp
 |x::l,0=>by simp
 |x::l,j+1=>by simp[mB f l j]
theorem modify_eq_set {α:Type}(f:α->α):∀(l:List α)(j:Nat)(x:α),l[j]?=some x->l.modify j f=l.set j (f x)
 |[],j,x,h=>by simp at h
 |y::l,0,x,h=>by simp at h;subst h;simp
 |y::l,j+1,x,h=>by simp at h;simp[modify_eq_set f l j x h]
theorem LR.Qs {l l':aQ}(h:LR A ρ l l')(j:Nat):LR A ρ (l.eraseIdx j) (l'.eraseIdx j):=λeI e=>by
 rw[mB,h eI e]
theorem Good.yE {b:Nat}{o o':gF}{x x':Obj}(hp:o8 P X A ρ s (s.put b (some o')) w)(ho:s.heap.get b=some o)(hx:w.heap[(ρ b).1]?=some x)(hnc:∀c e f,x≠ .cells c e f)(hr:Ft P A ρ (ρ b) o' x'):
  (setObj (ρ b).1 x').run P w= .ok () {w with heap:=w.heap.setIfInBounds (ρ b).1 x'}/\Good P X A ρ s (s.put b (some o')) w {w with heap:=w.heap.setIfInBounds (ρ b).1 x'} ρ:=by
 refine⟨by cases x<;>first|(exact absurd rfl (hnc _ _ _))|(simp[setObj,Sem.run,hx]),?_⟩;have du:=(yc.1 hx).1;refine Good.bf (o:=o) (o':=o') (x':=x') hp.st hp.eh (hp.cO b (fe s b _)) ho (λc=>by simp) (by simp) (je s b _) ?_ hr ?_
 .simp[du]
 .refine⟨rfl,rfl,rfl,by simp,λr hr fK=>?_⟩;simp only[adq];rw[if_neg (λe=>fK e.symm)]
theorem FC (hE:cS E P){t:TypeId}{u:Value}(h:sV E s t x y u=some (v,s')):aF s s'/\v= .tuple ⟨[]⟩/\∀X A ρ w x' y' u',o8 P X A ρ s s' w->VR A ρ x x'->VR A ρ y y'->VR A ρ u u'->∃w' eI,(Instr.mapUpdate t x' y' u').run P w= .ok () w'/\Good P X A ρ s s' w w' eI:=by
 obtain⟨d,hd,h1⟩:=aC h;clear h;split at h1
 .rename_i kt e b;obtain⟨kd,Vq,h2⟩:=aC h1;obtain⟨KJ,h3⟩:=bp h2;obtain⟨o,ho,h5⟩:=aC h3;obtain⟨es,tg,h6⟩:=aC h5;obtain⟨r,hr,h7⟩:=aC h6;have:=sg tg;subst this;have hu:=dX hE hd;have UE:=dX hE Vq;have wH:s.heap.get b≠none:=by rw[show s.heap.get b=some (.map es) from ho];simp
  split at h7
  .obtain⟨wI,he2,h8⟩:=aC h7;have:=aG h8;simp only[cx] at this;obtain⟨rfl,rfl⟩:=this;refine⟨aF.put s b _ wH,rfl,λX A ρ w x' y' u' hp hx hy KC=>?_⟩;obtain⟨hA,xo,Ff,xs,ck,rfl,sS,tZ⟩:=hp.st.lp b _ (hp.cO b (fe s b _)) ho;have yA:y'=y:=by rw[<-hy.self,qX KJ]
   subst yA;rw[hx.GF];obtain⟨r',hfk,j,v2,rfl,GH,adE,aaa,oJ⟩:=te hE UE KJ hr sS tZ;have aj0:wI=es.set j (y',u):=j6 (he2.symm.trans (oJ u));subst aj0;have fJ:(getObj (ρ b).1).run P w= .ok (.map ⟨xs⟩ ck) w:=by
    simp[getObj,Sem.run,Ff]
   obtain⟨x0,vA,R9⟩:=Option.map_eq_some_iff.1 adE;have Zv:=(ug.1 vA).1;obtain⟨dK,qY⟩:=Good.yE (x':=.map ⟨xs.set j {x0 with key:=y',val:=u'}⟩ ck) hp ho Ff (by simp) (by
    refine⟨xs.set j {x0 with key:=y',val:=u'},ck,rfl,?_,?_⟩
    .rw[List.map_set,List.map_set];exact sS.setAt hy j
    .rw[List.map_set,List.map_set];exact tZ.setAt KC j)
   refine⟨_,ρ,?_,qY⟩;unfold Instr.mapUpdate;have aj1:(⟨xs⟩:Array MapEntry).modify (0+j) (λe=>{e with key:=y',val:=u'})=⟨xs.set j {x0 with key:=y',val:=u'}⟩:=by
    apply wg;rw[Array.toList_modify,nF];simp only;rw[modify_eq_set _ _ _ _ vA]
   have hold:(((⟨xs⟩:Array MapEntry)[0+j]?).map (·.key)).getD y'=y':=by
    rw[nF];simp only[Kd,adE,pV]
   simp only[Sem.run_bind,run_underlying hu,Result.andThen_ok,fJ,run_checkKey hE _ UE KJ,hfk,hold,ID KJ,aj1,dK]
  .have:=aG h7;simp only[cx] at this;obtain⟨rfl,rfl⟩:=this;refine⟨aF.put s b _ wH,rfl,λX A ρ w x' y' u' hp hx hy KC=>?_⟩;obtain⟨hA,xo,Ff,xs,ck,rfl,sS,tZ⟩:=hp.st.lp b _ (hp.cO b (fe s b _)) ho;have yA:y'=y:=by rw[<-hy.self,qX KJ]
   subst yA;rw[hx.GF];obtain⟨r',hfk,nG,_⟩:=te hE UE KJ hr sS tZ;subst nG;have fJ:(getObj (ρ b).1).run P w= .ok (.map ⟨xs⟩ ck) w:=by
    simp[getObj,Sem.run,Ff]
   obtain⟨dK,qY⟩:=Good.yE (x':=.map ((⟨xs⟩:Array MapEntry).push {key:=y',val:=u',born:=ck}) (ck+1)) hp ho Ff (by simp) (by
    refine⟨xs++[{key:=y',val:=u',born:=ck}],ck+1,by simp,?_,?_⟩
    .rw[J7,J7];exact sS.append (LR.cons hy LR.nil)
    .rw[J7,J7];exact tZ.append (LR.cons KC LR.nil))
   refine⟨_,ρ,?_,qY⟩;unfold Instr.mapUpdate;simp only[Sem.run_bind,run_underlying hu,Result.andThen_ok,fJ,run_checkKey hE _ UE KJ,hfk,dK]
 .cases h1
end
section
variable {E:dA}{P:Program}{X A:Nat->Prop}{ρ:fB}{s s':St}{w w':World}{v v' x y x' y':Value}
theorem aab (h:ZQ x y s=some (v,s')):s'=s/\∀A ρ x' y' ts ty,VR A ρ x x'->VR A ρ y y'->∃v',(∀w,(Builtin.min_ ts ty #[x',y']).run P w= .ok v' w)/\VR A ρ v v':=by
 unfold ZQ at h;split at h
 .rename_i k a k' b;obtain⟨hk,h2⟩:=bp h;have:=aG h2;simp only[cx] at this;obtain⟨rfl,rfl⟩:=this;refine⟨rfl,λA ρ x' y' ts ty hx hy=>⟨_,λw=>?_,VR.int _ _⟩⟩;rw[hx.mw,hy.mw];simp only[Builtin.min_,List.foldlM,Builtin.min2];simp[dO,rC]
 .cases h
theorem aac (hE:cS E P){t ty:TypeId}(h:af6 E t x s=some (v,s')):s'=s/\∀A ρ x' ts,VR A ρ x x'->ts[0]?=some t->∃v',(∀w,(Builtin.cap_ ts ty #[x']).run P w= .ok v' w)/\VR A ρ v v':=by
 obtain⟨d,hd,h1⟩:=aC h;clear h;split at h1
 .rename_i e a n c;obtain⟨hc,h2⟩:=bp h1;have ui:c<eH:=qF hc;have:=aG h2;simp only[cx] at this;obtain⟨rfl,rfl⟩:=this;refine⟨rfl,λA ρ x' ts hx hts=>⟨.int .i64 (.ofNat c),λw=>?_,VR.int _ _⟩⟩;have rN:∃a',x'= .slice a' n c:=by
   cases a with
   |none=>exact⟨none,hx.jf⟩
   |some a=>obtain⟨a',rN⟩:=hx.s7;exact⟨some a',by rw[rN,fw ui]⟩
  obtain⟨a',rfl⟩:=rN;simp[Builtin.cap_,hts,run_underlying (dX hE hd),goInt]
 .cases h1
theorem N8 (hE:cS E P){t ty:TypeId}{b:Nat}(h:B6 E s t b=some (v,s')):aF s s'/\∀X A ρ w x' ts,o8 P X A ρ s s' w->VR A ρ (.map (some b)) x'->ts[0]?=some t->cD P X A ρ s s' w v (Builtin.len_ ts ty #[x']):=by
 obtain⟨d,hd,h1⟩:=aC h;clear h;split at h1
 .obtain⟨o,ho,h2⟩:=aC h1;obtain⟨es,tg,h3⟩:=aC h2;have:=sg tg;subst this;have:=aG h3;simp only[cx] at this;obtain⟨rfl,rfl⟩:=this;refine⟨aF.aV s b,λX A ρ w x' ts hp hx hts=>?_⟩;obtain⟨hA,xo,Ff,xs,ck,rfl,sS,tZ⟩:=hp.st.lp b _ (hp.cO b (gv s b)) ho;have c8:xs.length=es.length:=by have:=sS.length;simp at this;omega
  refine cD.same hp (by simp) (by simp) (v':=.int .i64 (.ofNat es.length)) ?_ (by rw[dh];exact VR.int _ _);rw[hx.GF];have fJ:(getObj (ρ b).1).run P w= .ok (.map ⟨xs⟩ ck) w:=by
   simp[getObj,Sem.run,Ff]
  simp[Builtin.len_,hts,run_underlying (dX hE hd),fJ,goInt,c8]
 .cases h1
theorem BP {α:Type}(l:List α)(j:Nat):(⟨l⟩:Array α).eraseIdxIfInBounds j=⟨l.eraseIdx j⟩:=by
 unfold Array.eraseIdxIfInBounds;split
 .apply wg;simp
 .rename_i h;rw[List.eraseIdx_of_length_le (by simpa using h)]
theorem N9 (hE:cS E P){ts:List TypeId}(h:Qe E s ts x y=some (v,s')):aF s s'/\∀X A ρ w x' y' ty,o8 P X A ρ s s' w->VR A ρ x x'->VR A ρ y y'->cD P X A ρ s s' w v (Builtin.delete_ ⟨ts⟩ ty #[x',y']):=by
 obtain⟨t,ht,h0⟩:=aC h;obtain⟨d,hd,h1⟩:=aC h0;clear h h0;rw[dR] at ht;split at h1
 .rename_i kt e b;obtain⟨kd,Vq,h2⟩:=aC h1;obtain⟨KJ,h3⟩:=bp h2;obtain⟨o,ho,h5⟩:=aC h3;obtain⟨es,tg,h6⟩:=aC h5;obtain⟨wI,he2,h7⟩:=aC h6;have:=sg tg;subst this;have hu:=dX hE hd;have UE:=dX hE Vq;have:=aG h7;simp only[cx] at this;obtain⟨rfl,rfl⟩:=this;refine⟨aF.put s b _ (by rw[show s.heap.get b=some (.map es) from ho];simp),λX A ρ w x' y' ty hp hx hy=>?_⟩;obtain⟨hA,xo,Ff,xs,ck,rfl,sS,tZ⟩:=hp.st.lp b _ (hp.cO b (fe s b _)) ho;have yA:y'=y:=by rw[<-hy.self,qX KJ]
  subst yA;rw[hx.GF];have fJ:(getObj (ρ b).1).run P w= .ok (.map ⟨xs⟩ ck) w:=by
   simp[getObj,Sem.run,Ff]
  obtain⟨r,hr⟩:∃r,rY y' es=some r:=by
   have key:∀(l l2:List (Value×Value)),RQ y' l=some l2->∃r,rY y' l=some r:=by
    intro l;induction l with
    |nil=>intro _ _;exact⟨none,rfl⟩
    |cons p l ih=>
     intro l2 h;rw[vz] at h;obtain⟨b,hb,h9⟩:=aC h;rw[xh,hb];cases b with
     |true=>exact⟨some p.2,rfl⟩
     |false=>
      rw[eJ] at h9;obtain⟨r,hr,_⟩:=aC h9;exact ih _ hr
   exact key _ _ he2
  obtain⟨r',hfk,nG⟩:=te hE UE KJ hr sS tZ;have htt:(⟨ts⟩:Array TypeId)[0]?=some t:=by simpa using ht
  cases r with
  |none=>
   obtain⟨rfl,aaa⟩:=nG;have:wI=es:=j6 (he2.symm.trans aaa);subst this;obtain⟨dK,qY⟩:=Good.yE (x':=.map ⟨xs⟩ ck) hp ho Ff (by simp) ⟨xs,ck,rfl,sS,tZ⟩;refine⟨_,_,ρ,?_,VR.undef,qY⟩;unfold Builtin.delete_;simp[htt,run_underlying hu,fJ,run_checkKey hE _ UE KJ,hfk,dK]
  |some u=>
   obtain⟨j,v2,rfl,GH,adE,aaa,oJ⟩:=nG;have:wI=es.eraseIdx j:=j6 (he2.symm.trans aaa);subst this;obtain⟨dK,qY⟩:=Good.yE (x':=.map ⟨xs.eraseIdx j⟩ ck) hp ho Ff (by simp) (by
    refine⟨xs.eraseIdx j,ck,rfl,?_,?_⟩
    .rw[mB,mB];exact sS.Qs j
    .rw[mB,mB];exact tZ.Qs j)
   refine⟨_,_,ρ,?_,VR.undef,qY⟩;unfold Builtin.delete_;simp[htt,run_underlying hu,fJ,run_checkKey hE _ UE KJ,hfk,dK,BP]
 .cases h1
theorem Sa (hE:cS E P){t:TypeId}(h:Ij E s t x=some (v,s')):aF s s'/\∀X A ρ w x',o8 P X A ρ s s' w->VR A ρ x x'->cD P X A ρ s s' w v (Instr.range t x'):=by
 obtain⟨d,hd,h1⟩:=aC h;clear h;have hu:=dX hE hd;split at h1
 .rename_i z;have:=aG h1;simp only[cx] at this;obtain⟨rfl,rfl⟩:=this;refine⟨aF.jF s _,λX A ρ w x' hp hx=>?_⟩;refine⟨.pointer (some ⟨w.heap.size,0,none⟩),w.alloc (.stringIter ⟨⟨z⟩⟩ 0),ρ.at s.next (w.heap.size,0),?_,?_,?_⟩
  .rw[hx.uF];unfold Instr.range;simp only[Sem.run_bind,run_underlying hu,Result.andThen_ok,Sem.run_pure];rfl
  .have:=VR.ptr (A:=di A s.next (s.new (.lM z 0)).next) (ρ:=ρ.at s.next (w.heap.size,0)) (b:=s.next) (o:=0) (s:=none) (.inr ⟨cA _,by simp⟩);simpa using this
  .refine Good.alloc (o:=.lM z 0) (x:=.stringIter ⟨⟨z⟩⟩ 0) hp.st hp.eh hp.lt (λc=>by simp) (by simp) (j8 s _) (cA _) (heap_alloc_new w _) ?_ (Fr.alloc w _);rfl
 .rename_i kt e b;obtain⟨o,ho,h2⟩:=aC h1;obtain⟨es,tg,h3⟩:=aC h2;have:=sg tg;subst this;have:=aG h3;simp only[cx] at this;obtain⟨rfl,rfl⟩:=this;refine⟨(aF.aV s b).trans (aF.jF _ _),λX A ρ w x' hp hx=>?_⟩;have kQ:In ((s.aV b).new (.tW b)).cO b:=(aF.jF (s.aV b) (.tW b)).cO b (gv s b);obtain⟨hA,xo,Ff,xs,ck,rfl,sS,tZ⟩:=hp.st.lp b _ (hp.cO b kQ) ho;have fJ:(getObj (ρ b).1).run P w= .ok (.map ⟨xs⟩ ck) w:=by
   simp[getObj,Sem.run,Ff]
  have hbn:b≠s.next:=by have:=hp.lt b hA;omega
  refine⟨.pointer (some ⟨w.heap.size,0,none⟩),w.alloc (.mapIter (some (ρ b).1) ck #[] ck),ρ.at s.next (w.heap.size,0),?_,?_,?_⟩
  .rw[hx.GF];unfold Instr.range;simp only[Sem.run_bind,run_underlying hu,Result.andThen_ok,Sem.run_pure,fJ];rfl
  .have:=VR.ptr (A:=di A s.next ((s.aV b).new (.tW b)).next) (ρ:=ρ.at s.next (w.heap.size,0)) (b:=s.next) (o:=0) (s:=none) (.inr ⟨cA _,by simp⟩);simpa using this
  .refine Good.alloc (o:=.tW b) (x:=.mapIter (some (ρ b).1) ck #[] ck) hp.st hp.eh hp.lt (λc=>by simp) (by simp) (by have:=j8 (s.aV b) (.tW b);simpa using this) (cA _) (heap_alloc_new w _) ?_ (Fr.alloc w _);exact⟨hA,ck,ck,rfl⟩
 .cases h1
theorem IE (z:List UInt8)(p:Nat)(c:UInt8)(h:z[p]?=some c)(hc:c.toNat<128):Utf8.decode ⟨⟨z⟩⟩ p=(c.toNat,1):=by
 unfold Utf8.decode;have hp:p<z.length:=(ug.1 h).1;have h0:((⟨⟨z⟩⟩:ByteArray).get! (p+0)).toNat=c.toNat:=by
  have:(⟨⟨z⟩⟩:ByteArray).get! (p+0)=c:=by
   show(⟨z⟩:Array UInt8)[p+0]! =c;rw[wY];simp[getElem!_def,h]
  rw[this]
 simp only[h0];rw[if_pos ag]
theorem Vr (hE:cS E P){str:Bool}(h:Ks s x str=some (v,s')):aF s s'/\∀X A ρ w x' ty,o8 P X A ρ s s' w->VR A ρ x x'->cD P X A ρ s s' w v (Instr.next x' str ty):=by
 unfold Ks at h;split at h
 .rename_i b;obtain⟨o,ho,h1⟩:=aC h;clear h;have A9:s.heap.get b=some o:=ho;split at h1
  .rename_i z p;obtain⟨Vs,h2⟩:=bp h1;subst Vs;unfold Gn at h2;split at h2
   .rename_i hz;rw[dR] at hz;have:=aG h2;simp only[cx] at this;obtain⟨rfl,rfl⟩:=this;refine⟨aF.aV s b,λX A ρ w x' ty hp hx=>?_⟩;obtain⟨hA,xo,Ff,IF⟩:=hp.st.lp b _ (hp.cO b (gv s b)) ho;have IF:xo= .stringIter ⟨⟨z⟩⟩ p:=IF;subst IF;have fJ:(getObj (ρ b).1).run P w= .ok (.stringIter ⟨⟨z⟩⟩ p) w:=by
     simp[getObj,Sem.run,Ff]
    refine cD.same hp (by simp) (by simp) (v':=.tuple #[.bool false]) ?_ (VR.tuple (LR.cons (VR.bool _) LR.nil));rw[hx.nL];have iW:¬p<(⟨⟨z⟩⟩:ByteArray).size:=by
     have h3:(⟨⟨z⟩⟩:ByteArray).size=z.length:=rfl;have:=List.getElem?_eq_none_iff.1 hz;omega
    unfold Instr.next
    simp only[Sem.run_bind,fJ,Result.andThen_ok,if_neg iW,Sem.run_pure]
   .rename_i c hz;rw[dR] at hz;obtain⟨hc,h3⟩:=bp h2;have ui:c.toNat<128:=qF hc;have:=aG h3;simp only[cx] at this;obtain⟨rfl,rfl⟩:=this;refine⟨aF.put s b _ (by rw[A9];simp),λX A ρ w x' ty hp hx=>?_⟩;obtain⟨hA,xo,Ff,IF⟩:=hp.st.lp b _ (hp.cO b (fe s b _)) ho;have IF:xo= .stringIter ⟨⟨z⟩⟩ p:=IF;subst IF;have fJ:(getObj (ρ b).1).run P w= .ok (.stringIter ⟨⟨z⟩⟩ p) w:=by
     simp[getObj,Sem.run,Ff]
    obtain⟨dK,qY⟩:=Good.yE (x':=.stringIter ⟨⟨z⟩⟩ (p+1)) hp ho Ff (by simp) (show Ft P A ρ (ρ b) (.lM z (Nat.succ p)) _ from rfl);refine⟨.tuple #[.bool true,.int .i64 (.ofNat p),.int .i32 (.ofNat c.toNat)],_,ρ,?_,VR.tuple (LR.cons (VR.bool _) (LR.cons (VR.int _ _) (LR.cons (VR.int _ _) LR.nil))),qY⟩;rw[hx.nL];have iW:p<(⟨⟨z⟩⟩:ByteArray).size:=(ug.1 hz).1;unfold Instr.next
    simp only[Sem.run_bind,fJ,Result.andThen_ok,if_pos iW,IE z p c hz ui,dK,Sem.run_pure];rfl
  .rename_i m;obtain⟨Vs,h2⟩:=bp h1;have Vs:str=false:=by simpa using Vs
   subst Vs;obtain⟨o2,Oa,h3⟩:=aC h2;obtain⟨es,tg,h4⟩:=aC h3;have:=sg tg;subst this;split at h4
   .have:=aG h4;simp only[cx] at this;obtain⟨rfl,rfl⟩:=this;refine⟨(aF.aV s b).trans (aF.aV _ m),λX A ρ w x' ty hp hx=>?_⟩;have kQ:In ((s.aV b).aV m).cO b:=(aF.aV (s.aV b) m).cO b (gv s b);obtain⟨hA,xo,Ff,hAm,since,dm,rfl⟩:=hp.st.lp b _ (hp.cO b kQ) ho;obtain⟨hA2,xo2,IF,xs,ck,rfl,sS,tZ⟩:=hp.st.lp m _ (hp.cO m (gv (s.aV b) m)) Oa;have RW:xs=[]:=by
     have:=sS.length;cases xs with
     |nil=>rfl
     |cons a l=>simp at this
    subst RW;have fJ:(getObj (ρ b).1).run P w= .ok (.mapIter (some (ρ m).1) since #[] dm) w:=by
     simp[getObj,Sem.run,Ff]
    have agi:(getObj (ρ m).1).run P w= .ok (.map #[] ck) w:=by
     simp[getObj,Sem.run,IF]
    refine cD.same hp (by simp) (by simp) (v':=.tuple #[.bool false]) ?_ (VR.tuple (LR.cons (VR.bool _) LR.nil));rw[hx.nL];unfold Instr.next
    simp[fJ,agi,Question.forced]
   .cases h4
  .cases h1
 .cases h
end
section
variable {E:dA}{P:Program}{call:dJ}{X A:Nat->Prop}{ρ:fB}{s s':St}{w w':World}{v v' x y x' y':Value}{o:Oper}{ev:Operand->Value}
abbrev qa (P:Program)(X A:Nat->Prop)(ρ:fB)(s s':St)(w:World)(v v':Value)(w':World):Prop:=∃eI,VR (di A s.next s'.next) eI v v'/\Good P X A ρ s s' w w' eI
def lP (P:Program)(f:FuncId)(args:Array Value)(w:World)(R:Value->World->Prop):Prop:=
 (∃v w',(callFunc f args).run P w= .ok (.value v) w'/\R v w')\/(∃g as_ w',(callFunc f args).run P w= .ok (.enter g as_) w'/\Calls P g as_ w' λe w''=>∃v,e= .returned v/\R v w'')
def dP (P:Program)(call:dJ):Prop:=∀f args s v s',call f args s=some (v,s')->aF s s'/\∀X A ρ w gH,o8 P X A ρ s s' w->Gl A ρ->LR A ρ args gH->lP P f ⟨gH⟩ w λv' w'=>qa P X A ρ s s' w v v' w'
def agj (P:Program)(o:Oper)(ev:Operand->Value)(s s':St)(v:Value):Prop:=
 aF s s'/\∀X A ρ w (a:Act)(Q:Exit->Act->World->Prop),o8 P X A ρ s s' w->Gl A ρ->(∀x∈o.op.operands,VR A ρ (ev x) (a.eval x))->o.wp P a w (λa' w'=>∃v',a'=a.put o.dst v'/\qa P X A ρ s s' w v v' w') Q
theorem cT {a:Act}{Q:Exit->Act->World->Prop}{m:Sem Value}(he:execOp a.eval o=(do pure (.value (<-m))))(h:cD P X A ρ s s' w v m):o.wp P a w (λa' w'=>∃v',a'=a.put o.dst v'/\qa P X A ρ s s' w v v' w') Q:=by
 obtain⟨v',w',eI,h1,h2,h3⟩:=h;unfold Oper.wp;rw[he];simp only[Sem.run_bind,h1,Result.andThen_ok,Sem.run_pure,Oper.upon];exact⟨v',rfl,eI,h2,h3⟩
theorem Qt {a:Act}{Q:Exit->Act->World->Prop}{m:Sem Unit}(he:execOp a.eval o=(do m;pure .skip))(hv:v= .tuple ⟨[]⟩)(h:∃w' eI,m.run P w= .ok () w'/\Good P X A ρ s s' w w' eI):o.wp P a w (λa' w'=>∃v',a'=a.put o.dst v'/\qa P X A ρ s s' w v v' w') Q:=by
 obtain⟨w',eI,h1,h3⟩:=h;unfold Oper.wp;rw[he];simp only[Sem.run_bind,h1,Result.andThen_ok,Sem.run_pure,Oper.upon];exact⟨undef,rfl,eI,by rw[hv];exact VR.undef,h3⟩
theorem wp_pure {a:Act}{Q:Exit->Act->World->Prop}(he:(execOp a.eval o).run P w= .ok (.value v') w)(hp:o8 P X A ρ s s w)(hv:VR A ρ v v'):o.wp P a w (λa' w'=>∃v',a'=a.put o.dst v'/\qa P X A ρ s s w v v' w') Q:=by
 unfold Oper.wp;rw[he];exact⟨v',rfl,ρ,hv.mono (λi hi=>.inl hi) (λ_ _=>rfl),Good.refl hp.st hp.eh⟩
theorem VR.Qu {t:TypeId}{x:Value}(h:VR A ρ (.iface t x) v'):∃x',v'= .iface t x'/\VR A ρ x x':=by
 refine⟨bY ρ x,by rw[<-h.self];simp[bY],λeI e=>?_⟩;have h1:=h eI e;have h2:=h.self;rw[<-h2] at h1;simpa[bY] using h1
theorem VR.iface {t:TypeId}{x x':Value}(h:VR A ρ x x'):VR A ρ (.iface t x) (.iface t x'):=λeI e=>by
 have:=h eI e;simp[bY,this]
theorem IG {lo:Option Operand}{a:Act}(h:∀x,lo=some x->VR A ρ (ev x) (a.eval x)):NY A ρ (dB ev lo) (lo.map a.eval):=by
 cases lo with
 |none=>simp[dB,NY]
 |some x=>exact h x rfl
theorem Ch {l:List Operand}{a:Act}(h:∀x∈l,VR A ρ (ev x) (a.eval x)):LR A ρ (w9 ev l) (l.map a.eval):=by
 rw[qT];induction l with
 |nil=>exact LR.nil
 |cons x xs ih=>exact LR.cons (h x (by simp)) (ih λy hy=>h y (by simp[hy]))
theorem Sb (hC:dP P call){f:Value}{args:aQ}(h:xb call f args s=some (v,s')):aF s s'/\∀X A ρ w f' gH,o8 P X A ρ s s' w->Gl A ρ->VR A ρ f f'->LR A ρ args gH->
  ∃g first cap,f'= .func (.func g) ⟨first⟩ ⟨cap⟩/\lP P g ⟨first++(gH++cap)⟩ w λv' w'=>qa P X A ρ s s' w v v' w':=by
 unfold xb at h;split at h
 .rename_i g first cap
  obtain⟨h1,h2⟩:=hC _ _ _ _ _ h;refine⟨h1,λX A ρ w f' gH hp gL hf ha=>?_⟩;obtain⟨adF,CT,rfl,sS,tZ⟩:=hf.CS;exact⟨g,adF,CT,rfl,h2 X A ρ w _ hp gL (sS.append (ha.append tZ))⟩
 .cases h
theorem Sc (hE:cS E P)(hC:dP P call){c:Call}(h:NV E call ev s c=some (v,s'))(dst:Option Tmp)(type:TypeId)(pos:String)(after:Array Edge)(guard:Option (Nat×Bool)):agj P ⟨dst,.call c,type,pos,after,guard⟩ ev s s' v:=by
 obtain⟨callee,args,argTypes⟩:=c;unfold NV at h;cases callee with
 |invoke r m=>
  simp only at h;unfold B7 at h;split at h
  .rename_i t b hr;obtain⟨f,hf,h0⟩:=aC h;obtain⟨h1,h2⟩:=hC _ _ _ _ _ h0;refine⟨h1,λX A ρ w a Q hp gL hx=>?_⟩;have kH:∀x∈args.toList,VR A ρ (ev x) (a.eval x):=λx hxx=>hx x (by simp only[Op.operands,Call.operands,UX];exact .inr (by simpa using hxx))
   have hrv:=hx r (by simp[Op.operands,Call.operands]);rw[hr] at hrv;obtain⟨q,hq,hqv⟩:=hrv.Qu;have uu:∃b',q= .pointer (some b'):=by
    obtain⟨bb,bo,bs⟩:=b;exact⟨_,hqv.nL⟩
   obtain⟨b',rfl⟩:=uu;have wJ:=h2 X A ρ w _ hp gL (LR.cons hqv (Ch kH));have he:(execOp a.eval ⟨dst,.call ⟨.invoke r m,args,argTypes⟩,type,pos,after,guard⟩).run P w=(callFunc f ⟨.pointer (some b')::args.toList.map a.eval⟩).run P w:=by
    simp only[execOp,resolve,hq,Sem.run_bind,Sem.run_pure,Result.andThen_ok,invoke];have:((#[Value.iface t (.pointer (some b'))]++args.map a.eval)[0]?:Option Value)=some (.iface t (.pointer (some b'))):=by rw[ZL (by simp)];rfl
    simp only[this];rw[hE.agc t m f hf]
    congr 2
    apply wg;simp only[Array.toList_append,Array.toList_extract,List.size_toArray,cY,mJ,Array.size_append,Array.size_map,Array.toList_map];simp[List.extract];exact qG (by simp)
   unfold Oper.wp;rw[he];rcases wJ with⟨v',w',e1,e2⟩|⟨g',as_,w',e1,e2⟩
   .rw[e1];exact⟨v',rfl,e2⟩
   .rw[e1];simp only[Oper.upon];refine e2.mono λe w'' he=>?_
    obtain⟨v',rfl,hh⟩:=he;exact⟨v',rfl,hh⟩
  .cases h
 |value f=>
  simp only at h;obtain⟨h1,h2⟩:=Sb hC h;refine⟨h1,λX A ρ w a Q hp gL hx=>?_⟩;have kH:∀x∈args.toList,VR A ρ (ev x) (a.eval x):=λx hxx=>hx x (by simp only[Op.operands,Call.operands,UX];exact .inr (by simpa using hxx))
  obtain⟨g,first,cap,hf,wJ⟩:=h2 X A ρ w _ _ hp gL (hx f (by simp[Op.operands,Call.operands])) (Ch kH);have he:(execOp a.eval ⟨dst,.call ⟨.value f,args,argTypes⟩,type,pos,after,guard⟩).run P w=(callFunc g ⟨first++(args.toList.map a.eval++cap)⟩).run P w:=by
   simp only[execOp,resolve,hf,Deferred.ofValue,Sem.run_bind,Sem.run_pure,Result.andThen_ok,invoke]
   congr 2
   apply wg;simp
  unfold Oper.wp;rw[he];rcases wJ with⟨v',w',e1,e2⟩|⟨g',as_,w',e1,e2⟩
  .rw[e1];exact⟨v',rfl,e2⟩
  .rw[e1];simp only[Oper.upon];refine e2.mono λe w'' he=>?_
   obtain⟨v',rfl,hh⟩:=he;exact⟨v',rfl,hh⟩
 |builtin b=>
  simp only at h;have kH:∀(a:Act) A ρ,(∀x∈(Op.call ⟨.builtin b,args,argTypes⟩).operands,VR A ρ (ev x) (a.eval x))->∀x∈args.toList,VR A ρ (ev x) (a.eval x):=λa A ρ hx x hxx=>hx x (by simp only[Op.operands,Call.operands,UX];exact .inr (by simpa using hxx))
  obtain⟨args⟩:=args;obtain⟨argTypes⟩:=argTypes;simp only at h kH;unfold yp at h;split at h
  .rename_i x;unfold rZ at h;split at h
   .obtain⟨t,ht,h1⟩:=aC h;rw[dR] at ht;split at h1
    .rename_i b hb;obtain⟨h2,h3⟩:=N8 hE h1 (ty:=type);refine⟨h2,λX A ρ w a Q hp gL hx=>cT (m:=Builtin.len_ ⟨argTypes⟩ type #[a.eval x]) (by simp[execOp,resolve,invoke,builtin]) (h3 X A ρ w _ ⟨argTypes⟩ hp ?_ (by simpa using ht))⟩;have:=kH a A ρ hx x (by simp);rw[hb] at this;exact this
    .obtain⟨u,hu,h2⟩:=aC h1;have:=aG h2;simp only[cx] at this;obtain⟨rfl,rfl⟩:=this;refine⟨aF.refl _,λX A ρ w a Q hp gL hx=>?_⟩;obtain⟨v',h3,h4⟩:=Z4 hE hu (ty:=type) A ρ _ ⟨argTypes⟩ (kH a A ρ hx x (by simp)) (by simpa using ht);exact cT (m:=Builtin.len_ ⟨argTypes⟩ type #[a.eval x]) (by simp[execOp,resolve,invoke,builtin]) (cD.pure hp (h3 w) h4)
   .obtain⟨t,ht,h1⟩:=aC h;rw[dR] at ht;obtain⟨rfl,h3⟩:=aac hE h1 (ty:=type);refine⟨aF.refl _,λX A ρ w a Q hp gL hx=>?_⟩;obtain⟨v',h4,h5⟩:=h3 A ρ _ ⟨argTypes⟩ (kH a A ρ hx x (by simp)) (by simpa using ht);exact cT (m:=Builtin.cap_ ⟨argTypes⟩ type #[a.eval x]) (by simp[execOp,resolve,invoke,builtin]) (cD.pure hp (h4 w) h5)
   .obtain⟨h1,h2⟩:=FA (P:=P) h;exact⟨h1,λX A ρ w a Q hp gL hx=>cT (m:=Builtin.unsafeSliceData_ ⟨argTypes⟩ type #[a.eval x]) (by simp[execOp,resolve,invoke,builtin]) (h2 X A ρ w _ ⟨argTypes⟩ type hp (kH a A ρ hx x (by simp)))⟩
   .obtain⟨h1,h2⟩:=R5 hE h;exact⟨h1,λX A ρ w a Q hp gL hx=>cT (m:=Builtin.clear_ ⟨argTypes⟩ type #[a.eval x]) (by simp[execOp,resolve,invoke,builtin]) (h2 X A ρ w _ type hp (kH a A ρ hx x (by simp)))⟩
   .cases h
  .rename_i x y;unfold Kt at h;split at h
   .obtain⟨h1,h2⟩:=N4 hE h;exact⟨h1,λX A ρ w a Q hp gL hx=>cT (m:=Builtin.append_ ⟨argTypes⟩ type #[a.eval x,a.eval y]) (by simp[execOp,resolve,invoke,builtin]) (h2 X A ρ w _ _ type hp (kH a A ρ hx x (by simp)) (kH a A ρ hx y (by simp)))⟩
   .obtain⟨rfl,h2⟩:=Z5 (P:=P) h;refine⟨aF.refl _,λX A ρ w a Q hp gL hx=>?_⟩;obtain⟨v',h3,h4⟩:=h2 A ρ _ _ ⟨argTypes⟩ type (kH a A ρ hx x (by simp)) (kH a A ρ hx y (by simp));exact cT (m:=Builtin.max_ ⟨argTypes⟩ type #[a.eval x,a.eval y]) (by simp[execOp,resolve,invoke,builtin]) (cD.pure hp (h3 w) h4)
   .obtain⟨rfl,h2⟩:=aab (P:=P) h;refine⟨aF.refl _,λX A ρ w a Q hp gL hx=>?_⟩;obtain⟨v',h3,h4⟩:=h2 A ρ _ _ ⟨argTypes⟩ type (kH a A ρ hx x (by simp)) (kH a A ρ hx y (by simp));exact cT (m:=Builtin.min_ ⟨argTypes⟩ type #[a.eval x,a.eval y]) (by simp[execOp,resolve,invoke,builtin]) (cD.pure hp (h3 w) h4)
   .obtain⟨h1,h2⟩:=N9 hE h;exact⟨h1,λX A ρ w a Q hp gL hx=>cT (m:=Builtin.delete_ ⟨argTypes⟩ type #[a.eval x,a.eval y]) (by simp[execOp,resolve,invoke,builtin]) (h2 X A ρ w _ _ type hp (kH a A ρ hx x (by simp)) (kH a A ρ hx y (by simp)))⟩
   .obtain⟨h1,h2⟩:=Vk hE h;exact⟨h1,λX A ρ w a Q hp gL hx=>cT (m:=Builtin.copy_ ⟨argTypes⟩ type #[a.eval x,a.eval y]) (by simp[execOp,resolve,invoke,builtin]) (h2 X A ρ w _ _ type hp (kH a A ρ hx x (by simp)) (kH a A ρ hx y (by simp)))⟩
   .obtain⟨h1,h2⟩:=Aj hE h;exact⟨h1,λX A ρ w a Q hp gL hx=>cT (m:=Builtin.unsafeString_ ⟨argTypes⟩ type #[a.eval x,a.eval y]) (by simp[execOp,resolve,invoke,builtin]) (h2 X A ρ w _ _ type hp (kH a A ρ hx x (by simp)) (kH a A ρ hx y (by simp)))⟩
   .cases h
  .cases h
end
section
variable {E:dA}{P:Program}{call:dJ}{X A:Nat->Prop}{ρ:fB}{s s':St}{w w':World}{v v' x y x' y':Value}{o:Oper}{ev:Operand->Value}
theorem IH (hE:cS E P)(hC:dP P call)(h:Fb E call ev s o.op=some (v,s')):agj P o ev s s' v:=by
 obtain⟨dst,op,type,pos,after,guard⟩:=o;cases op<;>simp only[Fb,reduceCtorEq] at h
 case move x=>
  refine' zaQ
 case assign x=>
  refine' zaQ
 case pick c p q=>
  unfold Qf at h;split at h
  .rename_i b hc;cases b with
   |true=>
    have:=aG h;simp only[cx] at this;obtain⟨rfl,rfl⟩:=this;refine⟨aF.refl _,λX A ρ w a Q hp gL hx=>wp_pure ?_ hp (hx p (by simp[Op.operands]))⟩;have:=hx c (by simp[Op.operands]);rw[hc] at this;simp[execOp,this.sY,asBool]
   |false=>
    have:=aG h;simp only[cx] at this;obtain⟨rfl,rfl⟩:=this;refine⟨aF.refl _,λX A ρ w a Q hp gL hx=>wp_pure ?_ hp (hx q (by simp[Op.operands]))⟩;have:=hx c (by simp[Op.operands]);rw[hc] at this;simp[execOp,this.sY,asBool]
  .cases h
 case alloc t=>
  obtain⟨h1,h2⟩:=RU hE h;exact⟨h1,λX A ρ w a Q hp gL hx=>cT (m:=Instr.alloc t true (.tuple #[])) rfl (h2 X A ρ w hp)⟩
 case box t x=>
  obtain⟨h1,h2⟩:=Ql (P:=P) h;refine⟨h1,λX A ρ w a Q hp gL hx=>cT (m:=Instr.box t (a.eval x)) rfl ?_⟩;have:=h2 X A ρ w _ hp (by rw[gU];exact(hx x (by simp[Op.operands])).cells);exact this
 case build t ps=>
  obtain⟨rfl,h2⟩:=R0 hE h;refine⟨aF.refl _,λX A ρ w a Q hp gL hx=>?_⟩;obtain⟨v',h3,h4⟩:=h2 A ρ a.eval (λp hp=>hx p.2 (by simp only[Op.operands,List.mem_toArray,kO];exact⟨p,by simpa using hp,rfl⟩));refine cT (m:=Instr.build t (ps.map λx=>(x.1,a.eval x.2))) rfl (cD.pure hp ?_ h4);rw[<-h3 w];congr 2;apply wg;simp
 case buildSlice t n ps=>
  obtain⟨h1,h2⟩:=CV hE h;refine⟨h1,λX A ρ w a Q hp gL hx=>cT (m:=Instr.buildSlice t n (ps.map λx=>(x.1,a.eval x.2))) rfl ?_⟩;have:=h2 X A ρ w a.eval hp (λp hp=>hx p.2 (by simp only[Op.operands,List.mem_toArray,kO];exact⟨p,by simpa using hp,rfl⟩));rw[show(ps.map λx=>(x.1,a.eval x.2))=(ps.toList.map λx=>(x.1,a.eval x.2)).toArray by apply wg;simp];exact this
 case load t x=>
  obtain⟨h1,h2⟩:=Z0 hE h;exact⟨h1,λX A ρ w a Q hp gL hx=>cT (m:=Instr.loadAt t (a.eval x)) rfl (h2 X A ρ w _ hp (hx x (by simp[Op.operands])))⟩
 case store t x y=>
  obtain⟨h1,h2⟩:=Vc hE h;refine⟨h1,λX A ρ w a Q hp gL hx=>?_⟩;obtain⟨h3,h4⟩:=h2 X A ρ w _ _ hp (hx x (by simp[Op.operands])) (hx y (by simp[Op.operands]));exact Qt (m:=Instr.storeAt t (a.eval x) (a.eval y)) rfl h3 h4
 case makeInterface t x=>
  obtain⟨d,hd,h1⟩:=aC h;obtain⟨hc,h2⟩:=bp h1;have:=aG h2;simp only[cx] at this;obtain⟨rfl,rfl⟩:=this;refine⟨aF.refl _,λX A ρ w a Q hp gL hx=>?_⟩;refine cT (m:=Instr.makeInterface t (a.eval x)) rfl (cD.pure hp (v':=.iface t (a.eval x)) ?_ (VR.iface (hx x (by simp[Op.operands]))));unfold Instr.makeInterface;simp only[Sem.run_bind,run_underlying (dX hE hd),Result.andThen_ok];cases d<;>first|rfl|cases hc
 case nilCheck x=>
  unfold Gp at h;split at h
  .rename_i m t b c hev;obtain⟨f,hf,h0⟩:=aC h;have:=aG h0;simp only[cx] at this;obtain⟨rfl,rfl⟩:=this;refine⟨aF.refl _,λX A ρ w a Q hp gL hx=>?_⟩;have hv:=hx x (by simp[Op.operands]);rw[hev] at hv;refine wp_pure (v':=a.eval x) ?_ hp hv;obtain⟨p',q',he,pJ,_⟩:=hv.CS;obtain⟨y,r,rfl,hy,hr⟩:=pJ.jE;have:r=[]:=mT (by simpa using hr.length);subst this;obtain⟨y',rfl,yA⟩:=hy.Qu;obtain⟨bb,bo,bs⟩:=b;have uu:=yA.nL;subst uu;simp only[execOp,he];have h1:((⟨[Value.iface t (.pointer (some ⟨(ρ bb).1,bo,bs⟩))]⟩:Array Value)[0]?:Option Value)=some (.iface t (.pointer (some ⟨(ρ bb).1,bo,bs⟩))):=rfl;simp only[h1,Sem.run_bind];have h2:(program).run P w= .ok P w:=rfl;simp only[h2,Result.andThen_ok,hE.agd t m f hf];rfl
  rename_i x' fK;clear fK;obtain⟨rfl,rfl,h2⟩:=Z6 h;refine⟨aF.refl _,λX A ρ w a Q hp gL hx=>?_⟩;have hv:=hx x (by simp[Op.operands]);rcases h2 with⟨q,hq⟩|⟨f,p,q,hq⟩
  .obtain⟨b,off,sp⟩:=q;rw[hq] at hv⊢;refine wp_pure (v':=a.eval x) ?_ hp hv;simp only[execOp,hv.nL,Sem.run_pure]
  .obtain⟨p⟩:=p;obtain⟨q⟩:=q;rw[hq] at hv⊢;obtain⟨p',q',he,_,_⟩:=hv.CS;refine wp_pure (v':=a.eval x) ?_ hp hv;simp only[execOp,he,Sem.run_pure]
 case binOp op t x y yt=>
  obtain⟨u,hu,h1⟩:=aC h;have:=aG h1;simp only[cx] at this;obtain⟨rfl,rfl⟩:=this;refine⟨aF.refl _,λX A ρ w a Q hp gL hx=>?_⟩;obtain⟨v',h2,h3⟩:=Z3 hE hu (hx x (by simp[Op.operands])) (hx y (by simp[Op.operands])) w;exact cT (m:=do eqGuard op t x y (a.eval x) (a.eval y);binOp op t (a.eval x) (a.eval y)) rfl (cD.pure hp h2 h3)
 case unOp op t x=>
  obtain⟨rfl,h2⟩:=ady (P:=P) h;refine⟨aF.refl _,λX A ρ w a Q hp gL hx=>?_⟩;obtain⟨v',h3,h4⟩:=h2 A ρ _ (hx x (by simp[Op.operands]));exact cT (m:=Op.unary op (a.eval x)) rfl (cD.pure hp (h3 w) h4)
 case convert src d x=>
  obtain⟨h1,h2⟩:=Vm hE h;exact⟨h1,λX A ρ w a Q hp gL hx=>cT (m:=convert src d (a.eval x)) rfl (h2 X A ρ w _ hp (hx x (by simp[Op.operands])))⟩
 case makeFunc fn f c=>
  have:=aG h;simp only[cx] at this;obtain⟨rfl,rfl⟩:=this;refine⟨aF.refl _,λX A ρ w a Q hp gL hx=>?_⟩;refine wp_pure (v':=.func fn ⟨f.toList.map a.eval⟩ ⟨c.toList.map a.eval⟩) ?_ hp (VR.func (Ch λx hxx=>hx x ?_) (Ch λx hxx=>hx x ?_))
  .simp only[execOp,Instr.makeFunc,Sem.run_bind,Sem.run_pure,Result.andThen_ok]
   congr 3<;>(apply wg;simp)
  .simp only[Op.operands,UX];exact .inl (by simpa using hxx)
  .simp only[Op.operands,UX];exact .inr (by simpa using hxx)
 case makeMap t r=>
  cases r with
  |some r=>cases h
  |none=>
   have:=aG h;simp only[cx] at this;obtain⟨rfl,rfl⟩:=this;exact⟨aF.jF s _,λX A ρ w a Q hp gL hx=>cT (m:=Instr.makeMap t none) rfl (N6 t X A ρ w hp)⟩
 case makeSlice t l c=>
  obtain⟨h1,h2⟩:=Fz hE h;exact⟨h1,λX A ρ w a Q hp gL hx=>cT (m:=Instr.makeSlice t (a.eval l) (a.eval c)) rfl (h2 X A ρ w _ _ hp (hx l (by simp[Op.operands])) (hx c (by simp[Op.operands])))⟩
 case slice t x lo hi mx=>
  obtain⟨h1,h2⟩:=RZ hE h;exact⟨h1,λX A ρ w a Q hp gL hx=>cT (m:=Instr.sliceAt t (a.eval x) (lo.map a.eval) (hi.map a.eval) (mx.map a.eval)) rfl (h2 X A ρ w _ _ _ _ hp (hx x (by simp[Op.operands])) (IG λq hq=>hx q (by subst hq;simp[Op.operands])) (IG λq hq=>hx q (by subst hq;simp[Op.operands])) (IG λq hq=>hx q (by subst hq;simp[Op.operands])))⟩
 case fieldAddr t x i=>
  obtain⟨rfl,h2⟩:=Fx hE h;refine⟨aF.refl _,λX A ρ w a Q hp gL hx=>?_⟩;obtain⟨v',h3,h4⟩:=h2 A ρ _ (λ_ _ _=>trivial) (hx x (by simp[Op.operands]));exact cT (m:=Instr.fieldAt t (a.eval x) i) rfl (cD.pure hp (h3 w) h4)
 case field t x i=>
  obtain⟨rfl,h2⟩:=RY hE h;refine⟨aF.refl _,λX A ρ w a Q hp gL hx=>?_⟩;obtain⟨v',h3,h4⟩:=h2 A ρ _ (hx x (by simp[Op.operands]));exact cT (m:=Instr.field t (a.eval x) i) rfl (cD.pure hp (h3 w) h4)
 case indexAddr t x i=>
  obtain⟨rfl,h2⟩:=Fy hE h;refine⟨aF.refl _,λX A ρ w a Q hp gL hx=>?_⟩;obtain⟨v',h3,h4⟩:=h2 A ρ _ _ (hx x (by simp[Op.operands])) (hx i (by simp[Op.operands]));exact cT (m:=Instr.indexAt t (a.eval x) (a.eval i)) rfl (cD.pure hp (h3 w) h4)
 case index t x i=>
  obtain⟨rfl,h2⟩:=RX hE h;refine⟨aF.refl _,λX A ρ w a Q hp gL hx=>?_⟩;obtain⟨v',h3,h4⟩:=h2 A ρ _ _ (hx x (by simp[Op.operands])) (hx i (by simp[Op.operands]));exact cT (m:=Instr.index t (a.eval x) (a.eval i)) rfl (cD.pure hp (h3 w) h4)
 case lookup t m k ok=>
  obtain⟨h1,h2⟩:=N7 hE h;exact⟨h1,λX A ρ w a Q hp gL hx=>cT (m:=Instr.lookup t (a.eval m) (a.eval k) ok) rfl (h2 X A ρ w _ _ hp (hx m (by simp[Op.operands])) (hx k (by simp[Op.operands])))⟩
 case mapUpdate t m k u=>
  obtain⟨h1,h2,h3⟩:=FC hE h;exact⟨h1,λX A ρ w a Q hp gL hx=>Qt (m:=Instr.mapUpdate t (a.eval m) (a.eval k) (a.eval u)) rfl h2 (h3 X A ρ w _ _ _ hp (hx m (by simp[Op.operands])) (hx k (by simp[Op.operands])) (hx u (by simp[Op.operands])))⟩
 case extract x i=>
  obtain⟨rfl,h2⟩:=KB (P:=P) h;refine⟨aF.refl _,λX A ρ w a Q hp gL hx=>?_⟩;obtain⟨v',h3,h4⟩:=h2 A ρ _ (hx x (by simp[Op.operands]));exact cT (m:=Instr.extract (a.eval x) i) rfl (cD.pure hp (h3 w) h4)
 case range t x=>
  obtain⟨h1,h2⟩:=Sa hE h;exact⟨h1,λX A ρ w a Q hp gL hx=>cT (m:=Instr.range t (a.eval x)) rfl (h2 X A ρ w _ hp (hx x (by simp[Op.operands])))⟩
 case next x str=>
  obtain⟨h1,h2⟩:=Vr hE h;exact⟨h1,λX A ρ w a Q hp gL hx=>cT (m:=Instr.next (a.eval x) str type) rfl (h2 X A ρ w _ type hp (hx x (by simp[Op.operands])))⟩
 case call c=>exact Sc hE hC h dst type pos after guard
end
mutual
def l6:Value->Bool
 |.agg ⟨cs⟩=>ti cs
 |.tuple ⟨cs⟩=>ti cs
 |.func _ ⟨f⟩ ⟨c⟩=>ti f&&ti c
 |.iface _ v=>l6 v
 |.pointer (some _)=>false
 |.slice (some _) _ _=>false
 |.map (some _)=>false
 |_=>true
def ti:aQ->Bool
 |[]=>true
 |v::vs=>l6 v&&ti vs
end
mutual
theorem tj (ρ:fB):∀v,l6 v=true->bY ρ v=v
 |.agg ⟨cs⟩,h=>by rw[U9,qb ρ cs (by simpa[l6] using h)]
 |.tuple ⟨cs⟩,h=>by rw[NX,qb ρ cs (by simpa[l6] using h)]
 |.func fn ⟨f⟩ ⟨c⟩,h=>by
  simp only[l6,bU] at h;rw[RS,qb ρ f h.1,qb ρ c h.2]
 |.iface t v,h=>by
  have:=tj ρ v (by simpa[l6] using h);simp[bY,this]
 |.pointer none,_=>by simp
 |.pointer (some _),h=>by simp[l6] at h
 |.slice none _ _,_=>by simp
 |.slice (some _) _ _,h=>by simp[l6] at h
 |.map none,_=>by simp[bY]
 |.map (some _),h=>by simp[l6] at h
 |.bool _,_=>by simp
 |.int _ _,_=>by simp
 |.float _ _,_=>by simp[bY]
 |.complex _ _ _,_=>by simp[bY]
 |.string _,_=>by simp
 |.chan _,_=>by simp[bY]
 |.nilFunc,_=>by simp
 |.nilIface,_=>by simp
theorem qb (ρ:fB):∀l:aQ,ti l=true->l.map (bY ρ)=l
 |[],_=>rfl
 |v::vs,h=>by
  simp only[ti,bU] at h;rw[vp,tj ρ v h.1,qb ρ vs h.2]
end
def II (x:Operand):Bool:=match x with
 |.const v=>l6 v
 |.global g=>Nat.ble (Nat.succ g) 16
 |_=>true
def uN (N:Nat)(o:Oper):Bool:=(match o.dst with
 |some d=>Nat.ble (Nat.succ d) N
 |none=>true)&&o.op.operands.toList.all II
section
variable {E:dA}{P:Program}{call:dJ}{X A B:Nat->Prop}{ρ B8:fB}{s s':St}{w w':World}{v v' x y x' y':Value}{o:Oper}{ev:Operand->Value}{N:Nat}{tm jx:Tm}{a:Act}
theorem Gl.mono (h:Gl A ρ)(hA:∀i,A i->B i)(Ad:∀i,A i->B8 i=ρ i):Gl B B8:=λg hg=>⟨hA g (h g hg).1,by rw[Ad g (h g hg).1];exact(h g hg).2⟩
def NB (A:Nat->Prop)(ρ:fB)(N:Nat)(tm:Tm)(a:Act):Prop:=a.tmps.size=N/\∀t,VR A ρ (lV (tm.get t)) (a.tmps.getD t undef)
theorem NB.mono (h:NB A ρ N tm a)(hA:∀i,A i->B i)(Ad:∀i,A i->B8 i=ρ i):NB B B8 N tm a:=⟨h.1,λt=>(h.2 t).mono hA Ad⟩
noncomputable def Tm.gY (tm:Tm)(d:Option Tmp)(v:Value):Tm:=match d with
 |some d=>tm.set (Nat.succ d) d (some v)
 |none=>tm
theorem Tm.put_eq {β:Type}(tm:Tm)(d:Option Tmp)(v:Value)(k:Tm->β):tm.put d v k=k (tm.gY d v):=by
 cases d<;>simp[Tm.put,Tm.gY]
theorem KK (a:Act)(d t:Nat)(v:Value)(hd:d<a.tmps.size):(a.put (some d) v).tmps.getD t undef=if t=d then v else a.tmps.getD t undef:=by
 simp only[Act.put,P3,adq];by_cases h:d=t
 .subst h;simp[hd]
 .rw[if_neg h,if_neg (λe=>h e.symm)]
theorem NB.put {d:Option Tmp}{v v':Value}(h:NB A ρ N tm a)(hv:VR A ρ v v')(hd:∀t,d=some t->t<N):NB A ρ N (tm.gY d v) (a.put d v'):=by
 cases d with
 |none=>exact h
 |some d=>
  have hd:=hd d rfl;refine⟨by simp[Act.put,h.1],λt=>?_⟩;rw[KK a d t v' (by rw[h.1];exact hd)];unfold Tm.gY;simp only[T.vt];by_cases ht:t=d
  .simp only[ht,if_true];exact hv
  .simp only[ht,pg];exact h.2 t
theorem Ci {x:Operand}(ho:II x=true)(hg:Gl A ρ)(ht:∀t,x= .tmp t->VR A ρ (lV (tm.get t)) (a.tmps.getD t undef)):VR A ρ (aM tm x) (a.eval x):=by
 cases x with
 |tmp t=>exact ht t rfl
 |const v=>exact VR.ground λρ=>tj ρ v ho
 |global g=>
  have ZV:g<16:=qF ho;have:=VR.ptr (ρ:=ρ) (o:=0) (s:=none) (hg g ZV).1;rw[(hg g ZV).2] at this;exact this
 |func f=>exact VR.ground λρ=>by simp[aM]
theorem Sd (v:Option Value)(want:Bool):uC v want=true↔v=some (.bool want):=by
 unfold uC;split
 .rename_i b;rw[dO];cases b<;>cases want<;>simp
 .rename_i h;simp only[jQ,false_iff];rintro rfl;exact h want rfl
theorem IJ {b:Bool}(h:bY ρ v= .bool b):v= .bool b:=by
 cases v<;>try(simp[bY] at h;done)
 .simpa using h
 .rename_i a;cases a<;>simp[bY] at h
 .rename_i a l c;cases a with
  |none=>simp[bY] at h
  |some a=>
   obtain⟨a',e⟩:=sb ρ a l c;rw[e] at h;cases h
 .rename_i a;cases a<;>simp[bY] at h
theorem VR.Vt {b:Bool}(h:VR A ρ v v')(hv:v'= .bool b):v= .bool b:=IJ (ρ:=ρ) (by rw[h.self,hv])
theorem Ak {aB:List Oper}{o:Oper}(hs:a.tmps.size=N)(hN:∀p∈aB,∀d,p.dst=some d->d<N)
  (ht:∀j want,o.guard=some (j,want)->∀d,mr aB j=some d->VR A ρ (lV (tm.get d)) (a.tmps.getD d undef)):Region.wanted o (yielded ⟨aB⟩ a.tmps)=ie aB tm o.guard:=by
 unfold Region.wanted ie;cases hgd:o.guard with
 |none=>rfl
 |some p=>
  obtain⟨j,want⟩:=p;simp only;have aad:((⟨aB⟩:Array Oper)[j]?).bind (·.dst)=mr aB j:=by
   unfold mr;rw[dR];simp only[Kd];cases aB[j]?<;>rfl
  unfold yielded;rw[aad];cases hd:mr aB j with
  |none=>simp[uC]
  |some d=>
   have hv:=ht j want hgd d hd;have hdN:d<a.tmps.size:=by
    unfold mr at hd;obtain⟨p,hp,hd'⟩:=aC hd;rw[dR] at hp;rw[hs];exact hN p (Ke hp) d hd'
   have fJ:a.tmps[d]?=some (a.tmps.getD d undef):=by simp[hdN]
   simp only[AV,cr,fJ];generalize a.tmps.getD d undef=u at hv;rw[oZ,Sd];constructor
   .intro h;have hu:u= .bool want:=by
     split at h
     .rename_i b hb;simp at hb h;rw[hb,h]
     .simp at h
    have:=hv.Vt hu;cases hh:tm.get d with
    |none=>rw[hh] at this;cases this
    |some q=>rw[hh] at this;exact fI some this
   .intro h;rw[h] at hv;rw[hv.sY];simp
end
section
variable {E:dA}{P:Program}{call:dJ}{X A B:Nat->Prop}{ρ B8:fB}{s s':St}{w w':World}{v v' x y x' y':Value}{o:Oper}{ev:Operand->Value}{N:Nat}{tm jx:Tm}{a:Act}
theorem di.lt {n m:Nat}(hA:∀i,A i->i<n)(h:n<=m):∀i,di A n m i->i<m:=by
 rintro i (h1|h1)
 .have:=hA i h1;omega
 .exact h1.2
theorem di.self {n:Nat}{i:Nat}:di A n n i↔A i:=by
 constructor
 .rintro(h|h)
  .exact h
  .omega
 .exact .inl
theorem di.join {n m k:Nat}(h1:n<=m)(h2:m<=k){i:Nat}(h:di (di A n m) m k i):di A n k i:=by
 rcases h with(h|h)|h
 .exact .inl h
 .exact .inr ⟨h.1,ag⟩
 .exact .inr ⟨ag,h.2⟩
theorem nX {o:Oper}(h:uN N o=true):∀d,o.dst=some d->d<N:=by
 intro d hd;unfold uN at h;rw[hd] at h;simp only[bU] at h;exact qF h.1
theorem Bb {o:Oper}(h:uN N o=true):∀x∈o.op.operands,II x=true:=by
 unfold uN at h;simp only[bU,gQ] at h;intro x hx;exact h.2 x (by simpa using hx)
structure Left (P:Program)(X A:Nat->Prop)(ρ:fB)(N:Nat)(s s':St)(w:World)(a:Act)(jx:Tm)(a':Act)(w':World):Prop where
 defers:a'.defers=a.defers
 left:∃eI,NB (di A s.next s'.next) eI N jx a'/\Good P X A ρ s s' w w' eI
theorem Am (aB:List Oper)(o:Oper)(l:List Oper)(tm:Tm)(s:St):Ku E call aB (o::l) tm s=bo (ie aB tm o.guard) (ob (Fb E call (aM tm) s o.op) λp=>match p with
        |(v,s)=>tm.put o.dst v λtm=>Ku E call aB l tm s)
   (tm.put o.dst (.tuple ⟨[]⟩) λtm=>Ku E call aB l tm s):=rfl
theorem uO (a:Act)(d:Option Tmp)(v:Value):(a.put d v).defers=a.defers:=by cases d<;>rfl
theorem IK (hE:cS E P)(hC:dP P call)(aB:List Oper)(kH:∀o∈aB,uN N o=true):∀(l:List Oper)(k:Nat)(tm:Tm)(s:St){jx:Tm}{s':St},l=aB.drop k->Ku E call aB l tm s=some (jx,s')->
  aF s s'/\∀X A ρ w a Q,o8 P X A ρ s s' w->Gl A ρ->NB A ρ N tm a->(∀a' w',Left P X A ρ N s s' w a jx a' w'->Q Exit.normal a' w')->wpOps P ⟨aB⟩ Q (List.range' k l.length) a w
 |[],k,tm,s,jx,s',hl,h=>by
  have:=j6 h;simp only[cx] at this;obtain⟨rfl,rfl⟩:=this;refine⟨aF.refl s,λX A ρ w a Q hp hg ht hQ=>?_⟩;exact hQ a w ⟨rfl,ρ,ht.mono (λi hi=>.inl hi) (λ_ _=>rfl),Good.refl hp.st hp.eh⟩
 |o::l,k,tm,s,jx,s',hl,h=>by
  have hk:aB[k]?=some o:=by
   have:=fI (·[0]?) hl;simpa using this.symm
  have jG:l=aB.drop (k+1):=by
   have:=fI (List.drop 1) hl;simpa[mm,Nat.add_comm] using this
  have ho:o∈aB:=Ke hk;have Zw:=kH o ho;rw[Am] at h;have aad:=nX Zw;cases hw:ie aB tm o.guard with
  |true=>
   rw[hw,gu] at h;obtain⟨⟨v,s1⟩,h1,h2⟩:=aC h;simp only[Tm.put_eq] at h2;obtain⟨BN,mD⟩:=IH hE hC h1;obtain⟨Cb,Vu⟩:=IK hE hC aB kH l (k+1) _ _ jG h2;refine⟨BN.trans Cb,λX A ρ w a Q hp hg ht hQ=>?_⟩;rw[cY,wv];unfold wpOps;have hko:(⟨aB⟩:Array Oper)[k]?=some o:=by simpa using hk
   simp only[hko];rw[Ak (A:=A) (ρ:=ρ) (tm:=tm) ht.1 (λp hp d hd=>nX (kH p hp) d hd) (λj want _ d _=>ht.2 d),hw];simp only[if_true]
   left
   have Z9:o8 P X A ρ s s1 w:=⟨hp.lt,hp.eh,λb hb=>hp.cO b (Cb.cO b hb),hp.st⟩;refine Oper.wp_mono (λa1 w1 GI=>?_) (mD X A ρ w a Q Z9 hg λx hx=>Ci (Bb Zw x hx) hg λt _=>ht.2 t);obtain⟨v',rfl,BM,hv,qY⟩:=GI;have Vv:∀i,A i->BM i=ρ i:=λi hi=>qY.same i (by have:=hp.lt i hi;omega)
   have ht1:NB (di A s.next s1.next) BM N (tm.gY o.dst v) (a.put o.dst v'):=(ht.mono (λi hi=>.inl hi) Vv).put hv aad;refine Vu X (di A s.next s1.next) BM w1 _ Q ⟨di.lt hp.lt BN.next,qY.eh,hp.cO,qY.state⟩ (hg.mono (λi hi=>.inl hi) Vv) ht1 λa2 w2 GJ=>hQ a2 w2 ?_
   obtain⟨hd,B8,ht2,adG⟩:=GJ;refine⟨hd.trans (uO _ _ _),B8,ht2.mono (λi hi=>di.join BN.next Cb.next hi) (λ_ _=>rfl),Good.trans hp.cO BN Cb hp.lt qY adG⟩
  |false=>
   rw[hw,eJ] at h;simp only[Tm.put_eq] at h;obtain⟨Cb,Vu⟩:=IK hE hC aB kH l (k+1) _ _ jG h;refine⟨Cb,λX A ρ w a Q hp hg ht hQ=>?_⟩;rw[cY,wv];unfold wpOps;have hko:(⟨aB⟩:Array Oper)[k]?=some o:=by simpa using hk
   simp only[hko];rw[Ak (A:=A) (ρ:=ρ) (tm:=tm) ht.1 (λp hp d hd=>nX (kH p hp) d hd) (λj want _ d _=>ht.2 d),hw];simp only[jQ,pg];refine Vu X A ρ w _ Q hp hg (ht.put VR.undef aad) λa2 w2 GJ=>hQ a2 w2 ?_
   exact⟨GJ.1.trans (uO _ _ _),GJ.2⟩
end
def An (aB:Array Oper):Bool:=
 Region.noSelect aB&&(List.range aB.size).all λj=>match aB[j]? with
  |none=>true
  |some oj=>(match oj.guard with
    |none=>true
    |some (g,_)=>oj.after.any λe=>Region.binds .any e&&e.on== g)&&(oj.after.all λe=>!Region.binds .any e||decide (e.on<j))&&
   (List.range j).all λi=>match aB[i]? with
    |none=>true
    |some oi=>(oj.after.any λe=>Region.binds .any e&&e.on== i)||oi.apart aB oj
def gY (aB:Array Oper)(a0:Act)(has:Nat->Bool)(vals:Nat->Value):Nat->Act
 |0=>a0
 |k+1=>if has k then(gY aB a0 has vals k).put ((aB[k]?).bind (·.dst)) (vals k) else gY aB a0 has vals k
theorem Vw (a:Act)(d:Option Tmp)(v:Value):(a.put d v).tmps.size=a.tmps.size:=by cases d<;>simp[Act.put]
theorem oK (aB:Array Oper)(a0:Act)(has:Nat->Bool)(vals:Nat->Value)(k:Nat):(gY aB a0 has vals k).tmps.size=a0.tmps.size:=by
 induction k with
 |zero=>rfl
 |succ k ih=>unfold gY;split<;>simp[Vw,ih]
theorem GK (aB:Array Oper)(a0:Act){has has':Nat->Bool}{vals vals':Nat->Value}(k:Nat)(h:∀j,j<k->has j=has' j)(hv:∀j,j<k->has j=true->vals j=vals' j):gY aB a0 has vals k=gY aB a0 has' vals' k:=by
 induction k with
 |zero=>rfl
 |succ k ih=>
  unfold gY;rw[ih (λj hj=>h j ag) (λj hj=>hv j ag),<-h k ag];split
  .rename_i hk;rw[hv k ag hk]
  .rfl
theorem aae (aB:Array Oper)(a0:Act){has:Nat->Bool}{vals:Nat->Value}{i:Nat}(v:Value)(hi:has i=false)(n:Nat)(hn:i<n)
  (hd:∀j,i<j->j<n->has j=true->∀d,(aB[i]?).bind (·.dst)=some d->(aB[j]?).bind (·.dst)≠some d):
  gY aB a0 (λj=>if j=i then true else has j) (λj=>if j=i then v else vals j) n=(gY aB a0 has vals n).put ((aB[i]?).bind (·.dst)) v:=by
 induction n with
 |zero=>omega
 |succ n ih=>
  unfold gY;rcases lq i n with h|h
  .rw[ih h (λj h1 h2=>hd j h1 ag)];have fK:n≠i:=by omega
   simp only[fK,pg];split
   .rename_i hk;rw[Act.put_comm _ _ _ (hd n h ag hk)]
   .rfl
  .have:n=i:=by omega
   subst this;simp only[if_true,hi,jQ,pg];rw[GK aB a0 n (has':=has) (vals':=vals) (λj hj=>by
      have:j≠n:=by omega
      simp[this]) (λj hj _=>by
           have:j≠n:=by omega
           simp[this])]
theorem FD {a b:Act}(d:Option Tmp)(v:Value)(x:Operand)(hs:a.tmps.size=b.tmps.size)(h:a.eval x=b.eval x):(a.put d v).eval x=(b.put d v).eval x:=by
 cases d with
 |none=>exact h
 |some d=>
  cases x with
  |tmp t=>
   simp only[Act.eval,Act.put,P3,adq] at h⊢;by_cases qI:d=t
   .subst qI;simp only[if_true,hs]
   .simp only[if_neg qI];exact h
  |_=>rfl
theorem Vx (aB:Array Oper)(a0:Act){has:Nat->Bool}{vals:Nat->Value}(i:Nat)(x:Operand)(n:Nat)
  (h1:∀j,j<i->has j=false->∀d,(aB[j]?).bind (·.dst)=some d->x≠ .tmp d)
  (h2:∀j,i<=j->has j=true->∀d,(aB[j]?).bind (·.dst)=some d->x≠ .tmp d):
  (gY aB a0 has vals n).eval x=(gY aB a0 (λ_=>true) vals (min n i)).eval x:=by
 induction n with
 |zero=>simp[gY]
 |succ n ih=>
  rcases lq n i with h|h
  .rw[BL ag] at ih;rw[BL ag];unfold gY;simp only[if_true];by_cases hh:has n=true
   .rw[if_pos hh];exact FD _ _ _ (by rw[oK,oK]) ih
   .rw[if_neg hh,Act.eval_put (h1 n h (by simpa using hh))];exact ih
  .rw[Nat.min_eq_right ag] at ih;rw[Nat.min_eq_right ag]
   conv=>lhs;unfold gY
   by_cases hh:has n=true
   .rw[if_pos hh,Act.eval_put (h2 n h hh)];exact ih
   .rw[if_neg hh];exact ih
theorem yF {a b:Act}{d:Option Tmp}{v v':Value}(hs:a.tmps.size=b.tmps.size)(h:b.put d v=b.put d v'):a.put d v=a.put d v':=by
 cases d with
 |none=>rfl
 |some d=>
  simp only[Act.put] at h⊢;by_cases hd:d<b.tmps.size
  .have h3:=fI (λc=>c.tmps[d]?) h;simp[hd] at h3;rw[h3]
  .have e:∀u:Value,a.tmps.setIfInBounds d u=a.tmps:=λu=>Array.setIfInBounds_eq_of_size_le (by rw[hs];exact Nat.le_of_not_lt hd)
   rw[e,e]
theorem agk {P:Program}{o:Oper}{a b:Act}{u:World}{R:Value->World->Prop}{Q:Exit->Act->World->Prop}(hs:a.tmps.size=b.tmps.size)(he:execOp a.eval o=execOp b.eval o)
  (h:o.wp P b u (λb' w'=>∃v,b'=b.put o.dst v/\R v w') (λ_ _ _=>False)):o.wp P a u (λa' w'=>∃v,a'=a.put o.dst v/\R v w') Q:=by
 unfold Oper.wp at *
 rw[he];generalize(execOp b.eval o).run P u=r at *
 cases r with
 |ok n w'=>
  cases n with
  |value v=>obtain⟨v',h1,h2⟩:=h;exact⟨v',yF hs h1,h2⟩
  |skip=>obtain⟨v',h1,h2⟩:=h;exact⟨v',yF hs h1,h2⟩
  |defer d=>
   obtain⟨v',h1,_⟩:=h;have:=fI (λa=>a.defers.length) h1;cases hd:o.dst<;>simp[Act.put,hd] at this
  |enter f args=>
   refine Calls.mono h λe w'' he=>?_
   cases e with
   |returned v=>obtain⟨v',h1,h2⟩:=he;exact⟨v',yF hs h1,h2⟩
   |panicked c=>exact he.elim
   |outgrown=>obtain⟨_,_,hf⟩:=he;exact hf.elim
  |row f args=>exact Rows.mono h λv w'' ⟨v',h1,h2⟩=>⟨v',yF hs h1,h2⟩
  |_=>exact h.elim
 |halt x w'=>
  cases x with
  |panic v=>exact h.elim
  |_=>exact h.elim
theorem GL {α:Type}{p q:α->Bool}:∀{L:List α},(∀x,q x=true->p x=true)->(∃x∈L,p x=true/\q x=false)->L.countP q<L.countP p
 |[],_,⟨x,hx,_⟩=>by simp at hx
 |y::L,h,⟨x,hx,hp,hq⟩=>by
  have hle:L.countP q<=L.countP p:=List.countP_mono_left λx _=>h x
  simp only[iC];rcases bR.1 hx with rfl|hx
  .simp[hp,hq];omega
  .have:=GL (L:=L) h ⟨x,hx,hp,hq⟩;by_cases hy:q y=true
   .simp[hy,h y hy];omega
   .simp[hy];split<;>omega
theorem Bc {aB:Array Oper}(h:An aB=true):Region.noSelect aB=true/\∀j oj,aB[j]?=some oj->
  (∀e∈oj.after,Region.binds .any e=true->e.on<j)/\
  (∀i oi,i<j->aB[i]?=some oi->(∃e∈oj.after,Region.binds .any e=true/\e.on=i)\/oi.apart aB oj=true)/\
  (∀g b,oj.guard=some (g,b)->∃e∈oj.after,Region.binds .any e=true/\e.on=g):=by
 unfold An at h;rw[bU] at h;refine⟨h.1,λj oj hj=>?_⟩;have du:j<aB.size:=(yc.1 hj).1;have h2:=(gQ.1 h.2) j (lS.2 du);simp only[hj,bU] at h2;obtain⟨⟨hg,ha⟩,hw⟩:=h2;refine⟨λe he hb=>?_,λi oi mR hi=>?_,λg b hgb=>?_⟩
 .have:=Array.all_eq_true_iff_forall_mem.1 ha e he;simpa[hb] using this
 .have:=(gQ.1 hw) i (lS.2 mR);simp only[hi,mS] at this;rcases this with h|h
  .obtain⟨e,he,hb⟩:=Array.any_eq_true'.1 h;simp only[bU,zZ] at hb;exact .inl ⟨e,he,hb.1,hb.2⟩
  .exact .inr h
 .rw[hgb] at hg;obtain⟨e,he,hb⟩:=Array.any_eq_true'.1 hg;simp only[bU,zZ] at hb;exact⟨e,he,hb.1,hb.2⟩
theorem KL {a b:Array Value}{d:Nat}(hs:a.size=b.size)(h:a.getD d undef=b.getD d undef):a[d]?=b[d]?:=by
 rcases lq d a.size with h1|h1
 .have h2:d<b.size:=by omega
  rw[P4 h1,P4 h2];simpa[h1,h2] using h
 .rw[Array.getElem?_eq_none h1,Array.getElem?_eq_none ag]
def tk (aB:Array Oper)(L:Nat->Bool):Prop:=∀j oj,aB[j]?=some oj->L j=true->∀e∈oj.after,Region.binds .any e=true->L e.on=true
def gI {α:Type}(L:Nat->α)(i:Nat)(x:α):Nat->α:=λj=>if j=i then x else L j
section
variable {P:Program}{aB:Array Oper}{Q:Exit->Act->World->Prop}{a0:Act}
theorem Se (fF:An aB=true)(Inv:(Nat->Bool)->(Nat->Value)->World->Prop)
  (pk:∀(L:Nat->Bool)(vals:Nat->Value)(w:World)(i:Nat)(o:Oper),aB[i]?=some o->L i=false->(∀e∈o.after,Region.binds .any e=true->L e.on=true)->tk aB L->(∀j,L j=true->j<aB.size)->Inv L vals w->
    (Region.wanted o (yielded aB (gY aB a0 (λ_=>true) vals i).tmps)=true->o.wp P (gY aB a0 (λ_=>true) vals i) w (λa' w'=>∃v,a'=(gY aB a0 (λ_=>true) vals i).put o.dst v/\Inv (gI L i true) (gI vals i v) w') (λ_ _ _=>False))/\
    (Region.wanted o (yielded aB (gY aB a0 (λ_=>true) vals i).tmps)=false->Inv (gI L i true) (gI vals i undef) w))
  (adH:∀(L:Nat->Bool)(vals:Nat->Value)(w:World),(∀i,i<aB.size->L i=true)->Inv L vals w->Q .normal (gY aB a0 (λ_=>true) vals aB.size) w):
  ∀(fuel:Nat)(bZ:Array Bool)(vals:Nat->Value)(u:World),bZ.size=aB.size->tk aB (λi=>bZ.getD i false)->Inv (λi=>bZ.getD i false) vals u->
   (List.range aB.size).countP (λi=>!bZ.getD i false)<=fuel->
   wpAny P .any aB Q fuel bZ (gY aB a0 (λi=>bZ.getD i false) vals aB.size) u:=by
 obtain⟨uv,C2⟩:=Bc fF;have done:∀(bZ:Array Bool)(vals:Nat->Value)(u:World),Inv (λi=>bZ.getD i false) vals u->(∀i,i<aB.size->bZ.getD i false=true)->
                                     Q .normal (gY aB a0 (λi=>bZ.getD i false) vals aB.size) u:=λbZ vals u hI bS=>by
  rw[GK aB a0 (has':=λ_=>true) (vals':=vals) aB.size (λj hj=>bS j hj) (λ_ _ _=>rfl)];exact adH _ vals u bS hI
 have Ob:∀(bZ:Array Bool)(i:Nat),i<bZ.size->bZ.getD i true=bZ.getD i false:=λbZ i hi=>by simp[hi]
 have Iw:∀(bZ:Array Bool),bZ.size=aB.size->∀k,bZ.getD k false=true->k<aB.size:=λbZ hs k hk=>by
  rcases lq k bZ.size with h|h
  .omega
  .simp[Array.getElem?_eq_none h] at hk
 intro fuel;induction fuel with
 |zero=>
  intro bZ vals u iW uG hI hc;have bS:∀i,i<aB.size->bZ.getD i false=true:=λi hi=>by
   have h0:(List.range aB.size).countP (λi=>!bZ.getD i false)=0:=by omega
   have:=uz.1 h0 i (lS.2 hi);simpa using this
  refine⟨?_,done bZ vals u hI bS⟩;cases hr:Region.ready .any aB bZ with
  |nil=>rfl
  |cons x xs=>
   have hx:x∈Region.ready .any aB bZ:=by rw[hr];simp
   obtain⟨h0,o,ho,_⟩:=mem_ready.1 hx;have du:x<aB.size:=(yc.1 ho).1;have h1:=bS x du;rw[Ob bZ x ag] at h0;rw[h0] at h1;cases h1
 |succ fuel ih=>
  intro bZ vals u iW uG hI hc;refine⟨λhr=>done bZ vals u hI ?_,λi hi=>?_⟩
  .intro i;induction i using Nat.strongRecOn with
   |ind i ihi=>
    intro du;cases hl:bZ.getD i false with
    |true=>rfl
    |false=>
     have hm:i∈Region.ready .any aB bZ:=by
      rw[mem_ready];refine⟨by rw[Ob bZ i ag];exact hl,aB[i],P4 du,λe he Zx=>?_⟩;have h1:=(C2 i _ (P4 du)).1 e he Zx;exact ihi e.on h1 ag
     rw[hr] at hm;cases hm
  .obtain⟨h0,o,ho,uP⟩:=mem_ready.1 hi;have du:i<aB.size:=(yc.1 ho).1;have IL:bZ.getD i false=false:=by rw[<-Ob bZ i ag];exact h0
   obtain⟨ajy,agl,aj2⟩:=C2 i o ho;have jw:=pk (λi=>bZ.getD i false) vals u i o ho IL uP uG (Iw bZ iW) hI;have aj3:=Region.noSelect_spec uv;have KM:∀d,d∈o.looksAt aB->(gY aB a0 (λi=>bZ.getD i false) vals aB.size).eval (.tmp d)=(gY aB a0 (λ_=>true) vals i).eval (.tmp d):=λd0 hd0=>by
    have key:=Vx aB a0 (has:=λi=>bZ.getD i false) (vals:=vals) i (.tmp d0) aB.size ?_ ?_
    .rw[Nat.min_eq_right ag] at key;exact key
    .intro j hj hju d hd Iy;cases yG:aB[j]? with
     |none=>simp[yG] at hd
     |some oj=>
      simp only[yG,AV] at hd;rcases agl j oj hj yG with⟨e,he,Zx,UF⟩|J1
      .have:=uP e he Zx;rw[UF] at this;rw[this] at hju;cases hju
      .refine(Oper.apart_spec J1).1 d hd ?_;cases Iy
       exact hd0
    .intro j hj hju d hd Iy;have fK:j≠i:=λe=>by rw[e,IL] at hju;cases hju
     cases yG:aB[j]? with
     |none=>simp[yG] at hd
     |some oj=>
      simp only[yG,AV] at hd;rcases(C2 j oj yG).2.1 i o ag ho with⟨e,he,Zx,UF⟩|J1
      .have:bZ.getD e.on false=true:=uG j oj yG hju e he Zx;rw[UF,IL] at this;cases this
      .refine(Oper.apart_spec J1).2.2 d hd ?_;cases Iy
       exact hd0
   have he:execOp (gY aB a0 (λi=>bZ.getD i false) vals aB.size).eval o=execOp (gY aB a0 (λ_=>true) vals i).eval o:=by
    refine execOp_congr o (λcs b=>aj3 i o cs b ho) λx hx=>?_
    cases x with
    |tmp t=>exact KM t (cP _ (List.mem_filterMap.2 ⟨.tmp t,by simpa using hx,rfl⟩))
    |_=>rfl
   have Vy:Region.wanted o (yielded aB (gY aB a0 (λi=>bZ.getD i false) vals aB.size).tmps)=Region.wanted o (yielded aB (gY aB a0 (λ_=>true) vals i).tmps):=by
    unfold Region.wanted;cases hg:o.guard with
    |none=>rfl
    |some p=>
     obtain⟨g,b⟩:=p;simp only
     congr 1
     unfold yielded;cases hd:(aB[g]?).bind (·.dst) with
     |none=>rfl
     |some d=>
      have h1:=KM d (by
       unfold Oper.looksAt;refine dz _ ?_;rw[hg];simp only[hd];simp)
      simp only[AV];have aj4:(gY aB a0 (λi=>bZ.getD i false) vals aB.size).tmps.size=(gY aB a0 (λ_=>true) vals i).tmps.size:=by rw[oK,oK]
      have h2:(gY aB a0 (λi=>bZ.getD i false) vals aB.size).tmps[d]?=(gY aB a0 (λ_=>true) vals i).tmps[d]?:=by
       exact KL aj4 h1
      rw[h2]
   have fJ:∀j,(bZ.setIfInBounds i true).getD j false=if j=i then true else bZ.getD j false:=λj=>by
    by_cases wK:j=i
    .subst wK;simp[iW,du]
    .simp only[wK,pg];exact getD_set_ne false (Ne.symm wK)
   have adI:gI (λj=>bZ.getD j false) i true=λj=>(bZ.setIfInBounds i true).getD j false:=funext λj=>(fJ j).symm
   have aaf:∀v,gY aB a0 (λj=>(bZ.setIfInBounds i true).getD j false) (gI vals i v) aB.size=(gY aB a0 (λi=>bZ.getD i false) vals aB.size).put o.dst v:=λv=>by
    have hli:=aae aB a0 (has:=λi=>bZ.getD i false) (vals:=vals) (i:=i) v IL aB.size du (λj mR hjn Zv d hd=>by
     simp only[ho,AV] at hd;cases yG:aB[j]? with
     |none=>simp
     |some oj=>
      simp only[AV];rcases(C2 j oj yG).2.1 i o mR ho with⟨e,he,Zx,UF⟩|J1
      .have:bZ.getD e.on false=true:=uG j oj yG Zv e he Zx;rw[UF,IL] at this;cases this
      .exact(Oper.apart_spec J1).2.1 d hd)
    simp only[ho,AV] at hli;rw[<-hli,<-adI];rfl
   have agm:tk aB (λj=>(bZ.setIfInBounds i true).getD j false):=λj oj yG hj e he Zx=>by
    show(bZ.setIfInBounds i true).getD e.on false=true;rw[fJ];by_cases UF:e.on=i
    .simp[UF]
    .rw[if_neg UF];by_cases wK:j=i
     .subst wK;rw[ho] at yG;cases yG;exact uP e he Zx
     .have Sf:(bZ.setIfInBounds i true).getD j false=true:=hj;rw[fJ,if_neg wK] at Sf;exact uG j oj yG Sf e he Zx
   have IM:(List.range aB.size).countP (λj=>!(bZ.setIfInBounds i true).getD j false)<=fuel:=by
    have:=GL (p:=λi=>!bZ.getD i false) (q:=λj=>!(bZ.setIfInBounds i true).getD j false) (L:=List.range aB.size) (λx hx=>by
     rw[fJ] at hx;by_cases hxi:x=i
     .simp[hxi] at hx
     .simpa[hxi] using hx) ⟨i,lS.2 du,by simp only[IL];rfl,by simp only[fJ,if_true];rfl⟩
    omega
   unfold wpOp;simp only[ho];rw[Vy];by_cases hw:Region.wanted o (yielded aB (gY aB a0 (λ_=>true) vals i).tmps)=true
   .rw[if_pos hw];refine .inl ?_;refine Oper.wp_mono (λa' w' ⟨v,ha,hI'⟩=>?_) (agk (Q:=Q) (by rw[oK,oK]) he (jw.1 hw));subst ha;rw[<-aaf v];rw[adI] at hI';exact ih _ _ w' (by simpa using iW) agm hI' IM
   .rw[if_neg hw];rw[<-aaf undef];have hI':=jw.2 (by simpa using hw);rw[adI] at hI';exact ih _ _ u (by simpa using iW) agm hI' IM
theorem FE {id:Nat}{W:World}(hm:P.follows .mixedOrders=true)(fF:An aB=true)(Inv:(Nat->Bool)->(Nat->Value)->World->Prop)
  (pk:∀(L:Nat->Bool)(vals:Nat->Value)(w:World)(i:Nat)(o:Oper),aB[i]?=some o->L i=false->(∀e∈o.after,Region.binds .any e=true->L e.on=true)->tk aB L->(∀j,L j=true->j<aB.size)->Inv L vals w->
    (Region.wanted o (yielded aB (gY aB a0 (λ_=>true) vals i).tmps)=true->o.wp P (gY aB a0 (λ_=>true) vals i) w (λa' w'=>∃v,a'=(gY aB a0 (λ_=>true) vals i).put o.dst v/\Inv (gI L i true) (gI vals i v) w') (λ_ _ _=>False))/\
    (Region.wanted o (yielded aB (gY aB a0 (λ_=>true) vals i).tmps)=false->Inv (gI L i true) (gI vals i undef) w))
  (adH:∀(L:Nat->Bool)(vals:Nat->Value)(w:World),(∀i,i<aB.size->L i=true)->Inv L vals w->Q .normal (gY aB a0 (λ_=>true) vals aB.size) w)
  (h0:Inv (λ_=>false) (λ_=>undef) W.drew):(Code.region id aB true).wp P Q a0 W:=by
 refine wp_region_any hm ?_;have zS:∀i,(Array.replicate aB.size false).getD i false=false:=λi=>by by_cases h:i<aB.size<;>simp[h]
 have hf:(λi=>(Array.replicate aB.size false).getD i false)=λ_=>false:=funext zS
 have:=Se fF Inv pk adH aB.size (Array.replicate aB.size false) (λ_=>undef) W.drew (by simp) (by rw[hf];intro j oj _ h;cases h) (by rw[hf];exact h0) (by
  refine ik (F3) (by simp))
 have hlz:∀k,gY aB a0 (λi=>(Array.replicate aB.size false).getD i false) (λ_=>undef) k=a0:=λk=>by
  induction k with
  |zero=>rfl
  |succ k ih=>
   unfold gY;rw[if_neg (by rw[zS];decide),ih]
 rw[hlz] at this;exact this
end
section
variable {aB:List Oper}
theorem C3 (cO:Array Nat):∀(es:List Edge)(m:Nat)(i:Nat),(es.foldl (λs e=>if Region.binds .any e then s||| 2^ e.on||| cO.getD e.on 0 else s) m).testBit i=true->
  m.testBit i=true\/∃e∈es,Region.binds .any e=true/\(i=e.on\/(cO.getD e.on 0).testBit i=true)
 |[],m,i,h=>.inl h
 |e::es,m,i,h=>by
  rw[wi] at h;rcases C3 cO es _ i h with h1|⟨e',he,hb,h2⟩
  .split at h1
   .rename_i hb;simp only[Nat.testBit_or,mS] at h1;rcases h1 with(h1|h1)|h1
    .exact .inl h1
    .rw[Nat.testBit_two_pow] at h1;exact .inr ⟨e,by simp,hb,.inl (yg h1).symm⟩
    .exact .inr ⟨e,by simp,hb,.inr h1⟩
   .exact .inl h1
  .exact .inr ⟨e',by simp[he],hb,h2⟩
def anc (aB:List Oper)(j k:Nat):Prop:=∀L:Nat->Bool,tk ⟨aB⟩ L->(∀oj,aB[j]?=some oj->∀e∈oj.after,Region.binds .any e=true->L e.on=true)->L k=true
theorem Bd (du:∀j oj,aB[j]?=some oj->∀e∈oj.after,Region.binds .any e=true->e.on<j)(L:Nat->Bool)(hL:tk ⟨aB⟩ L):∀(l:List Oper)(cO:Array Nat),(∃pre,aB=pre++l/\pre.length=cO.size)->
  (∀j oj,j<cO.size->aB[j]?=some oj->(∀e∈oj.after,Region.binds .any e=true->L e.on=true)->∀i,(cO.getD j 0).testBit i=true->L i=true)->
  ∀j oj,aB[j]?=some oj->(∀e∈oj.after,Region.binds .any e=true->L e.on=true)->∀i,((l.foldl (λcO o=>cO.push (o.after.foldl (λs e=>if Region.binds .any e then s||| 2^ e.on||| cO.getD e.on 0 else s) 0)) cO).getD j 0).testBit i=true->L i=true
 |[],cO,⟨pre,h1,h2⟩,kQ,j,oj,hj,ha,i,hi=>by
  simp only[ix] at h1;subst h1;have Fu:j<cO.size:=by rw[<-h2];exact(ug.1 hj).1
  exact kQ j oj Fu hj ha i hi
 |o::l,cO,⟨pre,h1,h2⟩,kQ,j,oj,hj,ha,i,hi=>by
  rw[wi] at hi;refine Bd du L hL l _ ⟨pre++[o],by rw[h1];simp,by simp[h2]⟩ (λj' NC Zy adJ ha' i' fE=>?_) j oj hj ha i hi;have ho:aB[cO.size]?=some o:=by rw[h1,<-h2];simp
  rcases lq j' cO.size with Fu|ZW
  .have:(cO.push (o.after.foldl (λs e=>if Region.binds .any e then s||| 2^ e.on||| cO.getD e.on 0 else s) 0)).getD j' 0=cO.getD j' 0:=by
    simp[Array.getElem?_push,Nat.ne_of_lt Fu]
   rw[this] at fE;exact kQ j' NC Fu adJ ha' i' fE
  .have Sf:j'=cO.size:=by simp at Zy;omega
   subst Sf;rw[ho] at adJ;cases adJ;have:(cO.push (o.after.foldl (λs e=>if Region.binds .any e then s||| 2^ e.on||| cO.getD e.on 0 else s) 0)).getD cO.size 0=o.after.foldl (λs e=>if Region.binds .any e then s||| 2^ e.on||| cO.getD e.on 0 else s) 0:=by
    simp
   rw[this,<-Array.foldl_toList] at fE;rcases C3 cO _ _ _ fE with h3|⟨e,he,hb,h3⟩
   .simp at h3
   .have he':e∈o.after:=by simpa using he
    rcases h3 with rfl|h3
    .exact ha' e he' hb
    .have UF:=du _ _ ho e he' hb;have hoe:∃oe,aB[e.on]?=some oe:=by
      have:e.on<aB.length:=by rw[h1];simp;omega
      exact⟨aB[e.on],bd this⟩
     obtain⟨oe,hoe⟩:=hoe;exact kQ e.on oe UF hoe (λe2 he2 KN=>hL e.on oe (by simpa using hoe) (ha' e he' hb) e2 he2 KN) i' h3
theorem xi (du:∀j oj,aB[j]?=some oj->∀e∈oj.after,Region.binds .any e=true->e.on<j){j i:Nat}{oj:Oper}(hj:aB[j]?=some oj)(h:((Region.before ⟨aB⟩).getD j 0).testBit i=true):anc aB j i:=by
 intro L hL ha;refine Bd du L hL aB #[] ⟨[],rfl,rfl⟩ (λj oj h=>by simp at h) j oj hj (ha oj hj) i ?_;have:(Region.before ⟨aB⟩)=aB.foldl (λcO o=>cO.push (o.after.foldl (λs e=>if Region.binds .any e then s||| 2^ e.on||| cO.getD e.on 0 else s) 0)) #[]:=by
  unfold Region.before;rw[<-Array.foldl_toList]
 rw[this] at h;exact h
theorem GM {j k i:Nat}(hk:anc aB j k)(hi:anc aB k i):anc aB j i:=λL hL ha=>
 hi L hL λok fF e he hb=>hL k ok (by simpa using fF) (hk L hL ha) e he hb
theorem Oc {j:Nat}{oj:Oper}(hj:aB[j]?=some oj){e:Edge}(he:e∈oj.after)(hb:Region.binds .any e=true):anc aB j e.on:=λL _ ha=>ha oj hj e he hb
theorem Vz (du:∀j oj,aB[j]?=some oj->∀e∈oj.after,Region.binds .any e=true->e.on<j){j k:Nat}(h:anc aB j k):k<j:=by
 have:=h (λi=>decide (i<j)) (λi oi hoi hi e he hb=>by
  have h1:=du i oi (by simpa using hoi) e he hb;simp at hi⊢;omega) (λoj hj e he hb=>by simpa using du j oj hj e he hb)
 simpa using this
end
section
variable {E:dA}{P:Program}{call:dJ}
structure pn (E:dA)(call:dJ)(aB:List Oper)(j n:Nat)(TM:Nat->Tm)(S:Nat->St)(V:Nat->Value)(S':Nat->St):Prop where
 step:∀i o,j<=i->i<n->aB[i]?=some o->TM (i+1)=(TM i).gY o.dst (V i)/\S (i+1)=eF (S' i)/\
  ((ie aB (TM i) o.guard=true/\Fb E call (aM (TM i)) (S i) o.op=some (V i,S' i))\/(ie aB (TM i) o.guard=false/\V i= .tuple ⟨[]⟩/\S' i=S i))
 clear:∀i,j<=i->i<=n->(S i).cO=0/\(S i).wr=0
 apart:∀i k,j<=i->i<k->k<n->((Region.before ⟨aB⟩).getD k 0).testBit i=true\/((∀b,¬(In (S' i).wr b/\In (S' k).cO b))/\(∀b,¬(In (S' i).cO b/\In (S' k).wr b)))
theorem GN {a b:Nat}(h:Nat.beq (Nat.land a b) 0=true)(i:Nat):¬(In a i/\In b i):=by
 have h1:(a&&& b)=0:=o7 h;rintro⟨h2,h3⟩;have:(a&&& b).testBit i=true:=by rw[Nat.testBit_and,h2,h3];rfl
 rw[h1] at this;simp at this
theorem GO {b a r:Nat}:∀{l:List Seen},Ac b a r l=true->∀x∈l,b.testBit x.i=true\/((∀c,¬(In x.wr c/\In a c))/\(∀c,¬(In x.cO c/\In r c)))
 |[],_,x,hx=>by cases hx
 |y::l,h,x,hx=>by
  have h':bo (bo (Nat.beq (Nat.land y.wr a) 0) (Nat.beq (Nat.land y.cO r) 0) false||Nat.testBit b y.i) (Ac b a r l) false=true:=h;rw[dO] at h';split at h'
  .rename_i hc;rcases bR.1 hx with rfl|hx
   .rw[mS,dO] at hc;rcases hc with hc|hc
    .split at hc
     .rename_i h1;exact .inr ⟨GN h1,GN hc⟩
     .cases hc
    .exact .inl hc
   .exact GO h' x hx
  .cases h'
theorem xj (aB:List Oper)(o:Oper)(l:List Oper)(j:Nat)(tm:Tm)(s:St)(seen:List Seen):uE E call aB (o::l) j tm s seen=bo (ie aB tm o.guard) (ob (Fb E call (aM tm) (eF s) o.op) λp=>match p with
        |(v,s')=>uD aB j s s' seen λs seen=>tm.put o.dst v λtm=>uE E call aB l (Nat.succ j) tm s seen)
   (tm.put o.dst (.tuple ⟨[]⟩) λtm=>uE E call aB l (Nat.succ j) tm s seen):=rfl
theorem jI (s:St):eF s=⟨s.heap,s.next,0,0⟩:=by cases s;rfl
theorem qZ (b:Nat):¬In 0 b:=by simp[In]
def agn (E:dA)(call:dJ)(aB:List Oper)(j n:Nat)(tm:Tm)(s:St)(seen:List Seen)(jx:Tm)(s':St):Prop:=
    ∃TM S V S',pn E call aB j (n) TM S V S'/\TM j=tm/\S j=eF s/\TM (n)=jx/\S (n)=eF s'/\
     (∀i,j<=i->i<n->(∀b,In (S' i).cO b->In s'.cO b)/\(∀b,In (S' i).wr b->In s'.wr b))/\(∀b,In s.cO b->In s'.cO b)/\(∀b,In s.wr b->In s'.wr b)/\
     (∀b,In s'.cO b->In s.cO b\/∃i,j<=i/\i<n/\In (S' i).cO b)/\(∀b,In s'.wr b->In s.wr b\/∃i,j<=i/\i<n/\In (S' i).wr b)/\
     (∀i,j<=i->i<n->∀x∈seen,((Region.before ⟨aB⟩).getD i 0).testBit x.i=true\/((∀b,¬(In x.wr b/\In (S' i).cO b))/\(∀b,¬(In x.cO b/\In (S' i).wr b))))
theorem C4 (hE:cS E P)(hC:dP P call)(aB:List Oper):∀(l:List Oper)(j:Nat)(tm:Tm)(s:St)(seen:List Seen){jx:Tm}{s':St},l=aB.drop j->uE E call aB l j tm s seen=some (jx,s')->
  agn E call aB j (j+l.length) tm s seen jx s'
 |[],j,tm,s,seen,jx,s',hl,h=>by
  have:=j6 h;simp only[cx] at this;obtain⟨rfl,rfl⟩:=this;refine⟨λ_=>tm,λ_=>eF s,λ_=>undef,λ_=>eF s,⟨λi o h1 h2=>by simp at h2;omega,λi h1 h2=>by rw[jI];exact⟨rfl,rfl⟩,λi k h1 h2 h3=>by simp at h3;omega⟩,rfl,rfl,rfl,rfl,λi h1 h2=>by simp at h2;omega,λ_ h=>h,λ_ h=>h,λ_ h=>.inl h,λ_ h=>.inl h,λi h1 h2=>by simp at h2;omega⟩
 |o::l,j,tm,s,seen,jx,s',hl,h=>by
  have hk:aB[j]?=some o:=by
   have:=fI (·[0]?) hl;simpa using this.symm
  have jG:l=aB.drop (j+1):=by
   have:=fI (List.drop 1) hl;simpa[mm,Nat.add_comm] using this
  rw[xj] at h;have glue:∀(v:Value)(s1:St)(s2:St)(KP:List Seen),uE E call aB l (j+1) (tm.gY o.dst v) s2 KP=some (jx,s')->eF s2=eF s1->
                       ((ie aB tm o.guard=true/\Fb E call (aM tm) (eF s) o.op=some (v,s1))\/(ie aB tm o.guard=false/\v= .tuple ⟨[]⟩/\s1=eF s))->
                       (∀b,In s1.cO b->In s2.cO b)->(∀b,In s1.wr b->In s2.wr b)->(∀b,In s.cO b->In s2.cO b)->(∀b,In s.wr b->In s2.wr b)->(∀b,In s2.cO b->In s.cO b\/In s1.cO b)->(∀b,In s2.wr b->In s.wr b\/In s1.wr b)->
                       (∀x∈seen,x∈KP)->((∃x∈KP,x.i=j/\x.cO=s1.cO/\x.wr=s1.wr)\/((∀b,¬In s1.cO b)/\∀b,¬In s1.wr b))->
                       (∀x∈seen,((Region.before ⟨aB⟩).getD j 0).testBit x.i=true\/((∀b,¬(In x.wr b/\In s1.cO b))/\(∀b,¬(In x.cO b/\In s1.wr b))))->agn E call aB j (j+(o::l).length) tm s seen jx s':=by
   intro v s1 s2 KP hd hc pk ha1 ND ha2 R1 ha3 hw3 Qv C5 aj5;obtain⟨TM,S,V,S',dS,e1,e2,e3,e4,jg,hA,hW,hA2,hW2,hsn⟩:=C4 hE hC aB l (j+1) (tm.gY o.dst v) s2 KP jG hd;have c8:j+(o::l).length=j+1+l.length:=by simp;omega
   rw[c8];refine⟨λi=>if i=j then tm else TM i,λi=>if i=j then eF s else S i,λi=>if i=j then v else V i,λi=>if i=j then s1 else S' i,⟨λi oi h1 h2 hoi=>?_,λi h1 h2=>?_,λi k h1 h2 h3=>?_⟩,?_,?_,?_,?_,λi h1 h2=>?_,λb hb=>hA b (ha2 b hb),λb hb=>hW b (R1 b hb),λb hb=>?_,λb hb=>?_,λi h1 h2 x hx=>?_⟩
   .by_cases mR:i=j
    .subst mR;rw[hk] at hoi;cases hoi;simp only[if_true,show ¬i+1=i by omega,pg];refine⟨e1,?_,?_⟩
     .rw[e2];exact hc
     .exact pk
    .simp only[mR,pg,show ¬i+1=j by omega];exact dS.step i oi ag h2 hoi
   .by_cases mR:i=j
    .subst mR;rw[if_pos rfl,jI];exact⟨rfl,rfl⟩
    .simp only[mR,pg];exact dS.clear i ag h2
   .have Sg:¬k=j:=by omega
    simp only[Sg,pg];by_cases mR:i=j
    .subst mR;simp only[if_true];rcases C5 with⟨x,hx,hxi,hxa,hxw⟩|⟨q1,q2⟩
     .have:=hsn k ag h3 x hx;rw[hxi,hxa,hxw] at this;exact this
     .exact .inr ⟨λb hb=>q2 b hb.1,λb hb=>q1 b hb.1⟩
    .simp only[mR,pg];exact dS.apart i k ag h2 h3
   .simp
   .simp
   .simp only[show ¬j+1+l.length=j by omega,pg];exact e3
   .simp only[show ¬j+1+l.length=j by omega,pg];exact e4
   .by_cases mR:i=j
    .simp only[mR,if_true];exact⟨λb hb=>hA b (ha1 b hb),λb hb=>hW b (ND b hb)⟩
    .simp only[mR,pg];exact jg i ag h2
   .rcases hA2 b hb with h4|⟨i,h5,h6,h7⟩
    .rcases ha3 b h4 with h4|h4
     .exact .inl h4
     .exact .inr ⟨j,cA _,ag,by simpa using h4⟩
    .exact .inr ⟨i,ag,h6,by simpa[show ¬i=j by omega] using h7⟩
   .rcases hW2 b hb with h4|⟨i,h5,h6,h7⟩
    .rcases hw3 b h4 with h4|h4
     .exact .inl h4
     .exact .inr ⟨j,cA _,ag,by simpa using h4⟩
    .exact .inr ⟨i,ag,h6,by simpa[show ¬i=j by omega] using h7⟩
   .by_cases mR:i=j
    .subst mR;simp only[if_true];exact aj5 x hx
    .simp only[mR,pg];exact hsn i ag h2 x (Qv x hx)
  cases hw:ie aB tm o.guard with
  |true=>
   rw[hw,gu] at h;obtain⟨⟨v,s1⟩,h1,h2⟩:=aC h;obtain⟨BN,_⟩:=IH (o:=o) hE hC h1;have ago:∀b,In s1.wr b->In s1.cO b:=BN.sub (λb hb=>by rw[jI] at hb;exact absurd hb (qZ b));obtain⟨h0,n0,a0,r0⟩:=s;obtain⟨hh,nn,aa,rr⟩:=s1;simp only[uD,Tm.put_eq] at h2;cases hz:Nat.beq aa 0 with
   |true=>
    rw[hz,gu] at h2;have haa:aa=0:=o7 hz;subst haa;have R6:∀b,¬In rr b:=λb hb=>qZ b (ago b hb)
    exact glue v ⟨hh,nn,0,rr⟩ ⟨hh,nn,a0,r0⟩ seen h2 rfl (.inl ⟨hw,h1⟩) (λb hb=>absurd hb (qZ b)) (λb hb=>absurd hb (R6 b)) (λb hb=>hb) (λb hb=>hb) (λb hb=>.inl hb) (λb hb=>.inl hb) (λx hx=>hx) (.inr ⟨qZ,R6⟩) (λx hx=>.inr ⟨λb hb=>qZ b hb.2,λb hb=>R6 b hb.2⟩)
   |false=>
    rw[hz,eJ] at h2;obtain⟨h3,h4⟩:=Ip h2;simp only[Qi] at h4;refine glue v ⟨hh,nn,aa,rr⟩ ⟨hh,nn,a0||| aa,r0||| rr⟩ (⟨j,aa,rr⟩::seen) h4 rfl (.inl ⟨hw,h1⟩) (λb hb=>(rA _ _ _).2 (.inr hb)) (λb hb=>(rA _ _ _).2 (.inr hb)) (λb hb=>(rA _ _ _).2 (.inl hb)) (λb hb=>(rA _ _ _).2 (.inl hb)) (λb hb=>(rA _ _ _).1 hb) (λb hb=>(rA _ _ _).1 hb) (λx hx=>lu _ hx) (.inl ⟨⟨j,aa,rr⟩,by simp,rfl,rfl,rfl⟩) (GO h3)
  |false=>
   rw[hw,eJ] at h;simp only[Tm.put_eq] at h;have hca:∀b,¬In (eF s).cO b:=λb=>by rw[jI];exact qZ b
   have hcw:∀b,¬In (eF s).wr b:=λb=>by rw[jI];exact qZ b
   exact glue _ (eF s) s seen h (by simp[jI]) (.inr ⟨hw,rfl,rfl⟩) (λb hb=>absurd hb (hca b)) (λb hb=>absurd hb (hcw b)) (λb hb=>hb) (λb hb=>hb) (λb hb=>.inl hb) (λb hb=>.inl hb) (λx hx=>hx) (.inr ⟨hca,hcw⟩) (λx hx=>.inr ⟨λb hb=>hca b hb.2,λb hb=>hcw b hb.2⟩)
end
end Go.Ev
