/- A lemma text of the proof of the law (evaluator, its soundness, walks). No condition beyond those that each theorem states. -/
import GoSem.Step
import Derived.Control
import Derived.KernelRfl
import Derived.Lib.Builder
import Derived.Laws.CopyRow
import Derived.Laws.Rows
import Derived.Laws.Tables
import Derived.Lib.SmallJoins
import Derived.Great.FillDense
import Derived.Laws.MakeOwn
import Derived.Laws.BytesString
import Derived.Lib.UnsafeStr
import Derived.Orders
set_option maxRecDepth 100000
set_option maxHeartbeats 4000000
set_option linter.unusedVariables false
set_option linter.unusedSimpArgs false
namespace Go
theorem zaf{P:Prop}(h:P:=by
 have h1:Nat.mul (Nat.sub cap eL) sz=(cap-eL)*sz:=rfl;have h2:Nat.add o (Nat.mul len sz)=o+len*sz:=rfl;cases wd with
 |true=>
  obtain⟨r7,r8,r9,r10⟩:=r5 rfl;rw[nF hE iI] at r8 r9;refine T9 (c:=sz) ?_ r9;rw[mq,<-r8];omega
 |false=>
  have h3:sz=1:=oM hw;have h4:=(r6 rfl).2;rw[h3,zx] at h1 h2;rw[h3] at ho cX;simp only[Nat.mul_eq,zx] at ho cX h1 h2;omega
 all_goals(rcases(_:_) with h;exact h)):P:=h
theorem zaM{P:Prop}(h:P:=by
 obtain⟨h0,h⟩:=Ut h;rw[jv] at h0;simp only[rA] at h;subst h;have h1:b≠0:=by simpa using h0
 exact⟨by simp[binOp,Op.intDiv,jM,h1],λρ=>by simp⟩
 all_goals(rcases(_:_) with h;exact h)):P:=h
theorem zaN{P:Prop}(h:P:=by
 have:=aA h;simp only[cx] at this;obtain⟨rfl,rfl⟩:=this;exact⟨az.refl _,λX A ρ w a Q hp gK hx=>wp_pure rfl hp (hx x (by simp[Op.operands]))⟩
 all_goals(rcases(_:_) with h;exact h)):P:=h
theorem zaY{P:Prop}(h:P:=by
 obtain⟨x,xs,rfl,hu,UE,Rq,UF⟩:=LR.split h1 h2;rw[wF] at h;obtain⟨b,hb,h3⟩:=aw h;have hk:x.key=p.1:=by rw[<-hu.self,x5 hb]
 all_goals(rcases(_:_) with h;exact h)):P:=h
theorem za2{P:Prop}(h:P:=by
 induction n with
 |zero=>intro l;show l=l.drop 0;simp
 |succ n ih=>intro l;cases l with
  |nil=>rfl
  |cons x xs=>exact ih xs
 all_goals(rcases(_:_) with h;exact h)):P:=h
theorem za9{P:Prop}(h:P:=by
 refine⟨l.map (bZ ρ),by rw[<-h.self];simp,λeF e=>?_⟩;have:=(h eF e).trans h.self.symm;simpa using this
 all_goals(rcases(_:_) with h;exact h)):P:=h
theorem zba{P:Prop}(h:P:=by
 have gx:∀c o2,s.heap.get c=some o2->c≠s.next:=by
  rintro c o2 h rfl;rw[lT _ (cy _)] at h;cases h
 all_goals(rcases(_:_) with h;exact h)):P:=h
end Go
namespace Go
abbrev aH:=Option Addr
abbrev aQ:=List Value
theorem af {P:Prop}(h:P:=by omega):P:=h
theorem cU {P:Prop}(h:P:=by kernel_rfl):P:=h
abbrev BY:=@Nat.beq_eq
abbrev T8:=@Nat.pow_succ
abbrev oV:=@if_false
abbrev gb:=@congrArg
abbrev ir:=@Option.some.inj
abbrev x_5:=@List.take_succ_cons
abbrev xB:=@List.cons_append
abbrev vL:=@List.length_map
abbrev xC:=@List.map_cons
abbrev Jw:=@List.map_append
abbrev EI:=@List.map_congr_left
abbrev n9:=@List.mem_map
abbrev cy:=@Nat.le_refl
abbrev mC:=@Bool.or_eq_true
abbrev cv:=@Bool.and_eq_true
abbrev cl:=@decide_eq_true_eq
abbrev vC:=@Nat.eq_zero_or_pos
abbrev ku:=@Nat.le_trans
abbrev kU:=@Nat.lt_or_ge
abbrev A9:=@Nat.lt_of_lt_of_le
abbrev xD:=@Array.getElem?_eq_some_iff
abbrev Jx:=@Option.ne_none_iff_exists'
abbrev Jy:=@List.getElem?_take
abbrev iH:=@List.append_nil
abbrev mD:=@List.length_nil
abbrev wo:=@Nat.add_zero
abbrev zq:=@List.take_append_drop
abbrev zr:=@Bool.and_eq_false_iff
abbrev lD:=@decide_eq_false_iff_not
abbrev dh:=@List.length_cons
abbrev bR:=@List.length_append
abbrev jG:=@Nat.zero_le
abbrev qq:=@Nat.le_of_ble_eq_true
abbrev rA:=@Option.some.injEq
abbrev cx:=@Prod.mk.injEq
abbrev gp:=@List.length_drop
abbrev zt:=@List.drop_eq_nil_of_le
abbrev oa:=@List.nil_append
abbrev Q3:=@List.drop_append_of_le_length
abbrev BZ:=@List.take_append_of_le_length
abbrev zu:=@List.getElem?_append_right
abbrev wq:=@List.getElem?_append_left
abbrev tL:=@List.getElem?_eq_some_iff
abbrev jH:=@Bool.false_eq_true
abbrev oL:=@Bool.eq_iff_iff
abbrev Q4:=@Nat.succ_le_iff
abbrev oc:=@Nat.ble_eq
abbrev zv:=@beq_iff_eq
abbrev wu:=@UInt8.toNat_inj
abbrev Q5:=@UInt8.lt_iff_toNat_lt
abbrev YQ:=@BitVec.ofInt_natCast
abbrev YR:=@BitVec.toNat_ofNat
abbrev HL:=@Nat.mod_eq_of_lt
abbrev Jz:=@true_and
abbrev zw:=@and_true
abbrev jr:=@List.mem_cons_self
abbrev lE:=@List.mem_cons_of_mem
abbrev HM:=@Bool.not_true
abbrev HN:=@Bool.not_false
abbrev oM:=@Nat.eq_of_beq_eq_true
abbrev JA:=@Int.natCast_nonneg
abbrev vD:=@Array.ext'
abbrev gR:=@Nat.ble_eq_true_of_le
abbrev B0:=@Nat.sub_self
abbrev vE:=@Option.map_some
abbrev HO:=@Nat.zero_mul
abbrev T9:=@Nat.le_of_mul_le_mul_right
abbrev mq:=@Nat.add_mul
abbrev zx:=@Nat.mul_one
abbrev vF:=@List.foldl_cons
abbrev Ua:=@List.ext_getElem?
abbrev EJ:=@List.getElem?_map
abbrev Ub:=@List.getElem?_range
abbrev Q6:=@Nat.mod_lt
abbrev rB:=@List.getElem?_eq_none
abbrev EK:=@List.mapM_cons
abbrev Uc:=@Nat.le_mul_of_pos_right
abbrev tX:=@Int.toNat_natCast
abbrev B1:=@List.drop_zero
abbrev JB:=@Nat.mul_le_mul_right
abbrev M5:=@List.take_take
abbrev Ba:=@Nat.min_eq_left
abbrev JC:=@List.getElem?_toArray
abbrev YS:=@List.getElem?_cons_zero
abbrev YT:=@List.getElem?_cons_succ
abbrev ni:=@Nat.zero_add
abbrev kA:=@List.append_assoc
abbrev dg:=@List.length_take
abbrev mG:=@List.eq_nil_of_length_eq_zero
abbrev q9:=@List.take_of_length_le
abbrev M6:=@List.mem_of_mem_take
abbrev fJ:=@List.mem_append
abbrev M7:=@Array.getElem?_modify
abbrev pG:=@Bool.not_eq_true'
abbrev rC:=@List.length_replicate
abbrev xE:=@Bool.true_and
abbrev x_96:=@Array.getElem?_setIfInBounds
abbrev pH:=@Option.getD_some
abbrev Ud:=@Array.mem_append
abbrev YU:=@Array.getElem?_append_left
abbrev Pm:=@Array.getD_eq_getD_getElem?
abbrev JD:=@List.mem_of_getElem?
abbrev An:=@Option.bind_some
abbrev iM:=@List.all_eq_true
abbrev lZ:=@List.drop_drop
abbrev rD:=@List.range'_succ
abbrev jI:=@List.countP_cons
abbrev bV:=@List.mem_cons
abbrev mH:=@List.mem_range
abbrev Pn:=@Array.getElem?_eq_getElem
abbrev Ao:=@List.countP_eq_zero
abbrev di:=@List.mem_append_left
abbrev dH:=@List.mem_append_right
abbrev Ft:=@List.countP_le_length
abbrev vM:=@of_decide_eq_true
abbrev bk:=@List.getElem?_eq_getElem
abbrev rE:=@Nat.le_of_lt
abbrev JE:=@Nat.lt_trichotomy
abbrev l3:=@List.flatMap_cons
abbrev np:=@List.sublist_append_right
abbrev JF:=@List.Sublist.append
abbrev Fu:=@List.Sublist.refl
abbrev aY:=@List.getD_eq_getElem?_getD
abbrev qB:=@List.nodup_append
abbrev oW:=@List.mem_flatMap
abbrev tw:=@List.singleton_append
abbrev vN:=@List.nodup_cons
abbrev B2:=@List.take_append
abbrev xF:=@List.getElem?_drop
abbrev lz:=@Nat.beq_refl
abbrev JG:=@Bool.and_true
abbrev Fv:=@Bool.and_self
abbrev jJ:=@Bool.not_eq_true
abbrev B3:=@List.flatMap_append
abbrev iN:=@List.mem_singleton
abbrev xG:=@Int.toNat_of_nonneg
abbrev dO:=@decide_eq_true
abbrev iO:=@decide_eq_false
abbrev iC:=@List.not_mem_nil
abbrev qC:=@List.flatMap_nil
abbrev vO:=@false_or
abbrev iP:=@or_false
abbrev JH:=@not_false_eq_true
abbrev B4:=@List.nodup_nil
abbrev B5:=@Bool.not_eq_false'
abbrev B6:=@Bool.or_eq_false_iff
abbrev Fw:=@Bool.not_eq_eq_eq_not
abbrev vP:=@Bool.not_eq_false
abbrev gS:=@List.take_length
abbrev vQ:=@List.take_add_one
abbrev xH:=@List.drop_eq_getElem_cons
abbrev Ue:=@Int.tdiv_eq_ediv_of_nonneg
abbrev Fx:=@List.all_append
abbrev Fy:=@List.all_eq_false
abbrev ig:=@List.drop_length
abbrev xI:=@Int.eq_ofNat_of_zero_le
abbrev Fz:=@Bool.or_eq_true_iff
abbrev FA:=@List.map_nil
abbrev FB:=@List.any_eq_true
abbrev nq:=@List.findIdx?_eq_some_iff_getElem
abbrev Ap:=@List.findIdx?_eq_none_iff
abbrev l5:=@List.getElem_of_mem
abbrev oX:=@List.length_pos_iff
abbrev xJ:=@Int.le_refl
abbrev tz:=@List.filter_cons
abbrev vR:=@List.mem_filter
abbrev Po:=@List.getElem_replicate
abbrev kB:=@Option.isSome_iff_exists
abbrev pI:=@List.filter_append
abbrev oY:=@List.Perm.append_left
abbrev od:=@List.perm_append_comm_assoc
abbrev Uf:=@List.replicate_append_replicate
abbrev B7:=@List.filter_eq_self
abbrev FC:=@List.filter_sublist
abbrev Ug:=@List.getElem?_take_of_lt
abbrev tA:=@List.getElem_mem
abbrev gZ:=@List.length_set
abbrev Pp:=@List.mem_or_eq_of_mem_set
abbrev B8:=@List.Perm.append_right
abbrev FD:=@Nat.mul_comm
abbrev FE:=@Nat.lt_irrefl
abbrev jK:=@List.pairwise_cons
abbrev Aq:=@List.getD_cons_succ
abbrev Ar:=@List.pairwise_iff_getElem
abbrev FF:=@decide_eq_decide
abbrev As:=@List.range_succ
abbrev FG:=@List.countP_append
abbrev oZ:=@Classical.byContradiction
abbrev Pq:=@List.mem_erase_of_ne
abbrev JI:=@List.length_pos_of_mem
abbrev Pr:=@List.length_erase_of_mem
abbrev FH:=@List.nodup_iff_pairwise_ne
abbrev FI:=@List.pairwise_map
abbrev Ps:=@List.countP_congr
abbrev jL:=@Bool.false_ne_true
abbrev Pt:=@List.pairwise_singleton
abbrev Pu:=@List.Pairwise.nil
abbrev JJ:=@List.countP_nil
abbrev JK:=@Bool.false_and
abbrev B9:=@List.length_filter_le
abbrev Au:=@List.length_singleton
abbrev Pv:=@List.length_reverse
abbrev JL:=@List.getD_cons_zero
abbrev Pw:=@List.findIdx?_cons
abbrev JM:=@List.sum_append
abbrev Ca:=@List.sum_cons
abbrev JN:=@List.countP_pos_iff
abbrev Uh:=@List.getElem?_replicate
abbrev JO:=@Nat.lt_succ_iff_lt_or_eq
abbrev JP:=@List.length_range
abbrev xK:=@List.forIn_cons
abbrev Av:=@getElem!_pos
end Go
namespace Go.Ev
open Go
inductive T (α:Type) where
 |nil
 |node (v:Option α) (l r:T α)
noncomputable section
def bo {α:Type}(b:Bool)(x y:α):α:=Bool.rec y x b
def ob {α β:Type}(o:Option α)(k:α->Option β):Option β:=Option.rec none k o
def eb {β:Type}(b:Bool)(k:Option β):Option β:=Bool.rec none k b
def T.get {α:Type}(t:T α):Nat->Option α:=
 T.rec (λ_=>none) (λv _ _ gl gr n=>bo (Nat.beq n (nat_lit 0)) v (bo (Nat.beq (Nat.mod n (nat_lit 2)) (nat_lit 1)) (gl (Nat.div n (nat_lit 2))) (gr (Nat.pred (Nat.div n (nat_lit 2)))))) t
def T.now {α β:Type}(t:T α)(k:T α->β):β:=T.rec (k .nil) (λv l r _ _=>k (.node v l r)) t
def T.set1 {α:Type}(ih:T α->Nat->T α)(v:Option α)(l r:T α)(n:Nat)(x:Option α):T α:=
 bo (Nat.beq n (nat_lit 0)) (.node x l r) (bo (Nat.beq (Nat.mod n (nat_lit 2)) (nat_lit 1)) ((ih l (Nat.div n (nat_lit 2))).now λl=>.node v l r) ((ih r (Nat.pred (Nat.div n (nat_lit 2)))).now λr=>.node v l r))
def T.set {α:Type}(d:Nat)(t:T α)(n:Nat)(x:Option α):T α:=
 Nat.rec (λt _=>t) (λ_ ih t n=>T.rec (T.set1 ih none .nil .nil n x) (λv l r _ _=>T.set1 ih v l r n x) t) d t n
def wv {β:Type}(n:Nat)(k:Nat->β):β:=Nat.rec (k (nat_lit 0)) (λm _=>k (Nat.succ m)) n
def nowI {β:Type}(n:Int)(k:Int->β):β:=Int.rec (λm=>wv m λm=>k (.ofNat m)) (λm=>wv m λm=>k (.negSucc m)) n
def nowB {β:Type}(b:Bool)(k:Bool->β):β:=Bool.rec (k false) (k true) b
def YV {β:Type}(a:aH)(k:aH->β):β:=match a with
 |none=>k none
 |some ⟨b,o,s⟩=>wv b λb=>wv o λo=>k (some ⟨b,o,s⟩)
def nowS {β:Type}(a:aH)(l c:Nat)(k:Value->β):β:=YV a λa=>wv l λl=>wv c λc=>k (.slice a l c)
def Ui {β:Type}(v:Value)(k:Value->β):β:=match v with
 |.bool b=>nowB b λb=>k (.bool b)
 |.int j n=>nowI n λn=>k (.int j n)
 |.pointer a=>YV a λa=>k (.pointer a)
 |.slice a l c=>nowS a l c k
 |.agg ⟨cs⟩=>k (.agg ⟨cs⟩)
 |.tuple ⟨cs⟩=>k (.tuple ⟨cs⟩)
 |.string ⟨⟨cs⟩⟩=>k (.string ⟨⟨cs⟩⟩)
 |v=>k v
inductive gh where
 |cells (c:aQ) (elem:TypeId) (wide:Bool)
 |map (es:List (Value×Value))
 |lA (z:List UInt8) (p:Nat)
 |tC (m:Nat)
 |xL (o:Nat) (c:aQ)
structure St where
 heap:T gh
 next:Nat
 cM:Nat
 wr:Nat
def eL:Nat:=9223372036854775808
def bit (b:Nat):Nat:=Nat.shiftLeft (nat_lit 1) b
def St.look (s:St)(b:Nat):Option gh:=s.heap.get b
def St.aR (s:St)(b:Nat):St:=match s with
 |⟨h,n,a,r⟩=>wv (Nat.lor a (bit b)) λa=>⟨h,n,a,r⟩
def St.put (s:St)(b:Nat)(o:Option gh):St:=match s with
 |⟨h,n,a,r⟩=>(h.set (Nat.succ b) b o).now λh=>wv (Nat.lor a (bit b)) λa=>wv (Nat.lor r (bit b)) λr=>⟨h,n,a,r⟩
def St.new (s:St)(o:gh):St:=match s with
 |⟨h,n,a,r⟩=>(h.set (Nat.succ n) n (some o)).now λh=>wv (Nat.lor a (bit n)) λa=>wv (Nat.lor r (bit n)) λr=>wv (Nat.succ n) λn=>⟨h,n,a,r⟩
def cellsOf (o:gh):Option (aQ×TypeId×Bool):=match o with
 |.cells c e w=>some (c,e,w)
 |_=>none
def mapOf (o:gh):Option (List (Value×Value)):=match o with
 |.map es=>some es
 |_=>none
def St.row {β:Type}(s:St)(b:Nat)(k:aQ->TypeId->Bool->St->Option β):Option β:=
 ob (s.look b) λo=>match o with
  |.cells c e w=>k c e w (s.aR b)
  |_=>none
def St.JQ {β:Type}(s:St)(b off:Nat)(k:aQ->Nat->St->Option β):Option β:=
 ob (s.look b) λo=>match o with
  |.cells c _ _=>k c off (s.aR b)
  |.xL o c=>eb (Nat.ble o off) (k c (Nat.sub off o) (s.aR b))
  |_=>none
structure dy where
 fn:T Func
 ty:T TypeInfo
 Uj:TypeId
 eqs:List (TypeId×List Nat)
 rF:List (TypeId×String×FuncId)
variable (E:dy)
def lQ (t:TypeId)(m:String)(l:List (TypeId×String×FuncId)):Option FuncId:=List.rec none (λp _ ih=>bo (Nat.beq p.1 t&&decide (p.2.1=m)) (some p.2.2) ih) l
def und1 (i:TypeInfo):Option TypeDesc:=match i.desc with
 |.named _ u=>ob (E.ty.get u) λi=>some i.desc
 |d=>some d
def iQ (t:TypeId):Option TypeDesc:=ob (E.ty.get t) (und1 E)
def size (t:TypeId):Option Nat:=ob (E.ty.get t) λi=>some i.size
def zy (d:TypeDesc):Bool:=match d with
 |.struct _=>true
 |.array .. =>true
 |_=>false
def zero (t:TypeId):Option Value:=ob (E.ty.get t) (·.zero)
def iD (n:Nat):aQ->Option (aQ):=
 Nat.rec (λ_=>some []) (λ_ ih l=>match l with
  |[]=>none
  |x::xs=>ob (ih xs) λr=>some (x::r)) n
def dX (n:Nat):aQ->aQ:=Nat.rec (λl=>l) (λ_ ih l=>match l with
    |[]=>[]
    |_::xs=>ih xs) n
def pc (vs:aQ):aQ->Option (aQ):=
 List.rec (λl=>some l) (λv _ ih l=>match l with
  |[]=>none
  |_::xs=>ob (ih xs) λr=>some (v::r)) vs
def fO (n:Nat)(vs:aQ):aQ->Option (aQ):=
 Nat.rec (pc vs) (λ_ ih l=>match l with
  |[]=>none
  |x::xs=>ob (ih xs) λr=>some (x::r)) n
def flat (v:Value):Bool:=match v with
 |.agg _=>false
 |.tuple _=>false
 |_=>true
def jj (l:aQ):Bool:=List.rec true (λv _ ih=>bo (flat v) ih false) l
def eh {α:Type}(l:List α):Nat:=List.rec (nat_lit 0) (λ_ _ ih=>Nat.succ ih) l
def iR {α:Type}(l:List α):Nat->Option α:=List.rec (λ_=>none) (λx _ ih n=>Nat.rec (some x) (λm _=>ih m) n) l
def bW (v:Value):aQ:=match v with
 |.agg ⟨cs⟩=>cs
 |v=>[v]
def l6 (s:St)(t:TypeId)(b off:Nat):Option (Value×St):=
 s.JQ b off λc off s=>ob (iQ E t) λd=>bo (zy d)
   (ob (size E t) λn=>ob (iD n (dX off c)) λcs=>some (.agg ⟨cs⟩,s))
   (ob (iR c off) λv=>some (v,s))
def mI (s:St)(t:TypeId)(b off:Nat)(v:Value):Option (Value×St):=
 s.row b λc e w s=>ob (size E t) λn=>eb (Nat.beq (eh (bW v)) n)<| eb (jj (bW v))<|
   ob (fO off (bW v) c) λcs=>some (.tuple ⟨[]⟩,s.put b (some (.cells cs e w)))
def Ez {β:Type}(v:Value)(k:Nat->Nat->Option β):Option β:=match v with
 |.pointer (some ⟨b,o,none⟩)=>k b o
 |_=>none
def TP (x y:Int):Bool:=match x,y with
 |.ofNat a,.ofNat b=>Nat.ble (Nat.succ a) b
 |.ofNat _,.negSucc _=>false
 |.negSucc _,.ofNat _=>true
 |.negSucc a,.negSucc b=>Nat.ble (Nat.succ b) a
def xM (x y:Int):Bool:=match x,y with
 |.ofNat a,.ofNat b=>Nat.beq a b
 |.negSucc a,.negSucc b=>Nat.beq a b
 |_,_=>false
def half (k:IntKind):Nat:=match k with
 |.i8=>128|.u8=>128
 |.i16=>32768|.u16=>32768
 |.i32=>2147483648|.u32=>2147483648
 |.i64=>9223372036854775808|.u64=>9223372036854775808
def pJ (k:IntKind)(n:Int):Int:=match n with
 |.ofNat m=>bo (Nat.ble (Nat.succ m) (half k)) (.ofNat m) (k.wrap (.ofNat m))
 |.negSucc m=>k.wrap (.negSucc m)
def kindN (k:IntKind):Nat:=match k with
 |.i8=>nat_lit 0|.u8=>nat_lit 1|.i16=>nat_lit 2|.u16=>nat_lit 3|.i32=>nat_lit 4|.u32=>nat_lit 5|.i64=>nat_lit 6|.u64=>nat_lit 7
def pK (k j:IntKind):Bool:=Nat.beq (kindN k) (kindN j)
def gv (x:List UInt8):List UInt8->Bool:=List.rec (λy=>match y with
    |[]=>true
    |_::_=>false) (λa _ ih y=>match y with
    |[]=>false
    |b::y=>bo (Nat.beq a.toNat b.toNat) (ih y) false) x
def nV (x:List UInt8):List UInt8->Bool:=List.rec (λy=>match y with
    |[]=>false
    |_::_=>true) (λa _ ih y=>match y with
    |[]=>false
    |b::y=>bo (Nat.ble (Nat.succ a.toNat) b.toNat) true (bo (Nat.beq a.toNat b.toNat) (ih y) false)) x
def YW (d:TypeDesc)(x y:Value):Option Bool:=match d,x,y with
 |.bool,.bool a,.bool b=>some (a== b)
 |.pointer _,.pointer none,.pointer b=>some (Option.isNone b)
 |.pointer _,.pointer (some _),.pointer none=>some false
 |.pointer t,.pointer (some ⟨b,o,none⟩),.pointer (some ⟨b',o',none⟩)=>ob (size E t) λ_=>eb (Nat.beq b b'&&Nat.beq o o') (some true)
 |.slice _,.slice none _ _,.slice b _ _=>some (Option.isNone b)
 |.slice _,.slice (some _) _ _,.slice none _ _=>some false
 |.func ..,.nilFunc,.nilFunc=>some true
 |.func ..,.nilFunc,.func .. =>some false
 |.func ..,.func ..,.nilFunc=>some false
 |_,_,_=>none
def aG {β:Type}(v:Value)(s:β):Option (Value×β):=some (v,s)
def xorV (k:IntKind)(a b:Int):Option Value:=match k,a,b with
 |.u8,.ofNat a,.ofNat b=>eb (Nat.ble (Nat.succ a) (nat_lit 256)&&Nat.ble (Nat.succ b) (nat_lit 256)) (some (.int .u8 (.ofNat (Nat.xor a b))))
 |.i64,.ofNat a,.ofNat b=>eb (Nat.ble (Nat.succ a) (nat_lit 4611686018427387904)&&Nat.ble (Nat.succ b) (nat_lit 4611686018427387904)) (some (.int .i64 (.ofNat (Nat.xor a b))))
 |_,_,_=>none
def JR (op:BinOp)(k:IntKind)(a b:Int):Option Value:=match op with
 |.add=>some (.int k (pJ k (Int.add a b)))
 |.sub=>some (.int k (pJ k (Int.sub a b)))
 |.mul=>some (.int k (pJ k (Int.mul a b)))
 |.quo=>bo (xM b (.ofNat (nat_lit 0))) none (some (.int k (pJ k (a.tdiv b))))
 |.rem=>bo (xM b (.ofNat (nat_lit 0))) none (some (.int k (a.tmod b)))
 |.eql=>some (.bool (xM a b))
 |.neq=>some (.bool !(xM a b))
 |.lss=>some (.bool (TP a b))
 |.leq=>some (.bool !(TP b a))
 |.gtr=>some (.bool (TP b a))
 |.geq=>some (.bool !(TP a b))
 |.xor=>xorV k a b
 |_=>none
def Uk (op:BinOp)(a b:List UInt8):Option Value:=match op with
 |.add=>eb (Nat.ble (Nat.add (eh a) (eh b)) (nat_lit 1000000000)) (some (.string ⟨⟨a++b⟩⟩))
 |.eql=>some (.bool (gv a b))
 |.neq=>some (.bool !(gv a b))
 |.lss=>some (.bool (nV a b))
 |.geq=>some (.bool !(nV a b))
 |.gtr=>some (.bool !(bo (nV a b) true (gv a b)))
 |.leq=>some (.bool (bo (nV a b) true (gv a b)))
 |_=>none
def Cb (op:BinOp)(r:Option Bool):Option Value:=match op with
 |.eql=>ob r λb=>some (.bool b)
 |.neq=>ob r λb=>some (.bool !b)
 |_=>none
def lR (x y:Value):Option Bool:=match x,y with
 |.int .i64 a,.int .i64 b=>some (xM a b)
 |.string ⟨⟨a⟩⟩,.string ⟨⟨b⟩⟩=>some (gv a b)
 |.bool a,.bool b=>some (bo a b (!b))
 |_,_=>none
def gL (xs:aQ):aQ->Option Bool:=List.rec (λys=>match ys with
    |[]=>some true
    |_::_=>none) (λx _ ih ys=>match ys with
    |[]=>none
    |y::ys=>ob (lR x y) λe=>ob (ih ys) λr=>some (bo e r false)) xs
def xN (v:Value):Nat:=match v with
 |.int .i64 _=>nat_lit 0
 |.string _=>nat_lit 1
 |.bool _=>nat_lit 2
 |_=>nat_lit 3
def ij (xs:aQ):List Nat->Bool:=List.rec (λks=>match ks with
    |[]=>true
    |_::_=>false) (λv _ ih ks=>match ks with
    |[]=>false
    |k::ks=>bo (Nat.beq (xN v) k) (bo (Nat.ble k (nat_lit 2)) (ih ks) false) false) xs
def xO (t:TypeId)(xs:aQ)(l:List (TypeId×List Nat)):Bool:=List.rec false (λp _ ih=>bo (bo (Nat.beq t p.1) (ij xs p.2) false) true ih) l
def YX (x:Operand):Bool:=match x with
 |.const _=>true
 |_=>false
def isIface (d:TypeDesc):Bool:=match d with
 |.interface _=>true
 |_=>false
def Cc (a b:Nat):Nat:=bo (Nat.ble a b) a b
def FJ (k:IntKind):Nat:=match k with
 |.i8=>nat_lit 8|.u8=>nat_lit 8|.i16=>nat_lit 16|.u16=>nat_lit 16|.i32=>nat_lit 32|.u32=>nat_lit 32|.i64=>nat_lit 64|.u64=>nat_lit 64
def isSh (op:BinOp):Bool:=match op with
 |.shl=>true
 |.shr=>true
 |_=>false
def shV (op:BinOp)(k:IntKind)(a b:Int):Option Value:=match op,a,b with
 |.shr,.ofNat a,.ofNat b=>some (.int k (.ofNat (Nat.shiftRight a (Cc b (FJ k)))))
 |.shl,.ofNat a,.ofNat b=>some (.int k (pJ k (.ofNat (Nat.shiftLeft a (Cc b (FJ k))))))
 |_,_,_=>none
def Q7 (op:BinOp)(t:TypeId)(c:Bool)(x y:Value):Option Value:=match x,y with
 |.int k a,.int k' b=>bo (isSh op) (shV op k a b) (bo (pK k k') (JR op k a b) none)
 |.string ⟨⟨a⟩⟩,.string ⟨⟨b⟩⟩=>Uk op a b
 |.nilIface,.nilIface=>eb c<| ob (iQ E t) λd=>eb (isIface d)<| Cb op (some true)
 |.agg ⟨xs⟩,.agg ⟨ys⟩=>eb (xO t xs E.eqs)<| Cb op (gL xs ys)
 |x,y=>ob (iQ E t) λd=>Cb op (YW E d x y)
def pd (v:Value)(y:Nat):Option Nat:=match v with
 |.int _ (.ofNat i)=>bo (Nat.ble i y) (some i) none
 |_=>none
def hiV (len m:Nat)(hi mx:Option Value):Option Nat:=match hi,mx with
 |some v,_=>pd v m
 |none,none=>some len
 |none,some _=>none
def Q8 (v:Option Value)(y z:Nat):Option Nat:=match v with
 |some v=>pd v y
 |none=>some z
def bounds {β:Type}(len cap:Nat)(lo hi mx:Option Value)(k:Nat->Nat->Nat->Option β):Option β:=
 ob (Q8 mx cap cap) λm=>ob (hiV len m hi mx) λh=>ob (Q8 lo h (nat_lit 0)) λl=>k l h m
def Ul {α:Type}(n:Nat):List α->List α:=Nat.rec (λ_=>[]) (λ_ ih l=>match l with
    |[]=>[]
    |x::xs=>x::ih xs) n
def Um {α:Type}(n:Nat):List α->List α:=Nat.rec (λl=>l) (λ_ ih l=>match l with
    |[]=>[]
    |_::xs=>ih xs) n
def rG (a:aH)(n:Nat):aH:=match a with
 |none=>none
 |some ⟨b,o,s⟩=>bo (Nat.beq n (nat_lit 0)) (some ⟨b,o,s⟩) (some ⟨b,Nat.add o n,none⟩)
def YY {α:Type}(o:Option α):Bool:=match o with
 |none=>true
 |some _=>false
def Cd (z:List UInt8)(lo hi mx:Option Value):Option Value:=
 eb (YY mx)<| bounds (eh z) (eh z) lo hi none λl h _=>some (.string ⟨⟨Ul (Nat.sub h l) (Um l z)⟩⟩)
def ej (sz:Nat)(a:aH)(len cap:Nat)(lo hi mx:Option Value):Option Value:=
 bounds len cap lo hi mx λl h m=>some (.slice (bo (Nat.beq m l) a (rG a (Nat.mul l sz))) (Nat.sub h l) (Nat.sub m l))
def ik (elem:TypeId)(sz:Nat)(a:aH)(len cap:Nat)(lo hi mx:Option Value)(s:St):Option (Value×St):=match a with
 |some ⟨b,o,none⟩=>s.row b λc e w s=>eb (bo w true (Nat.beq sz (nat_lit 1))&&Nat.beq e elem&&Nat.beq o (Nat.mul (Nat.sub cap eL) sz)&&Nat.ble (Nat.add o (Nat.mul len sz)) (eh c))<| match mx with
  |none=>bounds len len lo hi none λl h _=>bo (Nat.beq l (nat_lit 0)||Nat.ble (Nat.succ l) h) (aG (.slice (some ⟨b,Nat.add o (Nat.mul l sz),none⟩) (Nat.sub h l) (Nat.add cap l)) s) (aG (.slice (some ⟨b,Nat.add o (Nat.mul l sz),some o⟩) (nat_lit 0) (Nat.add cap l)) s)
  |some mx=>eb (Nat.ble (Nat.succ len) eL)<| ob (ej sz (some ⟨b,o,none⟩) len len lo hi (some mx)) λv=>aG v s
 |_=>none
def nA (lo hi mx:Option Value):Bool:=match lo,hi,mx with
 |none,some (.int _ (.ofNat 0)),none=>true
 |_,_,_=>false
def nB (a:aH)(cap:Nat)(s:St):Option (Value×St):=match a with
 |some ⟨b,o,none⟩=>aG (.slice (some ⟨b,o,none⟩) (nat_lit 0) cap) s
 |_=>none
def HP (a:aH):Bool:=match a with
 |some ⟨_,_,some _⟩=>false
 |_=>true
def j7 (s:St)(t:TypeId)(x:Value)(lo hi mx:Option Value):Option (Value×St):=
 ob (iQ E t) λd=>match d,x with
  |.string,.string ⟨⟨z⟩⟩=>ob (Cd z lo hi mx) λv=>aG v s
  |.slice elem,.slice a len cap=>eb (HP a)<| ob (size E elem) λsz=>bo (Nat.ble eL cap) (bo (nA lo hi mx) (nB a cap s) (ik elem sz a len cap lo hi mx s)) (ob (ej sz a len cap lo hi mx) λv=>aG v s)
  |.array n elem,.pointer (some ⟨b,o,none⟩)=>ob (size E elem) λsz=>eb (Nat.ble (Nat.succ n) eL)<| ob (ej sz (some ⟨b,o,none⟩) n n lo hi mx) λv=>aG v s
  |_,_=>none
def strCells (l:List UInt8):aQ:=List.rec [] (λc _ ih=>.int .u8 (.ofNat c.toNat)::ih) l
def JS {β:Type}(s:St)(sz:Nat)(x:Value)(k:Nat->aQ->St->Option β):Option β:=match x with
 |.string ⟨⟨z⟩⟩=>eb (Nat.beq sz (nat_lit 1))<| k (eh z) (strCells z) s
 |.slice none n _=>eb (Nat.beq n (nat_lit 0))<| k (nat_lit 0) [] s
 |.slice (some ⟨b,o,none⟩) n _=>s.row b λc _ _ s=>ob (iD (Nat.mul n sz) (dX o c)) λcs=>k n cs s
 |.slice (some ⟨_,_,some _⟩) n _=>eb (Nat.beq n (nat_lit 0))<| k (nat_lit 0) [] s
 |_=>none
def isInt (d:TypeDesc):Bool:=match d with
 |.int _=>true
 |_=>false
def elemOf {β:Type}(t:Option TypeId)(k:TypeId->Option β):Option β:=ob t λt=>ob (iQ E t) λd=>match d with
 |.slice e=>k e
 |_=>none
def bS (s:St)(len:Nat):Value:=.slice (some ⟨s.next,nat_lit 0,none⟩) len eL
def og (elem:TypeId)(sz:Nat)(base:aH)(len cap n:Nat)(new:aQ)(s:St):Option (Value×St):=match base with
 |none=>eb (Nat.beq len (nat_lit 0)&&Nat.beq cap (nat_lit 0))<| bo (Nat.beq n (nat_lit 0)) (aG (.slice none (nat_lit 0) (nat_lit 0)) s)<| aG (bS s n) (s.new (.cells new elem true))
 |some ⟨b,o,none⟩=>s.row b λc e w s=>bo (Nat.ble eL cap)
  (eb (w&&Nat.beq e elem&&Nat.beq cap eL&&Nat.beq o (nat_lit 0))<| bo (Nat.beq (eh c) (Nat.mul len sz)) (bo (Nat.beq n (nat_lit 0)) (aG (.slice (some ⟨b,o,none⟩) len cap) s)<|
    (λs:St=>aG (bS s (Nat.add len n)) (s.new (.cells (c++new) elem true))) (s.put b none))<|
    eb (Nat.ble (Nat.add (Nat.mul len sz) (eh new)) (eh c))<| ob (iD (Nat.mul len sz) c) λold=>(λs:St=>aG (bS s (Nat.add len n)) (s.new (.cells (old++new) elem true))) (s.put b none))
  (bo (Nat.ble (Nat.add len n) cap)
    (bo (Nat.beq n (nat_lit 0)) (aG (.slice (some ⟨b,o,none⟩) len cap) s)<|
      ob (fO (Nat.add o (Nat.mul len sz)) new c) λcs=>aG (.slice (some ⟨b,o,none⟩) (Nat.add len n) cap) (s.put b (some (.cells cs e w))))
    (ob (iD (Nat.mul len sz) (dX o c)) λold=>aG (bS s (Nat.add len n)) (s.new (.cells (old++new) elem true))))
 |_=>none
def uZ (s:St)(argTypes:List TypeId)(b x:Value):Option (Value×St):=
 elemOf E (iR argTypes (nat_lit 0)) λelem=>ob (iR argTypes (nat_lit 1)) λxt=>ob (iQ E xt) λxd=>eb (!isInt xd)<| ob (E.ty.get elem) λi=>ob i.zero λz=>
  eb (Nat.ble (nat_lit 1) i.size&&Nat.ble i.bytes (nat_lit 1000000)&&Nat.beq (eh (bW z)) i.size)<|
  JS s i.size x λn new s=>eb (Nat.beq (eh new) (Nat.mul n i.size))<| eb (jj new)<| match b with
   |.slice base len cap=>eb (Nat.ble (Nat.add len n) (nat_lit 1000000))<| og elem i.size base len cap n new s
   |_=>none
def Aw (l:aQ):Option (List UInt8):=List.rec (some []) (λv _ ih=>match v with
    |.int .u8 (.ofNat k)=>eb (Nat.ble (Nat.succ k) (nat_lit 256))<| ob ih λr=>some (UInt8.ofNat k::r)
    |_=>none) l
def isByte (d:TypeDesc):Bool:=match d with
 |.int .u8=>true
 |_=>false
def M8 (s:St)(a:aH)(n:Nat):Option (Value×St):=match a with
 |none=>aG (.string ⟨⟨[]⟩⟩) s
 |some ⟨b,o,none⟩=>s.row b λc _ _ s=>ob (iD n (dX o c)) λl=>ob (Aw l) λbs=>aG (.string ⟨⟨bs⟩⟩) s
 |some ⟨_,_,some _⟩=>eb (Nat.beq n (nat_lit 0))<| aG (.string ⟨⟨[]⟩⟩) s
def vS (s:St)(src dst:TypeId)(x:Value):Option (Value×St):=
 ob (iQ E src) λds=>ob (iQ E dst) λdd=>match ds,dd,x with
 |.int _,.int k,.int _ n=>aG (.int k (pJ k n)) s
 |.slice e,.string,.slice a n _=>ob (iQ E e) λd=>eb (isByte d)<| M8 s a n
 |.pointer t,.unsafePointer,.pointer (some ⟨b,0,none⟩)=>s.row b λc _ w s=>ob (size E t) λsz=>eb (!w&&Nat.ble (nat_lit 1) (eh c)&&Nat.ble (nat_lit 1) sz)<| aG (.pointer (some ⟨b,0,none⟩)) s
 |.unsafePointer,.pointer u,.pointer (some ⟨b,0,none⟩)=>s.row b λc e w s=>ob (size E u) λ_=>eb (!w&&Nat.beq (eh c) (nat_lit 2)&&Nat.beq e E.Uj&&Nat.beq u E.Uj)<| aG (.pointer (some ⟨b,0,none⟩)) s
 |.string,.slice e,.string ⟨⟨z⟩⟩=>ob (iQ E e) λd=>eb (isByte d)<| ob (size E e) λsz=>eb (Nat.beq sz (nat_lit 1)&&Nat.ble (eh z) (nat_lit 1000000))<| aG (bS s (eh z)) (s.new (.cells (strCells z) e false))
 |.slice _,.slice e,.slice (some ⟨b,o,none⟩) n c=>ob (iQ E e) λd=>eb (isByte d&&Nat.beq src dst)<| s.row b λcs e' _ s=>ob (size E e') λsz=>ob (iQ E e') λd'=>eb (isByte d'&&Nat.beq sz (nat_lit 1))<| aG (.slice (some ⟨b,o,none⟩) n c) (s.put b (some (.cells cs e' false)))
 |_,_,_=>none
def Q9 (t:TypeId)(x:Value):Option Value:=ob (iQ E t) λd=>match d,x with
 |.string,.string ⟨⟨z⟩⟩=>some (.int .i64 (.ofNat (eh z)))
 |.slice _,.slice _ n _=>some (.int .i64 (.ofNat n))
 |_,_=>none
def places (fs:List Field):Option (List (Nat×Nat)):=List.rec (some []) (λf _ ih=>ob (size E f.type) λsz=>ob ih λr=>some ((f.offset,sz)::r)) fs
def sD (ev:Operand->Value)(l:List (Nat×Operand)):List (Nat×Value):=List.rec [] (λp _ ih=>(p.1,ev p.2)::ih) l
def rH (bL:Nat->Option (Nat×Nat))(l:List (Nat×Value)):aQ->Option (aQ):=
 List.rec (λcells=>some cells) (λp _ ih cells=>ob (bL p.1) λq=>eb (Nat.beq (eh (bW p.2)) q.2)<| ob (fO q.1 (bW p.2) cells) λcs=>ih cs) l
def lF (zs:aQ)(n:Nat):aQ:=Nat.rec [] (λ_ ih=>zs++ih) n
def oh (sz:Nat)(i:Nat):Option (Nat×Nat):=some (Nat.mul i sz,sz)
def ki (x y:Value):Option Bool:=match x,y with
 |.agg ⟨xs⟩,.agg ⟨ys⟩=>gL xs ys
 |.int k a,.int k' b=>eb (pK k k')<| some (xM a b)
 |.string ⟨⟨a⟩⟩,.string ⟨⟨b⟩⟩=>some (gv a b)
 |_,_=>none
def rI (k:Value)(l:List (Value×Value)):Option (Option Value):=
 List.rec (some none) (λp _ ih=>ob (ki k p.1) λb=>bo b (some (some p.2)) ih) l
def xP (kt:TypeId)(d:TypeDesc)(k:Value):Bool:=match d,k with
 |.struct _,.agg ⟨cs⟩=>xO kt cs E.eqs
 |.array _ _,.agg ⟨cs⟩=>xO kt cs E.eqs
 |.int _,.int _ _=>true
 |.string,.string _=>true
 |_,_=>false
def Ra (k:Value)(l:List (Value×Value)):Option (List (Value×Value)):=
 List.rec (some []) (λp r ih=>ob (ki k p.1) λb=>bo b (some r) (ob ih λr=>some (p::r))) l
def M9 (k v:Value)(l:List (Value×Value)):Option (List (Value×Value)):=
 List.rec (some []) (λp r ih=>ob (ki k p.1) λb=>bo b (some ((k,v)::r)) (ob ih λr=>some (p::r))) l
def Bt (s:St)(t:TypeId)(b:Nat):Option (Value×St):=ob (iQ E t) λd=>match d with
 |.map _ _=>ob (s.look b) λo=>ob (mapOf o) λes=>aG (.int .i64 (.ofNat (eh es))) (s.aR b)
 |_=>none
def capV (t:TypeId)(x:Value)(s:St):Option (Value×St):=ob (iQ E t) λd=>match d,x with
 |.slice _,.slice _ _ c=>eb (Nat.ble (Nat.succ c) eL)<| aG (.int .i64 (.ofNat c)) s
 |_,_=>none
def Px (s:St)(argTypes:List TypeId)(m k:Value):Option (Value×St):=ob (iR argTypes (nat_lit 0)) λt=>ob (iQ E t) λd=>match d,m with
 |.map kt _,.map (some b)=>ob (iQ E kt) λkd=>eb (xP E kt kd k)<| ob (s.look b) λo=>ob (mapOf o) λes=>ob (Ra k es) λes=>aG (.tuple ⟨[]⟩) (s.put b (some (.map es)))
 |_,_=>none
def HQ (s:St)(t:TypeId)(x:Value):Option (Value×St):=ob (iQ E t) λd=>match d,x with
 |.string,.string ⟨⟨z⟩⟩=>aG (.pointer (some ⟨s.next,nat_lit 0,none⟩)) (s.new (.lA z (nat_lit 0)))
 |.map _ _,.map (some b)=>ob (s.look b) λo=>ob (mapOf o) λ_=>(λs:St=>aG (.pointer (some ⟨s.next,nat_lit 0,none⟩)) (s.new (.tC b))) (s.aR b)
 |_,_=>none
def FK (s:St)(b:Nat)(z:List UInt8)(p:Nat):Option (Value×St):=match iR z p with
 |none=>aG (.tuple ⟨[.bool false]⟩) (s.aR b)
 |some c=>eb (Nat.ble (Nat.succ c.toNat) (nat_lit 128))<| aG (.tuple ⟨[.bool true,.int .i64 (.ofNat p),.int .i32 (.ofNat c.toNat)]⟩) (s.put b (some (.lA z (Nat.succ p))))
def nextM (s:St)(b m:Nat):Option (Value×St):=ob (s.look m) λo=>ob (mapOf o) λes=>match es with
 |[]=>aG (.tuple ⟨[.bool false]⟩) ((s.aR b).aR m)
 |_::_=>none
def JT (s:St)(x:Value)(str:Bool):Option (Value×St):=match x with
 |.pointer (some ⟨b,0,none⟩)=>ob (s.look b) λo=>match o with
  |.lA z p=>eb str<| FK s b z p
  |.tC m=>eb (!str)<| nextM s b m
  |_=>none
 |_=>none
def YZ (x y:Value)(s:St):Option (Value×St):=match x,y with
 |.int k a,.int k' b=>eb (pK k k')<| aG (.int k (bo (TP b a) b a)) s
 |_,_=>none
def Za (x y:Value)(s:St):Option (Value×St):=match x,y with
 |.int k a,.int k' b=>eb (pK k k')<| aG (.int k (bo (TP a b) b a)) s
 |_,_=>none
def wx (x:Value)(s:St):Option (Value×St):=match x with
 |.slice (some ⟨b,0,none⟩) _ cap=>eb (Nat.beq cap eL)<| s.row b λc _ w s=>eb (w&&Nat.ble (nat_lit 1) (eh c))<| aG (.pointer (some ⟨b,0,none⟩)) s
 |_=>none
def zA (sz:Nat)(b o n k:Nat)(new:aQ)(s:St):Option (Value×St):=
 eb (jj new)<| ob (iD (Nat.mul (Cc k n) sz) new) λnew=>s.row b λc e w s=>ob (fO o new c) λcs=>aG (.int .i64 (.ofNat (Cc k n))) (s.put b (some (.cells cs e w)))
def copyV (s:St)(argTypes:List TypeId)(x y:Value):Option (Value×St):=match x with
 |.slice (some ⟨b,o,none⟩) n _=>elemOf E (iR argTypes (nat_lit 0)) λe=>ob (size E e) λsz=>JS s sz y λk new s=>zA sz b o n k new s
 |_=>none
def ra (ts:List TypeId)(x y:Value)(s:St):Option (Value×St):=match ts,x,y with
 |[pt,_],.pointer (some ⟨b,0,none⟩),.int .i64 (.ofNat n)=>s.row b λc e _ s=>ob (iQ E pt) λd=>match d with
  |.pointer e'=>ob (size E e') λsz=>eb (Nat.beq e e'&&Nat.beq sz (nat_lit 1)&&Nat.ble (nat_lit 1) n&&Nat.ble n (nat_lit 1000000))<| ob (iD n c) λl=>ob (Aw l) λbs=>aG (.string ⟨⟨bs⟩⟩) (s.put b none)
  |_=>none
 |_,_,_=>none
def zB (s:St)(argTypes:List TypeId)(x:Value):Option (Value×St):=match x with
 |.slice none _ _=>elemOf E (iR argTypes (nat_lit 0)) λ_=>aG (.tuple ⟨[]⟩) s
 |.slice (some ⟨b,o,q⟩) n _=>elemOf E (iR argTypes (nat_lit 0)) λe=>bo (Nat.beq n (nat_lit 0)) (aG (.tuple ⟨[]⟩) s) (eb (YY q)<| s.row b λc e' w s=>
   ob (size E e) λsz=>ob (zero E e) λz=>eb (Nat.beq (eh (bW z)) sz&&Nat.ble (nat_lit 1) sz&&jj (bW z))<| ob (fO o (lF (bW z) n) c) λcs=>aG (.tuple ⟨[]⟩) (s.put b (some (.cells cs e' w))))
 |_=>none
def rJ (s:St)(b:Builtin)(argTypes:List TypeId)(x:Value):Option (Value×St):=match b with
 |.len=>ob (iR argTypes (nat_lit 0)) λt=>match x with
  |.map (some b)=>Bt E s t b
  |x=>ob (Q9 E t x) λv=>aG v s
 |.cap=>ob (iR argTypes (nat_lit 0)) λt=>capV E t x s
 |.unsafeSliceData=>wx x s
 |.clear=>zB E s argTypes x
 |_=>none
def JU (s:St)(b:Builtin)(argTypes:List TypeId)(x y:Value):Option (Value×St):=match b with
 |.append=>uZ E s argTypes x y
 |.max=>Za x y s
 |.min=>YZ x y s
 |.delete=>Px E s argTypes x y
 |.copy=>copyV E s argTypes x y
 |.unsafeString=>ra E argTypes x y s
 |_=>none
def wy {α β:Type}(f:α->β)(l:List α):List β:=List.rec [] (λx _ ih=>f x::ih) l
def xQ (ev:Operand->Value)(s:St)(b:Builtin)(argTypes:List TypeId)(args:List Operand):Option (Value×St):=match args with
 |[x]=>rJ E s b argTypes (ev x)
 |[x,y]=>JU E s b argTypes (ev x) (ev y)
 |_=>none
def Py (c:Value)(a b:Value)(s:St):Option (Value×St):=match c with
 |.bool c=>bo c (aG a s) (aG b s)
 |_=>none
def Na (s:St)(l:aQ)(t:TypeId):Option (Value×St):=aG (.pointer (some ⟨s.next,nat_lit 0,none⟩)) (s.new (.cells l t false))
def HR (s:St)(t:TypeId):Option (Value×St):=ob (zero E t) λz=>Na s (bW z) t
def HS (ev:Operand->Value)(s:St)(t:TypeId)(parts:List (Nat×Operand)):Option (Value×St):=
 ob (zero E t) λz=>ob (iQ E t) λd=>match d with
  |.struct ⟨fs⟩=>ob (places E fs) λpl=>ob (rH (iR pl) (sD ev parts) (bW z)) λcs=>aG (.agg ⟨cs⟩) s
  |.array _ e=>ob (size E e) λsz=>ob (rH (oh sz) (sD ev parts) (bW z)) λcs=>aG (.agg ⟨cs⟩) s
  |_=>none
def tY (ev:Operand->Value)(s:St)(t:TypeId)(n:Nat)(parts:List (Nat×Operand)):Option (Value×St):=
 elemOf E (some t) λe=>ob (size E e) λsz=>ob (zero E e) λz=>eb (Nat.beq (eh (bW z)) sz&&Nat.ble (nat_lit 1) sz&&Nat.ble (Nat.mul n sz) (nat_lit 16777216))<|
  ob (rH (oh sz) (sD ev parts) (lF (bW z) n)) λcs=>aG (.slice (some ⟨s.next,nat_lit 0,none⟩) n n) (s.new (.cells cs e false))
def nilV (x:Value)(s:St):Option (Value×St):=match x with
 |.pointer (some a)=>aG (.pointer (some a)) s
 |.func (.func f) a b=>aG (.func (.func f) a b) s
 |_=>none
def FL (x:Value)(s:St):Option (Value×St):=match x with
 |.func (.method m) ⟨[.iface t (.pointer (some a))]⟩ c=>ob (lQ t m E.rF) λ_=>aG (.func (.method m) ⟨[.iface t (.pointer (some a))]⟩ c) s
 |x=>nilV x s
def Nb (t:TypeId)(x:Value)(s:St):Option (Value×St):=ob (iQ E t) λd=>eb (!isIface d)<| aG (.iface t x) s
def unV (op:UnOp)(x:Value)(s:St):Option (Value×St):=match op,x with
 |.not,.bool b=>aG (.bool !b) s
 |_,_=>none
def xR (s:St)(t:TypeId)(m k:Value)(ok:Bool):Option (Value×St):=
 ob (iQ E t) λd=>match d,m with
  |.map kt e,.map (some b)=>ob (iQ E kt) λkd=>eb (xP E kt kd k)<| ob (zero E e) λz=>ob (s.look b) λo=>ob (mapOf o) λes=>ob (rI k es) λr=>match r with
   |some v=>aG (bo ok (.tuple ⟨[v,.bool true]⟩) v) (s.aR b)
   |none=>aG (bo ok (.tuple ⟨[z,.bool false]⟩) z) (s.aR b)
  |_,_=>none
def sE (s:St)(t:TypeId)(m k v:Value):Option (Value×St):=
 ob (iQ E t) λd=>match d,m with
  |.map kt _,.map (some b)=>ob (iQ E kt) λkd=>eb (xP E kt kd k)<| ob (s.look b) λo=>ob (mapOf o) λes=>ob (rI k es) λr=>match r with
   |some _=>ob (M9 k v es) λes=>aG (.tuple ⟨[]⟩) (s.put b (some (.map es)))
   |none=>aG (.tuple ⟨[]⟩) (s.put b (some (.map (es++[(k,v)]))))
  |_,_=>none
def wz (s:St)(t:TypeId)(l c:Value):Option (Value×St):=
 elemOf E (some t) λe=>ob (E.ty.get e) λi=>ob i.zero λz=>match l,c with
  |.int _ (.ofNat l),.int _ (.ofNat c)=>eb (Nat.ble l c&&Nat.ble c (nat_lit 1000000)&&Nat.ble i.bytes (nat_lit 1000000)&&Nat.beq (eh (bW z)) i.size&&Nat.ble (nat_lit 1) i.size)<|
   aG (.slice (some ⟨s.next,nat_lit 0,none⟩) l c) (s.new (.cells (lF (bW z) c) e false))
  |_,_=>none
def dz (ev:Operand->Value)(x:Option Operand):Option Value:=match x with
 |none=>none
 |some x=>some (ev x)
def nC (s:St)(t:TypeId)(x:Value)(i:Nat):Option (Value×St):=
 ob (iQ E t) λd=>match d with
  |.struct ⟨fs⟩=>ob (iR fs i) λf=>ob (size E f.type) λsz=>eb (Nat.ble (nat_lit 1) sz)<| Ez x λb o=>aG (.pointer (some ⟨b,Nat.add o f.offset,none⟩)) s
  |_=>none
def HT (s:St)(t:TypeId)(x:Value)(i:Nat):Option (Value×St):=
 ob (iQ E t) λd=>match d,x with
  |.struct ⟨fs⟩,.agg ⟨cs⟩=>ob (iR fs i) λf=>ob (iQ E f.type) λdf=>eb (!zy df)<| ob (iR cs f.offset) λv=>aG v s
  |_,_=>none
def nD (s:St)(t:TypeId)(x i:Value):Option (Value×St):=
 ob (iQ E t) λd=>match d,x,i with
  |.array n e,.pointer (some ⟨b,o,none⟩),.int _ (.ofNat i)=>eb (Nat.ble (Nat.succ i) n)<| ob (size E e) λsz=>aG (.pointer (some ⟨b,Nat.add o (Nat.mul i sz),none⟩)) s
  |.slice e,.slice (some ⟨b,o,none⟩) n _,.int _ (.ofNat i)=>eb (Nat.ble (Nat.succ i) n)<| ob (size E e) λsz=>aG (.pointer (some ⟨b,Nat.add o (Nat.mul i sz),none⟩)) s
  |_,_,_=>none
def HU (s:St)(t:TypeId)(x i:Value):Option (Value×St):=
 ob (iQ E t) λd=>match d,x,i with
  |.string,.string ⟨⟨z⟩⟩,.int _ (.ofNat i)=>ob (iR z i) λc=>aG (.int .u8 (.ofNat c.toNat)) s
  |_,_,_=>none
def xS (s:St)(x:Value)(i:Nat):Option (Value×St):=match x with
 |.tuple ⟨vs⟩=>ob (iR vs i) λv=>aG v s
 |_=>none
abbrev dJ:=FuncId->aQ->St->Option (Value×St)
def wA (call:dJ)(f:Value)(args:aQ)(s:St):Option (Value×St):=match f with
 |.func (.func g) ⟨first⟩ ⟨cap⟩=>call g (first++(args++cap)) s
 |_=>none
def Bu (call:dJ)(r:Value)(m:String)(args:aQ)(s:St):Option (Value×St):=match r with
 |.iface t (.pointer (some a))=>ob (lQ t m E.rF) λf=>call f (.pointer (some a)::args) s
 |_=>none
def Nc (call:dJ)(ev:Operand->Value)(s:St)(c:Call):Option (Value×St):=match c.callee with
 |.value f=>wA call (ev f) (wy ev c.args.toList) s
 |.builtin b=>xQ E ev s b c.argTypes.toList c.args.toList
 |.invoke r m=>Bu E call (ev r) m (wy ev c.args.toList) s
def EA (call:dJ)(ev:Operand->Value)(s:St)(o:Op):Option (Value×St):=match o with
 |.move x=>aG (ev x) s
 |.assign x=>aG (ev x) s
 |.pick c a b=>Py (ev c) (ev a) (ev b) s
 |.alloc t=>HR E s t
 |.box t x=>Na s (bW (ev x)) t
 |.build t ps=>HS E ev s t ps.toList
 |.buildSlice t n ps=>tY E ev s t n ps.toList
 |.load t a=>Ez (ev a) λb o=>l6 E s t b o
 |.store t a x=>Ez (ev a) λb o=>mI E s t b o (ev x)
 |.nilCheck x=>FL E (ev x) s
 |.makeInterface t x=>Nb E t (ev x) s
 |.binOp op t x y _=>ob (Q7 E op t (YX x||YX y) (ev x) (ev y)) λv=>aG v s
 |.unOp op _ x=>unV op (ev x) s
 |.convert a b x=>vS E s a b (ev x)
 |.makeFunc fn f c=>aG (.func fn ⟨wy ev f.toList⟩ ⟨wy ev c.toList⟩) s
 |.makeMap _ none=>aG (.map (some s.next)) (s.new (.map []))
 |.lookup t m k ok=>xR E s t (ev m) (ev k) ok
 |.mapUpdate t m k v=>sE E s t (ev m) (ev k) (ev v)
 |.makeSlice t l c=>wz E s t (ev l) (ev c)
 |.slice t x lo hi mx=>j7 E s t (ev x) (dz ev lo) (dz ev hi) (dz ev mx)
 |.fieldAddr t x i=>nC E s t (ev x) i
 |.field t x i=>HT E s t (ev x) i
 |.indexAddr t x i=>nD E s t (ev x) (ev i)
 |.index t x i=>HU E s t (ev x) (ev i)
 |.extract x i=>xS s (ev x) i
 |.range t x=>HQ E s t (ev x)
 |.next x str=>JT s (ev x) str
 |.call c=>Nc E call ev s c
 |_=>none
inductive Ex where|normal|exit (id:Nat)|ret
abbrev Tm:=T Value
def lG (o:Option Value):Value:=Option.rec (.tuple ⟨[]⟩) (λv=>v) o
def aI (tm:Tm)(x:Operand):Value:=match x with
 |.tmp t=>lG (tm.get t)
 |.const v=>v
 |.global g=>.pointer (some ⟨g,nat_lit 0,none⟩)
 |.func f=>.func (.func f) #[] #[]
def Tm.put {β:Type}(tm:Tm)(d:Option Tmp)(v:Value)(k:Tm->β):β:=match d with
 |some d=>Ui v λv=>(tm.set (Nat.succ d) d (some v)).now k
 |none=>k tm
def tZ (v:Option Value)(want:Bool):Bool:=match v with
 |some (.bool b)=>bo b want (!want)
 |_=>false
def l7 (ax:List Oper)(j:Nat):Option Tmp:=ob (iR ax j) (·.dst)
def gW (ax:List Oper)(tm:Tm)(g:Option (Nat×Bool)):Bool:=match g with
 |none=>true
 |some (j,want)=>tZ (ob (l7 ax j) λd=>tm.get d) want
abbrev R3:=Option (Tm×St)
def JV (call:dJ)(ax:List Oper)(l:List Oper):Tm->St->Option (Tm×St):=
 List.rec (λtm s=>some (tm,s)) (λo _ ih tm s=>
  bo (gW ax tm o.guard) (ob (EA E call (aI tm) s o.op) λp=>match p with
      |(v,s)=>tm.put o.dst v λtm=>ih tm s)
   (tm.put o.dst (.tuple ⟨[]⟩) λtm=>ih tm s)) l
structure Seen where
 i:Nat
 cM:Nat
 wr:Nat
def zC (b a r:Nat)(l:List Seen):Bool:=List.rec true (λx _ ih=>bo (bo (Nat.beq (Nat.land x.wr a) (nat_lit 0)) (Nat.beq (Nat.land x.cM r) (nat_lit 0)) false||Nat.testBit b x.i) ih false) l
def ua (ax:List Oper)(j:Nat)(s s':St)(seen:List Seen)(k:St->List Seen->R3):R3:=match s,s' with
 |⟨_,_,a0,r0⟩,⟨h,n,a,r⟩=>bo (Nat.beq a (nat_lit 0)) (k ⟨h,n,a0,r0⟩ seen)
  (bo (zC ((Region.before ⟨ax⟩).getD j 0) a r seen) (wv (Nat.lor a0 a) λa0=>wv (Nat.lor r0 r) λr0=>k ⟨h,n,a0,r0⟩ (⟨j,a,r⟩::seen)) none)
def eE (s:St):St:=match s with
 |⟨h,n,_,_⟩=>⟨h,n,nat_lit 0,nat_lit 0⟩
def ub (call:dJ)(ax:List Oper)(l:List Oper):Nat->Tm->St->List Seen->Option (Tm×St):=
 List.rec (λ_ tm s _=>some (tm,s)) (λo _ ih j tm s seen=>
  bo (gW ax tm o.guard) (ob (EA E call (aI tm) (eE s) o.op) λp=>match p with
      |(v,s')=>ua ax j s s' seen λs seen=>tm.put o.dst v λtm=>ih (Nat.succ j) tm s seen)
   (tm.put o.dst (.tuple ⟨[]⟩) λtm=>ih (Nat.succ j) tm s seen)) l
abbrev R4:=Option (Ex×Tm×St)
def FM (r:R4)(k:Tm->St->R4):R4:=ob r λp=>match p with
 |(.normal,tm,s)=>k tm s
 |p=>some p
def Ce (body:Tm->St->R4)(n:Nat):Tm->St->R4:=Nat.rec (λ_ _=>none) (λ_ ih tm s=>FM (body tm s) ih) n
def outV (id:Nat)(r:R4):R4:=ob r λp=>match p with
 |(.exit i,tm,s)=>bo (Nat.beq i id) (some (.normal,tm,s)) (some (.exit i,tm,s))
 |p=>some p
def FN (r:R3):R4:=ob r λp=>some (.normal,p)
def Pz (c:Value)(a b:R4):R4:=match c with
 |.bool c=>bo c a b
 |_=>none
def PA (call:dJ)(ax:List Oper)(draw:Bool)(tm:Tm)(s:St):R4:=
 bo draw (FN (ub E call ax ax (nat_lit 0) tm s [])) (FN (JV E call ax ax tm s))
def l8 (call:dJ)(lf:Nat)(c:Code):Tm->St->R4:=
 Code.rec (motive:=λ_=>Tm->St->R4) (λtm s=>some (.normal,tm,s)) (λ_ ax draw tm s=>PA E call ax.toList draw tm s) (λ_ _ a b tm s=>FM (a tm s) b) (λc _ _ a b tm s=>Pz (aI tm c) (a tm s) (b tm s))
  (λid _ a tm s=>outV id (a tm s)) (λ_ a tm s=>Ce a lf tm s) (λ_ _ _ _ _ _ _ _=>none) (λid tm s=>some (.exit id,tm,s)) (λ_ _ _ _=>none) (λ_ _ _=>none) (λ_ _ _=>none)
  (λtm s=>some (.ret,tm,s)) (λ_ _ _=>none) c
def lL (l:aQ):Nat->Tm->Tm:=List.rec (λ_ tm=>tm) (λv _ ih i tm=>Ui v λv=>(tm.set (Nat.succ i) i (some v)).now λtm=>ih (Nat.succ i) tm) l
def Cf (tm:Tm)(l:List ResultVar):St->Option (aQ×St):=
 List.rec (λs=>some ([],s)) (λr _ ih s=>match r with
  |.tmp t=>ob (ih s) λp=>some (lG (tm.get t)::p.1,p.2)
  |.cell a t=>Ez (lG (tm.get a)) λb o=>ob (l6 E s t b o) λq=>ob (ih q.2) λp=>some (q.1::p.1,p.2)) l
def gF (l:aQ):Value:=match l with
 |[v]=>v
 |vs=>.tuple ⟨vs⟩
def Rb (c:Nat)(l:List UInt8):Nat->Int:=List.rec (λ_=>.negSucc (nat_lit 0)) (λb _ ih i=>bo (Nat.beq b.toNat c) (.ofNat i) (ih (Nat.succ i))) l
abbrev wB:=aQ->St->Option (Value×St)
structure dM where
 rK:Nat
 indexByte:Nat
 sF:Nat
 look:Nat
 byte:Nat
 vT:List (Nat×wB)
def Cg (X:dM)(f:FuncId):Bool:=List.rec false (λp _ ih=>bo (Nat.beq p.1 f) true ih) X.vT
def xT (X:dM)(f:FuncId)(args:aQ)(s:St)(k:Option (Value×St)):Option (Value×St):=List.rec k (λp _ ih=>bo (Nat.beq p.1 f) (p.2 args s) ih) X.vT
def id1 (args:aQ):Option Value:=match args with
 |[x]=>some x
 |_=>none
def Un (args:aQ):Option Value:=match args with
 |[.string ⟨⟨z⟩⟩,.int .u8 (.ofNat c)]=>eb (Nat.ble (Nat.succ c) (nat_lit 256))<| some (.int .i64 (Rb c z (nat_lit 0)))
 |_=>none
def zeroV (X:dM)(args:aQ)(s:St):Option (Value×St):=match args with
 |[.int .i64 (.ofNat n)]=>eb (Nat.ble (nat_lit 1) n&&Nat.ble n (nat_lit 1000000))<| aG (bS s n) (s.new (.cells [] X.byte true))
 |_=>none
def JW (args:aQ)(s:St):Option (Value×St):=match args with
 |[.agg ⟨[.slice (some ⟨b,o,none⟩) n _,.slice _ 0 _,_]⟩,.int .i64 (.ofNat i)]=>eb (Nat.ble (Nat.succ i) n)<| s.row b λcs _ _ s=>ob (iR cs (Nat.add o i)) λv=>match v with
  |.string ⟨⟨z⟩⟩=>aG (.string ⟨⟨z⟩⟩) s
  |_=>none
 |_=>none
def Zb (X:dM)(f:FuncId)(args:aQ)(s:St):Option (Value×St):=
 bo (Nat.beq f X.rK) (ob (id1 args) λv=>aG v s) (bo (Nat.beq f X.indexByte) (ob (Un args) λv=>aG v s) (bo (Nat.beq f X.sF) (zeroV X args s) none))
def Uo (fn:Func)(r:R4):Option (Value×St):=ob r λp=>match p with
 |(.exit _,_,_)=>none
 |(_,tm,s)=>ob (Cf E tm fn.results.toList s) λp=>some (gF p.1,p.2)
end
end Go.Ev
namespace Go.Ev
open Go
section
variable {α β:Type}
@[simp] theorem gw (x y:α):bo true x y=x:=rfl
@[simp] theorem eG (x y:α):bo false x y=y:=rfl
theorem ek (b:Bool)(x y:α):bo b x y=if b then x else y:=by cases b<;>rfl
@[simp] theorem cq (a:α)(k:α->Option β):ob (some a) k=k a:=rfl
@[simp] theorem ob_none (k:α->Option β):ob (none:Option α) k=none:=rfl
theorem aw {o:Option α}{k:α->Option β}{r:β}(h:ob o k=some r):∃a,o=some a/\k a=some r:=by
 cases o with
 |none=>cases h
 |some a=>exact⟨a,rfl,h⟩
theorem bg {b:Bool}{k:Option β}{r:β}(h:eb b k=some r):b=true/\k=some r:=by
 cases b with
 |false=>cases h
 |true=>exact⟨rfl,h⟩
theorem HV {b:Bool}{x:Option β}{r:β}(h:bo b x none=some r):b=true/\x=some r:=by
 cases b with
 |false=>cases h
 |true=>exact⟨rfl,h⟩
@[simp] theorem T.Nd (t:T α)(k:T α->β):t.now k=k t:=by cases t<;>rfl
@[simp] theorem PB (n:Nat)(k:Nat->β):wv n k=k n:=by cases n<;>rfl
@[simp] theorem nowI_eq (n:Int)(k:Int->β):nowI n k=k n:=by cases n<;>simp[nowI]
@[simp] theorem nowB_eq (n:Bool)(k:Bool->β):nowB n k=k n:=by cases n<;>rfl
@[simp] theorem nowP_eq (a:aH)(k:aH->β):YV a k=k a:=by
  unfold YV;split<;>simp
@[simp] theorem nowS_eq (a:aH)(l c:Nat)(k:Value->β):nowS a l c k=k (.slice a l c):=by simp[nowS]
@[simp] theorem Zc (v:Value)(k:Value->β):Ui v k=k v:=by unfold Ui;split<;>simp
theorem T.get_nil (n:Nat):(T.nil:T α).get n=none:=rfl
theorem T.om (v:Option α)(l r:T α)(n:Nat):(T.node v l r).get n=if n=0 then v else if n% 2=1 then l.get (n/ 2) else r.get (n/ 2-1):=by
 have h:(T.node v l r).get n=bo (Nat.beq n 0) v (bo (Nat.beq (n% 2) 1) (l.get (n/ 2)) (r.get (Nat.pred (n/ 2)))):=rfl;rw[h,ek,ek];simp only[BY,Nat.pred_eq_sub_one]
theorem T.JX (d:Nat)(t:T α)(n:Nat)(x:Option α):
  T.set (d+1) t n x=match t with
    |.nil=>if n=0 then .node x .nil .nil else if n% 2=1 then .node none (T.set d .nil (n/ 2) x) .nil else .node none .nil (T.set d .nil (n/ 2-1) x)
    |.node v l r=>if n=0 then .node x l r else if n% 2=1 then .node v (T.set d l (n/ 2) x) r else .node v l (T.set d r (n/ 2-1) x):=by
 cases t with
 |nil=>
  have h:T.set (d+1) (T.nil:T α) n x=bo (Nat.beq n 0) (.node x .nil .nil) (bo (Nat.beq (n% 2) 1) ((T.set d .nil (n/ 2) x).now λl=>.node none l .nil) ((T.set d .nil (Nat.pred (n/ 2)) x).now λr=>.node none .nil r)):=rfl;rw[h,ek,ek];simp only[BY,Nat.pred_eq_sub_one,T.Nd]
 |node v l r=>
  have h:T.set (d+1) (T.node v l r) n x=bo (Nat.beq n 0) (.node x l r) (bo (Nat.beq (n% 2) 1) ((T.set d l (n/ 2) x).now λl=>.node v l r) ((T.set d r (Nat.pred (n/ 2)) x).now λr=>.node v l r)):=rfl;rw[h,ek,ek];simp only[BY,Nat.pred_eq_sub_one,T.Nd]
theorem T.PC (d:Nat):∀(t:T α)(n m:Nat)(x:Option α),n+1<2^ d->(T.set d t n x).get m=if m=n then x else t.get m:=by
 induction d with
 |zero=>intro t n m x h;simp at h
 |succ d ih=>
  intro t n m x h;have hl:n% 2=1->n/ 2+1<2^ d:=λ_=>by rw[T8] at h;omega
  have hr:¬n=0->¬n% 2=1->n/ 2-1+1<2^ d:=λ_ _=>by rw[T8] at h;omega
  rw[T.JX];cases t with
  |nil=>
   simp only;by_cases h0:n=0
   .simp only[h0,if_true,T.om,T.get_nil];split<;>simp
   .simp only[h0,oV];by_cases h1:n% 2=1
    .simp only[h1,if_true,T.om,T.get_nil];rw[ih _ _ _ _ (hl h1)];simp only[T.get_nil];repeat' split
     all_goals first|rfl|omega
    .simp only[h1,oV,T.om,T.get_nil];rw[ih _ _ _ _ (hr h0 h1)];simp only[T.get_nil];repeat' split
     all_goals first|rfl|omega
  |node v l r=>
   simp only;by_cases h0:n=0
   .simp only[h0,if_true,T.om];repeat' split
    all_goals first|rfl|omega
   .simp only[h0,oV];by_cases h1:n% 2=1
    .simp only[h1,if_true,T.om];rw[ih _ _ _ _ (hl h1)];repeat' split
     all_goals first|rfl|omega
    .simp only[h1,oV,T.om];rw[ih _ _ _ _ (hr h0 h1)];repeat' split
     all_goals first|rfl|omega
@[simp] theorem dm (l:List α):eh l=l.length:=by
  induction l with
  |nil=>rfl
  |cons x xs ih=>exact gb Nat.succ ih
@[simp] theorem dQ (l:List α):∀n,iR l n=l[n]?:=by
  induction l with
  |nil=>intro n;simp[iR]
  |cons x xs ih=>
   intro n;cases n with
   |zero=>rfl
   |succ n=>exact(ih n).trans (by simp)
@[simp] theorem takeL_eq (n:Nat):∀l:List α,Ul n l=l.take n:=by
  induction n with
  |zero=>intro l;show([]:List α)=l.take 0;simp
  |succ n ih=>intro l;cases l with
   |nil=>rfl
   |cons x xs=>exact gb (x::·) (ih xs)
@[simp] theorem dropL_eq (n:Nat):∀l:List α,Um n l=l.drop n:=by
  refine' za2
@[simp] theorem qD (f:α->β)(l:List α):wy f l=l.map f:=by
  induction l with
  |nil=>rfl
  |cons x xs ih=>exact gb (f x::·) ih
end
@[simp] theorem pL (n:Nat):∀l:aQ,dX n l=l.drop n:=by
  refine' za2
theorem xU (n:Nat):∀l:aQ,iD n l=if n<=l.length then some (l.take n) else none:=by
 induction n with
 |zero=>intro l;show some []=_;simp
 |succ n ih=>intro l;cases l with
  |nil=>simp[iD]
  |cons x xs=>
   have h:iD (n+1) (x::xs)=ob (iD n xs) λr=>some (x::r):=rfl
   rw[h,ih xs];by_cases hn:n<=xs.length<;>simp[hn]
theorem kC {n:Nat}{l r:aQ}(h:iD n l=some r):n<=l.length/\r=l.take n:=by
 rw[xU] at h;split at h
 .exact⟨‹_›,by simpa using h.symm⟩
 .cases h
theorem PD (vs:aQ):∀l:aQ,pc vs l=if vs.length<=l.length then some (vs++l.drop vs.length) else none:=by
 induction vs with
 |nil=>intro l;show some l=_;simp
 |cons v vs ih=>intro l;cases l with
  |nil=>simp[pc]
  |cons x xs=>
   have h:pc (v::vs) (x::xs)=ob (pc vs xs) λr=>some (v::r):=rfl
   rw[h,ih xs];by_cases hn:vs.length<=xs.length<;>simp[hn]
theorem nE (n:Nat)(vs:aQ):∀{l r:aQ},fO n vs l=some r->n+vs.length<=l.length/\r=l.take n++vs++l.drop (n+vs.length):=by
 induction n with
 |zero=>
  intro l r h;have h':pc vs l=some r:=h;rw[PD] at h';split at h'
  .have h2:=ir h';subst h2;exact⟨af,by simp⟩
  .cases h'
 |succ n ih=>
  intro l r h;cases l with
  |nil=>cases h
  |cons x xs=>
   have h':ob (fO n vs xs) (λr=>some (x::r))=some r:=h;obtain⟨a,ha,hr⟩:=aw h';obtain⟨h1,h2⟩:=ih ha;simp at hr;refine⟨by simp;omega,?_⟩;have e:n+1+vs.length=(n+vs.length)+1:=by omega
   rw[<-hr,h2,e,x_5,List.drop_succ_cons,xB,xB]
theorem gP (v:Value):bW v=v.cells.toList:=by
 unfold bW Value.cells;split<;>simp_all
theorem l9 (l:aQ):jj l=true↔∀v∈l,flat v=true:=by
 induction l with
 |nil=>simp[jj]
 |cons x xs ih=>
  have h:jj (x::xs)=bo (flat x) (jj xs) false:=rfl;rw[h,ek];by_cases hx:flat x=true<;>simp[hx,ih]
abbrev fP:=Nat->Nat×Nat
def dE (q:Nat×Nat)(c:Nat):Nat:=if eL<=c then q.2-(c-eL) else c
mutual
def bZ (ρ:fP):Value->Value
 |.agg ⟨cs⟩=>.agg ⟨Ax ρ cs⟩
 |.tuple ⟨cs⟩=>.tuple ⟨Ax ρ cs⟩
 |.func fn ⟨f⟩ ⟨c⟩=>.func fn ⟨Ax ρ f⟩ ⟨Ax ρ c⟩
 |.iface t v=>.iface t (bZ ρ v)
 |.pointer (some ⟨b,o,s⟩)=>.pointer (some ⟨(ρ b).1,o,s⟩)
 |.slice (some ⟨b,o,none⟩) l c=>.slice (some ⟨(ρ b).1,o,none⟩) l (dE (ρ b) c)
 |.slice (some ⟨b,o,some q⟩) l c=>.slice (some ⟨(ρ b).1,if dE (ρ b) c=0 then q else o,none⟩) l (dE (ρ b) c)
 |.map (some r)=>.map (some (ρ r).1)
 |.bool b=>.bool b
 |.int k n=>.int k n
 |.float k n=>.float k n
 |.complex k a b=>.complex k a b
 |.string s=>.string s
 |.pointer none=>.pointer none
 |.slice none l c=>.slice none l c
 |.map none=>.map none
 |.chan r=>.chan r
 |.nilFunc=>.nilFunc
 |.nilIface=>.nilIface
def Ax (ρ:fP):aQ->aQ
 |[]=>[]
 |v::vs=>bZ ρ v::Ax ρ vs
end
theorem xV (ρ:fP)(l:aQ):Ax ρ l=l.map (bZ ρ):=by
 induction l with
 |nil=>simp[Ax]
 |cons v vs ih=>simp[Ax,ih]
@[simp] theorem Up (ρ:fP)(cs:aQ):bZ ρ (.agg ⟨cs⟩)= .agg ⟨cs.map (bZ ρ)⟩:=by simp[bZ,xV]
@[simp] theorem Nf (ρ:fP)(cs:aQ):bZ ρ (.tuple ⟨cs⟩)= .tuple ⟨cs.map (bZ ρ)⟩:=by simp[bZ,xV]
@[simp] theorem Rc (ρ:fP)(fn:Fn)(f c:aQ):bZ ρ (.func fn ⟨f⟩ ⟨c⟩)= .func fn ⟨f.map (bZ ρ)⟩ ⟨c.map (bZ ρ)⟩:=by simp[bZ,xV]
theorem mJ (ρ:fP)(b o:Nat)(s:Option Nat):bZ ρ (.pointer (some ⟨b,o,s⟩))= .pointer (some ⟨(ρ b).1,o,s⟩):=by simp[bZ]
theorem eD (ρ:fP)(b o l c:Nat):bZ ρ (.slice (some ⟨b,o,none⟩) l c)= .slice (some ⟨(ρ b).1,o,none⟩) l (dE (ρ b) c):=by simp[bZ]
theorem JY (ρ:fP)(b o q l c:Nat):bZ ρ (.slice (some ⟨b,o,some q⟩) l c)= .slice (some ⟨(ρ b).1,if dE (ρ b) c=0 then q else o,none⟩) l (dE (ρ b) c):=by simp[bZ]
theorem rL (ρ:fP)(a:Addr)(l c:Nat):∃a',bZ ρ (.slice (some a) l c)= .slice (some a') l (dE (ρ a.block) c):=by
 obtain⟨b,o,_|q⟩:=a
 .exact⟨_,eD ρ b o l c⟩
 .exact⟨_,JY ρ b o q l c⟩
theorem FO (ρ:fP)(b:Nat):bZ ρ (.map (some b))= .map (some (ρ b).1):=by simp[bZ]
@[simp] theorem u0 (ρ:fP)(b:Bool):bZ ρ (.bool b)= .bool b:=by simp[bZ]
@[simp] theorem xW (ρ:fP)(k:IntKind)(n:Int):bZ ρ (.int k n)= .int k n:=by simp[bZ]
@[simp] theorem vmap_string (ρ:fP)(s:ByteArray):bZ ρ (.string s)= .string s:=by simp[bZ]
@[simp] theorem FP (ρ:fP):bZ ρ (.pointer none)= .pointer none:=by simp[bZ]
@[simp] theorem vmap_slice0 (ρ:fP)(l c:Nat):bZ ρ (.slice none l c)= .slice none l c:=by simp[bZ]
@[simp] theorem sG (ρ:fP):bZ ρ .nilFunc= .nilFunc:=by simp[bZ]
@[simp] theorem EL (ρ:fP):bZ ρ .nilIface= .nilIface:=by simp[bZ]
theorem wC (ρ:fP)(v:Value):(bZ ρ v).cells.toList=v.cells.toList.map (bZ ρ):=by
 cases v<;>try(simp[bZ,Value.cells];done)
 .rename_i a;cases a<;>simp[bZ,Value.cells]
 .rename_i a l c;cases a with
  |none=>simp[bZ,Value.cells]
  |some a=>
   obtain⟨a',h⟩:=rL ρ a l c;rw[h];simp[Value.cells,h]
 .rename_i a;cases a<;>simp[bZ,Value.cells]
 .rename_i cs;obtain⟨cs⟩:=cs;simp[bZ,xV,Value.cells]
theorem Re (ρ:fP)(v:Value):flat (bZ ρ v)=flat v:=by
 cases v<;>try(simp[bZ,flat];done)
 .rename_i a;cases a<;>simp[bZ,flat]
 .rename_i a l c;cases a with
  |none=>simp[bZ,flat]
  |some a=>
   obtain⟨a',h⟩:=rL ρ a l c;rw[h];simp[flat]
 .rename_i a;cases a<;>simp[bZ,flat]
def FQ (A:Nat->Prop)(ρ eF:fP):Prop:=∀i,A i->eF i=ρ i
def VR (A:Nat->Prop)(ρ:fP)(v v':Value):Prop:=∀eF,FQ A ρ eF->bZ eF v=v'
def LR (A:Nat->Prop)(ρ:fP)(l l':aQ):Prop:=∀eF,FQ A ρ eF->l.map (bZ eF)=l'
section
variable {A B:Nat->Prop}{ρ Bv:fP}{v v':Value}{l l':aQ}
theorem FQ.refl (A:Nat->Prop)(ρ:fP):FQ A ρ ρ:=λ_ _=>rfl
theorem VR.self (h:VR A ρ v v'):bZ ρ v=v':=h ρ (FQ.refl A ρ)
theorem LR.self (h:LR A ρ l l'):l.map (bZ ρ)=l':=h ρ (FQ.refl A ρ)
theorem VR.mono (h:VR A ρ v v')(hA:∀i,A i->B i)(xx:∀i,A i->Bv i=ρ i):VR B Bv v v':=λeF h'=>h eF λi hi=>(h' i (hA i hi)).trans (xx i hi)
theorem LR.mono (h:LR A ρ l l')(hA:∀i,A i->B i)(xx:∀i,A i->Bv i=ρ i):LR B Bv l l':=λeF h'=>h eF λi hi=>(h' i (hA i hi)).trans (xx i hi)
theorem LR.length (h:LR A ρ l l'):l'.length=l.length:=by rw[<-h.self,vL]
theorem LR.nil:LR A ρ [] []:=λ_ _=>rfl
theorem LR.cons (h:VR A ρ v v')(k:LR A ρ l l'):LR A ρ (v::l) (v'::l'):=λeF e=>by simp[h eF e,k eF e]
theorem LR.js (h:LR A ρ (v::l) l'):∃u us,l'=u::us/\VR A ρ v u/\LR A ρ l us:=by
 refine⟨bZ ρ v,l.map (bZ ρ),by rw[<-h.self];rfl,λeF e=>?_,λeF e=>?_⟩
 .have:=(h eF e).trans h.self.symm;simp at this;exact this.1
 .have:=(h eF e).trans h.self.symm;simp only[xC,List.cons.injEq] at this;exact this.2
theorem LR.get {i:Nat}{u:Value}(h:LR A ρ l l')(hu:l[i]?=some u):∃u',l'[i]?=some u'/\VR A ρ u u':=by
 refine⟨bZ ρ u,by rw[<-h.self];simp[hu],λeF e=>?_⟩;have:=gb (·[i]?) ((h eF e).trans h.self.symm);simpa[hu] using this
theorem LR.take (n:Nat)(h:LR A ρ l l'):LR A ρ (l.take n) (l'.take n):=λeF e=>by rw[<-h eF e,List.map_take]
theorem LR.drop (n:Nat)(h:LR A ρ l l'):LR A ρ (l.drop n) (l'.drop n):=λeF e=>by rw[<-h eF e,List.map_drop]
theorem LR.append {m m':aQ}(h:LR A ρ l l')(k:LR A ρ m m'):LR A ρ (l++m) (l'++m'):=λeF e=>by rw[<-h eF e,<-k eF e,Jw]
theorem VR.agg (h:LR A ρ l l'):VR A ρ (.agg ⟨l⟩) (.agg ⟨l'⟩):=λeF e=>by simp[h eF e]
theorem VR.tuple (h:LR A ρ l l'):VR A ρ (.tuple ⟨l⟩) (.tuple ⟨l'⟩):=λeF e=>by simp[h eF e]
theorem VR.PE (h:VR A ρ (.agg ⟨l⟩) v'):∃l',v'= .agg ⟨l'⟩/\LR A ρ l l':=by
 refine' za9
theorem VR.Zd (h:VR A ρ (.tuple ⟨l⟩) v'):∃l',v'= .tuple ⟨l'⟩/\LR A ρ l l':=by
 refine' za9
theorem VR.Ch {fn:Fn}{f c:aQ}(h:VR A ρ (.func fn ⟨f⟩ ⟨c⟩) v'):∃f' c',v'= .func fn ⟨f'⟩ ⟨c'⟩/\LR A ρ f f'/\LR A ρ c c':=by
 refine⟨f.map (bZ ρ),c.map (bZ ρ),by rw[<-h.self];simp,λeF e=>?_,λeF e=>?_⟩<;>
 .have:=(h eF e).trans h.self.symm;simp at this;first|exact EI (λx hx=>this.1 x hx)|exact EI (λx hx=>this.2 x hx)
theorem VR.func {fn:Fn}{f c f' c':aQ}(h:LR A ρ f f')(k:LR A ρ c c'):VR A ρ (.func fn ⟨f⟩ ⟨c⟩) (.func fn ⟨f'⟩ ⟨c'⟩):=λeF e=>by simp[h eF e,k eF e]
theorem VR.cells (h:VR A ρ v v'):LR A ρ v.cells.toList v'.cells.toList:=λeF e=>by rw[<-wC,h eF e]
theorem LR.jj (h:LR A ρ l l')(hf:∀v∈l,flat v=true):∀v∈l',flat v=true:=by
 rw[<-h.self];intro v hv;obtain⟨u,hu,rfl⟩:=n9.1 hv;rw[Re];exact hf u hu
theorem VR.ground (h:∀ρ,bZ ρ v=v):VR A ρ v v:=λeF _=>h eF
theorem VR.bool (b:Bool):VR A ρ (.bool b) (.bool b):=VR.ground (by simp)
theorem VR.int (k:IntKind)(n:Int):VR A ρ (.int k n) (.int k n):=VR.ground (by simp)
theorem VR.str (s:ByteArray):VR A ρ (.string s) (.string s):=VR.ground (by simp)
theorem VR.undef:VR A ρ (.tuple ⟨[]⟩) (.tuple ⟨[]⟩):=VR.ground (by simp)
theorem VR.ptr {b o:Nat}{s:Option Nat}(h:A b):VR A ρ (.pointer (some ⟨b,o,s⟩)) (.pointer (some ⟨(ρ b).1,o,s⟩)):=λeF e=>by rw[mJ,e b h]
theorem VR.slice {b o l c:Nat}(h:A b):VR A ρ (.slice (some ⟨b,o,none⟩) l c) (.slice (some ⟨(ρ b).1,o,none⟩) l (dE (ρ b) c)):=λeF e=>by rw[eD,e b h]
theorem VR.mapv {b:Nat}(h:A b):VR A ρ (.map (some b)) (.map (some (ρ b).1)):=λeF e=>by rw[FO,e b h]
theorem VR.ma {k:IntKind}{n:Int}(h:VR A ρ (.int k n) v'):v'= .int k n:=by rw[<-h.self];simp
theorem VR.sH {b:Bool}(h:VR A ρ (.bool b) v'):v'= .bool b:=by rw[<-h.self];simp
theorem VR.uc {s:ByteArray}(h:VR A ρ (.string s) v'):v'= .string s:=by rw[<-h.self];simp
end
def dn (A:Nat->Prop)(n m:Nat):Nat->Prop:=λi=>A i\/(n<=i/\i<m)
def Ci (P:Program)(A:Nat->Prop)(ρ:fP)(q:Nat×Nat):gh->Obj->Prop
 |.cells c e w,x=>∃(c' aL:aQ)(fr:Nat×Nat),x= .cells ⟨c'++aL⟩ e fr/\LR A ρ c c'/\
    (w=true->fr=(0,0)/\c.length+aL.length=q.2*P.cellsOf e/\0<P.cellsOf e/\q.2<=maxLen)/\
    (w=false->((aL=[]/\fr=(0,0))\/(P.underlying e=some (.int .u8)/\P.cellsOf e=1/\c.length+aL.length<=fr.1))/\c.length<=q.2)
 |.map es,x=>∃(xs:List MapEntry)(k:Nat),x= .map ⟨xs⟩ k/\LR A ρ (es.map (·.1)) (xs.map (·.key))/\LR A ρ (es.map (·.2)) (xs.map (·.val))
 |.lA z p,x=>x= .stringIter ⟨⟨z⟩⟩ p
 |.xL o c,x=>∃(pre c' aL:aQ)(t:TypeId)(fr:Nat×Nat),x= .cells ⟨pre++(c'++aL)⟩ t fr/\pre.length=o/\LR A ρ c c'
 |.tC m,x=>A m/\∃since dq,x= .mapIter (some (ρ m).1) since #[] dq
theorem Ci.mono {P:Program}{A B:Nat->Prop}{ρ Bv:fP}{q:Nat×Nat}{o:gh}{x:Obj}(h:Ci P A ρ q o x)(hA:∀i,A i->B i)(xx:∀i,A i->Bv i=ρ i):Ci P B Bv q o x:=by
 cases o with
 |cells c e w=>obtain⟨c',aL,fr,h1,h2,h3,h4⟩:=h;exact⟨c',aL,fr,h1,h2.mono hA xx,h3,h4⟩
 |map es=>obtain⟨xs,k,h1,h2,h3⟩:=h;exact⟨xs,k,h1,h2.mono hA xx,h3.mono hA xx⟩
 |lA z p=>exact h
 |xL o c=>obtain⟨pre,c',aL,t,fr,h1,h0,h2⟩:=h;exact⟨pre,c',aL,t,fr,h1,h0,h2.mono hA xx⟩
 |tC m=>obtain⟨h1,since,dq,h2⟩:=h;exact⟨hA m h1,since,dq,by rw[xx m h1];exact h2⟩
structure fK (P:Program)(X A:Nat->Prop)(ρ:fP)(g:Nat->Option gh)(w:World):Prop where
 fy:∀b o,X b->g b=some o->A b/\∃x,w.heap[(ρ b).1]?=some x/\Ci P A ρ (ρ b) o x
 inj:∀b b' o o',X b->X b'->g b=some o->g b'=some o'->(ρ b).1=(ρ b').1->b=b'
structure Fr (w w':World)(touch:Nat->Prop):Prop where
 os:w'.os=w.os
 tape:w'.tape=w.tape
 output:w'.output=w.output
 size:w.heap.size<=w'.heap.size
 block:∀r,r<w.heap.size->¬touch r->w'.heap[r]?=w.heap[r]?
theorem Fr.refl (w:World)(t:Nat->Prop):Fr w w t:=⟨rfl,rfl,rfl,cy _,λ_ _ _=>rfl⟩
abbrev In (m b:Nat):Prop:=m.testBit b=true
structure Good (P:Program)(X A:Nat->Prop)(ρ:fP)(s s':St)(w w':World)(eF:fP):Prop where
 next:s.next<=s'.next
 same:∀i,¬(s.next<=i/\i<s'.next)->eF i=ρ i
 state:fK P X (dn A s.next s'.next) eF s'.heap.get w'
 fQ:Fr w w' λr=>∃b o,In s'.wr b/\X b/\s.heap.get b=some o/\(ρ b).1=r
 old:∀b,b<s.next->s'.heap.get b≠none->s.heap.get b≠none
 bD:∀b,s.next<=b->b<s'.next->s'.heap.get b≠none->w.heap.size<=(eF b).1\/∃c o,In s'.wr c/\X c/\s.heap.get c=some o/\(eF b).1=(ρ c).1
 kept:∀b,b<s.next->¬In s'.wr b->s'.heap.get b=s.heap.get b
 ec:∀b,s'.next<=b->s'.heap.get b=none
structure az (s s':St):Prop where
 next:s.next<=s'.next
 cM:∀b,In s.cM b->In s'.cM b
 wr:∀b,In s.wr b->In s'.wr b
 made:∀b,s.next<=b->b<s'.next->In s'.wr b
 sub:(∀b,In s.wr b->In s.cM b)->∀b,In s'.wr b->In s'.cM b
 kept:∀b,b<s.next->¬In s'.wr b->s'.heap.get b=s.heap.get b
 ec:(∀b,s.next<=b->s.heap.get b=none)->∀b,s'.next<=b->s'.heap.get b=none
theorem lt_pow (n:Nat):n+1+1<2^ (n+1+1):=@Nat.lt_two_pow_self (n+1+1)
theorem T.u1 {α:Type}(t:T α)(n m:Nat)(x:Option α):(T.set (Nat.succ n) t n x).get m=if m=n then x else t.get m:=by
 cases n with
 |zero=>
  rw[show Nat.succ 0=0+1 from rfl,T.JX];cases t<;>simp only[T.om,T.get_nil,if_true]<;>(repeat' split)<;>first|rfl|omega|simp_all
 |succ n=>exact T.PC _ _ _ _ _ (lt_pow n)
theorem gG (a b c:Nat):In (a||| bit b) c↔In a c\/c=b:=by
 have h:(a||| bit b)=a||| (1<<< b):=rfl;simp only[In,h,Nat.testBit_or,Nat.testBit_shiftLeft,mC,cv,cl];constructor
 .rintro(h|⟨h1,h2⟩)
  .exact .inl h
  .right
   have:c-b=0:=by
    rcases vC (c-b) with h|h
    .exact h
    .rw[Nat.testBit_one_eq_true_iff_self_eq_zero] at h2;exact h2
   omega
 .rintro(h|rfl)
  .exact .inl h
  .right;simp
theorem rb (a b c:Nat):In (a||| b) c↔In a c\/In b c:=by
 simp only[In,Nat.testBit_or,mC]
section
variable (s:St)(b:Nat)
@[simp] theorem iS:(s.aR b).heap=s.heap:=by cases s;simp[St.aR]
@[simp] theorem cw:(s.aR b).next=s.next:=by cases s;simp[St.aR]
@[simp] theorem Bw:(s.aR b).wr=s.wr:=by cases s;simp[St.aR]
@[simp] theorem rM:(s.aR b).cM=s.cM||| bit b:=by cases s;simp[St.aR]
@[simp] theorem qE (o:Option gh)(c:Nat):(s.put b o).heap.get c=if c=b then o else s.heap.get c:=by cases s;simp[St.put,T.u1]
@[simp] theorem dY (o:Option gh):(s.put b o).next=s.next:=by cases s;simp[St.put]
@[simp] theorem sI (o:Option gh):(s.put b o).wr=s.wr||| bit b:=by cases s;simp[St.put]
@[simp] theorem qF (o:Option gh):(s.put b o).cM=s.cM||| bit b:=by cases s;simp[St.put]
@[simp] theorem Bx (o:gh)(c:Nat):(s.new o).heap.get c=if c=s.next then some o else s.heap.get c:=by cases s;simp[St.new,T.u1]
@[simp] theorem lH (o:gh):(s.new o).next=s.next+1:=by cases s;simp[St.new]
@[simp] theorem wD (o:gh):(s.new o).wr=s.wr||| bit s.next:=by cases s;simp[St.new]
@[simp] theorem xX (o:gh):(s.new o).cM=s.cM||| bit s.next:=by cases s;simp[St.new]
end
theorem az.refl (s:St):az s s:=⟨cy _,λ_ h=>h,λ_ h=>h,λb h1 h2=>by omega,λh=>h,λ_ _ _=>rfl,λh=>h⟩
theorem az.trans {a b c:St}(h:az a b)(k:az b c):az a c:=
 ⟨ku h.next k.next,λi hi=>k.cM i (h.cM i hi),λi hi=>k.wr i (h.wr i hi),λi h1 h2=>by
  rcases kU i b.next with h3|h3
  .exact k.wr i (h.made i h1 h3)
  .exact k.made i h3 h2,λhs=>k.sub (h.sub hs),λi hi hw=>by
   rw[k.kept i (A9 hi h.next) hw,h.kept i hi λh'=>hw (k.wr i h')],λha=>k.ec (h.ec ha)⟩
theorem az.aR (s:St)(b:Nat):az s (s.aR b):=
 ⟨by simp,λi hi=>by simp only[rM,gG];exact Or.inl hi,λi hi=>by simpa using hi,λi h1 h2=>by simp at h2;omega,λhs i hi=>by simp only[rM,Bw,gG] at hi⊢;exact Or.inl (hs i hi),λi _ _=>by simp,λh=>by simpa using h⟩
theorem az.put (s:St)(b:Nat)(o:Option gh)(hb:s.heap.get b≠none):az s (s.put b o):=
 ⟨by simp,λi hi=>by simp only[qF,gG];exact Or.inl hi,λi hi=>by simp only[sI,gG];exact Or.inl hi,λi h1 h2=>by simp at h2;omega,λhs i hi=>by simp only[qF,sI,gG] at hi⊢;exact hi.imp (hs i) id,
  λi hi hw=>by rw[qE,if_neg];rintro rfl;exact hw (by rw[sI];exact(gG _ _ _).2 (.inr rfl)),
  λh i hi=>by
     rw[dY] at hi;rw[qE,if_neg];.exact h i hi
     .rintro rfl;exact hb (h _ hi)⟩
theorem az.jt (s:St)(o:gh):az s (s.new o):=
 ⟨by simp,λi hi=>by simp only[xX,gG];exact Or.inl hi,λi hi=>by simp only[wD,gG];exact Or.inl hi,λi h1 h2=>by simp only[lH,wD,gG] at h2⊢;exact Or.inr af,λhs i hi=>by simp only[xX,wD,gG] at hi⊢;exact hi.imp (hs i) id,
  λi hi hw=>by rw[Bx,if_neg af],
  λh i hi=>by rw[lH] at hi;rw[Bx,if_neg af];exact h i af⟩
section
variable {P:Program}{X A:Nat->Prop}{ρ Bb Bv:fP}{s s1 s2:St}{w w1 w2:World}
theorem fK.mono {g:Nat->Option gh}{B:Nat->Prop}(h:fK P X A ρ g w)(hA:∀i,A i->B i)(xx:∀i,A i->Bv i=ρ i):fK P X B Bv g w:=by
 refine⟨λb o hx hg=>?_,λb b' o o' hx rv hg Yy e=>?_⟩
 .obtain⟨h1,x,h2,h3⟩:=h.fy b o hx hg;refine⟨hA b h1,x,by rw[xx b h1];exact h2,?_⟩;rw[xx b h1];exact h3.mono hA xx
 .rw[xx b (h.fy b o hx hg).1,xx b' (h.fy b' o' rv Yy).1] at e;exact h.inj b b' o o' hx rv hg Yy e
theorem fK.sub {g:Nat->Option gh}{Y:Nat->Prop}(h:fK P X A ρ g w)(hY:∀i,Y i->X i):fK P Y A ρ g w:=
 ⟨λb o hx hg=>h.fy b o (hY b hx) hg,λb b' o o' hx rv hg Yy e=>h.inj b b' o o' (hY b hx) (hY b' rv) hg Yy e⟩
theorem fK.lt {g:Nat->Option gh}(h:fK P X A ρ g w){b:Nat}{o:gh}(hx:X b)(hg:g b=some o):(ρ b).1<w.heap.size:=by
 obtain⟨_,x,h2,_⟩:=h.fy b o hx hg;exact(xD.1 h2).1
theorem Good.Uq (ji:fK P X A ρ s.heap.get w)(zD:∀b,s.next<=b->s.heap.get b=none)(hn:s1.next=s.next)(hg:s1.heap=s.heap)(hw:w1.heap=w.heap)(ho:w1.os=w.os)(ht:w1.tape=w.tape)(hp:w1.output=w.output):Good P X A ρ s s1 w w1 ρ:=by
 refine⟨af,λ_ _=>rfl,?_,⟨ho,ht,hp,by rw[hw];exact cy _,λr _ _=>by rw[hw]⟩,λb _ h=>by rw[hg] at h;exact h,λb h1 h2=>by omega,λb _ _=>by rw[hg],λb hb=>by rw[hg];exact zD b af⟩;rw[hg];refine⟨λb o hx hb=>?_,ji.inj⟩;obtain⟨h1,x,h2,h3⟩:=ji.fy b o hx hb;exact⟨.inl h1,x,by rw[hw];exact h2,h3.mono (λi hi=>.inl hi) (λ_ _=>rfl)⟩
theorem Good.refl (ji:fK P X A ρ s.heap.get w)(zD:∀b,s.next<=b->s.heap.get b=none):Good P X A ρ s s w w ρ:=Good.Uq ji zD rfl rfl rfl rfl rfl rfl
theorem Good.trans (hX:∀b,In s2.cM b->X b)(Bc:az s s1)(By:az s1 s2)(hA:∀i,A i->i<s.next)(h:Good P X A ρ s s1 w w1 Bb)(k:Good P X (dn A s.next s1.next) Bb s1 s2 w1 w2 Bv):Good P X A ρ s s2 w w2 Bv:=by
 have oo:∀i,dn (dn A s.next s1.next) s1.next s2.next i->dn A s.next s2.next i:=by
  rintro i ((h1|⟨h1,h2⟩)|⟨h1,h2⟩)
  .exact .inl h1
  .exact .inr ⟨h1,A9 h2 By.next⟩
  .exact .inr ⟨ku Bc.next h1,h2⟩
 refine⟨ku Bc.next By.next,λi hi=>?_,k.state.mono oo (λ_ _=>rfl),?_,λb hb h2=>?_,λb h1 h2 h3=>?_,λb hb hw=>?_,k.ec⟩
 .rw[k.same i λh'=>hi ⟨ku Bc.next h'.1,h'.2⟩,h.same i λh'=>hi ⟨h'.1,A9 h'.2 By.next⟩]
 .refine⟨k.fQ.os.trans h.fQ.os,k.fQ.tape.trans h.fQ.tape,k.fQ.output.trans h.fQ.output,ku h.fQ.size k.fQ.size,λr hr ht=>?_⟩;rw[k.fQ.block r (A9 hr h.fQ.size) ?_,h.fQ.block r hr ?_]
  .rintro⟨b,o,hb,hx,ho,e⟩;exact ht ⟨b,o,By.wr b hb,hx,ho,e⟩
  .rintro⟨b,o,hb,hx,ho,e⟩;rcases kU b s.next with dA|Ze
   .have h3:=h.old b dA (by rw[ho];simp);obtain⟨o',Ay⟩:=Jx.1 h3;exact ht ⟨b,o',hb,hx,Ay,by rw[<-e,h.same b af]⟩
   .rcases kU b s1.next with EM|hge2
    .rcases h.bD b Ze EM (by rw[ho];simp) with h3|⟨c,o',hc,Zf,hoc,h3⟩
     .omega
     .exact ht ⟨c,o',By.wr c hc,Zf,hoc,by rw[<-e,h3]⟩
    .rw[h.ec b hge2] at ho;cases ho
 .rcases Jx.1 (k.old b (A9 hb Bc.next) h2) with⟨o,ho⟩
  exact h.old b hb (by rw[ho];simp)
 .rcases kU b s1.next with dA|Ze
  .have h4:=k.old b dA h3;rw[k.same b af];rcases h.bD b h1 dA h4 with h5|⟨c,o,hc,Zf,hoc,h5⟩
   .exact .inl h5
   .exact .inr ⟨c,o,By.wr c hc,Zf,hoc,h5⟩
  .rcases k.bD b Ze h2 h3 with h5|⟨c,o,hc,Zf,hoc,h5⟩
   .exact .inl (ku h.fQ.size h5)
   .rcases kU c s.next with dA|hge'
    .obtain⟨o',Ay⟩:=Jx.1 (h.old c dA (by rw[hoc];simp));exact .inr ⟨c,o',hc,Zf,Ay,by rw[h5,h.same c af]⟩
    .rcases kU c s1.next with EM|hge2
     .rcases h.bD c hge' EM (by rw[hoc];simp) with h6|⟨c',o',tM,hxc',hoc',h6⟩
      .exact .inl (by rw[h5];exact h6)
      .exact .inr ⟨c',o',By.wr c' tM,hxc',hoc',by rw[h5,h6]⟩
     .rw[h.ec c hge2] at hoc;cases hoc
 .rw[k.kept b (A9 hb Bc.next) hw,h.kept b hb λh'=>hw (By.wr b h')]
end
structure cS (E:dy)(P:Program):Prop where
 ty:∀t i,E.ty.get t=some i->P.info? t=some i
 fn:∀f x,E.fn.get f=some x->P.funcs[f]?=some x
 Uj:liesAt P P.depth E.Uj (2/ P.cellsOf E.Uj) 0 E.Uj 1=true
 bld8:P.underlying E.Uj≠some (.int .u8)
 eqs:∀t xs,xO t xs E.eqs=true->∀(ys:aQ)(r:Bool),gL xs ys=some r->∀w,(Op.equal t (.agg ⟨xs⟩) (.agg ⟨ys⟩)).run P w= .ok r w/\∀op ox oy,(eqGuard op t ox oy (.agg ⟨xs⟩) (.agg ⟨ys⟩)).run P w= .ok () w
 keys:∀t xs,xO t xs E.eqs=true->∀b w,(Instr.checkKey b 10000 t (.agg ⟨xs⟩)).run P w= .ok () w
 zs:∀t i z,E.ty.get t=some i->i.zero=some z->∀ρ,bZ ρ z=z
 meth:∀t m f,lQ t m E.rF=some f->∀(a:Addr)(args:Array Value) w,(callMethod (.iface t (.pointer (some a))) m args).run P w=(callFunc f (#[.pointer (some a)]++args)).run P w
 near:∀t m f,lQ t m E.rF=some f->∀(a:Addr) w,(nilAhead (P.types.size+Made.depth) t (.pointer (some a)) m).run P w= .ok (some false) w
section
variable {E:dy}{P:Program}
theorem dW (hE:cS E P){t:TypeId}{d:TypeDesc}(h:iQ E t=some d):P.underlying t=some d:=by
 obtain⟨i,hi,h⟩:=aw h;have h1:=hE.ty t i hi;unfold Program.underlying;rw[h1];unfold und1 at h;split at h
 .rename_i n u hd;obtain⟨j,hj,h⟩:=aw h;have h2:=hE.ty u j hj;obtain⟨desc,_,_,_,_,_,_,_,_,_⟩:=i;simp only at hd;subst hd;simpa[h2] using h
 .rename_i hd;obtain⟨desc,_,_,_,_,_,_,_,_,_⟩:=i;simp only at hd h⊢;cases desc<;>simp_all
theorem Bz (hE:cS E P){t:TypeId}{n:Nat}(h:size E t=some n):∃i,P.info? t=some i/\i.size=n:=by
 obtain⟨i,hi,h⟩:=aw h;exact⟨i,hE.ty t i hi,by simpa using h⟩
theorem Zg (hE:cS E P){t:TypeId}{z:Value}(h:zero E t=some z):∃i,P.info? t=some i/\i.zero=some z:=by
 obtain⟨i,hi,h⟩:=aw h;exact⟨i,hE.ty t i hi,h⟩
theorem mb (hE:cS E P){t:TypeId}{z:Value}(h:zero E t=some z)(ρ:fP):bZ ρ z=z:=by
 obtain⟨i,hi,h⟩:=aw h;exact hE.zs t i z hi h ρ
theorem u3 (hE:cS E P){t:TypeId}{d:TypeDesc}(h:iQ E t=some d)(w:World):(isAgg t).run P w= .ok (zy d) w:=by
 unfold isAgg;simp only[Sem.run_bind,run_underlying (dW hE h) w,Result.andThen_ok];cases d<;>rfl
theorem run_sizeOf (hE:cS E P){t:TypeId}{n:Nat}(h:size E t=some n)(w:World):(sizeOf t).run P w= .ok n w:=by
 obtain⟨i,h1,h2⟩:=Bz hE h;simp[sizeOf,typeInfo,h1,h2]
theorem jX (hE:cS E P){t:TypeId}{z:Value}(h:zero E t=some z)(w:World):(zeroValue t).run P w= .ok z w:=by
 obtain⟨i,h1,h2⟩:=Zg hE h;simp[zeroValue,typeInfo,h1,h2]
theorem nF (hE:cS E P){t:TypeId}{n:Nat}(h:size E t=some n):P.cellsOf t=n:=by
 obtain⟨i,h1,h2⟩:=Bz hE h;simp[Program.cellsOf,h1,h2]
end
theorem JZ (v:Value):flat v=v.oneCell':=by cases v<;>rfl
theorem add_lit (b o i:Nat):(⟨b,o,none⟩:Addr).add i=⟨b,o+i,none⟩:=by unfold Addr.add;split<;>simp_all
theorem xY {w:World}{g:Nat}{cs:aQ}{e:TypeId}{fr:Nat×Nat}(hg:w.heap[g]?=some (.cells ⟨cs⟩ e fr))(j:Nat):w.cell? ⟨g,j,none⟩=cs[j]?:=by
 simp[World.cell?,hg]
theorem iT (P:Program){w:World}{g:Nat}{cs:aQ}{e:TypeId}{fr:Nat×Nat}(hg:w.heap[g]?=some (.cells ⟨cs⟩ e fr))(o n:Nat)(h:o+n<=cs.length):
  (loadCells ⟨g,o,none⟩ n).run P w= .ok ((cs.drop o).take n).toArray w:=by
 have hl:((cs.drop o).take n).length=n:=by simp;omega
 have:=run_loadCells_list (P:=P) w ⟨g,o,none⟩ ((cs.drop o).take n) (λj v hv=>by
  rw[add_lit,xY hg];rw[Jy] at hv;split at hv
  .simpa using hv
  .cases hv)
 rwa [hl] at this
theorem re (v:Value):∀(l:aQ)(k:Nat),k<l.length->(l.set k v).take (k+1)=l.take k++[v]
 |[],k,h=>by simp at h
 |x::xs,0,_=>by simp
 |x::xs,k+1,h=>by simpa using re v xs k (by simpa using h)
theorem vU (v:Value)(l:aQ)(k m:Nat):(l.set k v).drop (k+1+m)=l.drop (k+1+m):=by
 rw[List.drop_set_of_lt af]
theorem lS (P:Program)(g o:Nat)(t:TypeId)(fz:Nat×Nat):∀(vs:aQ)(i:Nat)(cur:Array Value)(w:World),w.heap[g]?=some (.cells cur t fz)->(fz=(0,0)\/cur.size<=fz.1)->o+i+vs.length<=cur.size->(∀v∈vs,v.oneCell'=true)->
  (storeCells ⟨g,o,none⟩ vs i).run P w= .ok () (w.setRow g (cur.toList.take (o+i)++vs++cur.toList.drop (o+i+vs.length)).toArray)
 |[],i,cur,w,hg,_,_,_=>by
  simp only[storeCells,iH,mD,wo,zq,Array.toArray_toList];rw[setRow_self w g cur t fz hg];rfl
 |v::aL,i,cur,w,hg,hfz,hl,h1=>by
  have hi:o+i<cur.size:=by simp at hl;omega
  have Bd:(⟨g,o,none⟩:Addr).add i=⟨g,o+i,none⟩:=add_lit g o i;have tD:w.cell? ⟨g,o+i,none⟩=some cur[o+i]:=by simp[World.cell?,hg,hi]
  have hfro:w.frozen? ⟨g,o+i,none⟩=false:=by
   obtain⟨lo,fG⟩:=fz;simp only[World.frozen?,hg,zr,lD];rcases hfz with h|h
   .simp at h;omega
   .simp only at h;omega
  have ji:(store ((⟨g,o,none⟩:Addr).add i) v).run P w= .ok () (w.setRow g (cur.setIfInBounds (o+i) v)):=by
   rw[Bd,run_store P w _ v _ (h1 v (by simp)),tD];simp[hfro,setCell_eq_setRow w g (o+i) cur t fz v hg]
  have ih:=lS P g o t fz aL (i+1) (cur.setIfInBounds (o+i) v) (w.setRow g (cur.setIfInBounds (o+i) v)) (setRow_heap w g cur _ t _ hg) (by simpa using hfz) (by simp at hl⊢;omega) (λx hx=>h1 x (by simp[hx]));simp only[storeCells,Sem.run_bind,ji,Result.andThen_ok,ih,setRow_setRow]
  congr 3
  rw[Array.toList_setIfInBounds,show o+(i+1)=o+i+1 by omega,re _ _ _ (by simpa using hi),vU,dh,show o+i+1+aL.length=o+i+(aL.length+1) by omega];simp
section
variable {E:dy}{P:Program}{X A:Nat->Prop}{ρ:fP}{s s':St}{w:World}
theorem mK {β:Type}{k:aQ->TypeId->Bool->St->Option β}{b:Nat}{r:β}(h:s.row b k=some r):∃c e u,s.heap.get b=some (.cells c e u)/\k c e u (s.aR b)=some r:=by
 obtain⟨o,h1,h2⟩:=aw h;cases o with
 |cells c e u=>exact⟨c,e,u,h1,h2⟩
 |map es=>cases h2
 |lA z p=>cases h2
 |tC m=>cases h2
 |xL o c=>cases h2
theorem fK.row (h:fK P X A ρ s.heap.get w){b:Nat}{c:aQ}{e:TypeId}{u:Bool}(hx:X b)(hg:s.heap.get b=some (.cells c e u)):
  A b/\∃(c' aL:aQ)(fr:Nat×Nat),w.heap[(ρ b).1]?=some (.cells ⟨c'++aL⟩ e fr)/\LR A ρ c c'/\c'.length=c.length/\(fr=(0,0)\/(c'++aL).length<=fr.1)/\
    (u=true->fr=(0,0)/\c.length+aL.length=(ρ b).2*P.cellsOf e/\0<P.cellsOf e/\(ρ b).2<=maxLen)/\
    (u=false->((aL=[]/\fr=(0,0))\/(P.underlying e=some (.int .u8)/\P.cellsOf e=1/\c.length+aL.length<=fr.1))/\c.length<=(ρ b).2):=by
 obtain⟨h1,x,h2,c',aL,fr,rfl,h3,h4,h5⟩:=h.fy b _ hx hg;refine⟨h1,c',aL,fr,h2,h3,h3.length,?_,h4,h5⟩;cases u with
 |true=>exact .inl (h4 rfl).1
 |false=>rcases(h5 rfl).1 with h6|h6
         .exact .inl h6.2
         .exact .inr (by rw[bR,h3.length];exact h6.2.2)
theorem Zh {β:Type}{k:aQ->Nat->St->Option β}{b off:Nat}{r:β}(h:s.JQ b off k=some r):∃c m,((m=0/\∃e u,s.heap.get b=some (.cells c e u))\/s.heap.get b=some (.xL m c))/\m<=off/\k c (off-m) (s.aR b)=some r:=by
 obtain⟨o,h1,h2⟩:=aw h;cases o with
 |cells c e u=>exact⟨c,0,.inl ⟨rfl,e,u,h1⟩,jG _,h2⟩
 |map es=>cases h2
 |lA z p=>cases h2
 |tC m=>cases h2
 |xL m c=>
  obtain⟨h3,h4⟩:=bg h2;exact⟨c,m,.inr h1,qq h3,h4⟩
theorem fK.JQ (h:fK P X A ρ s.heap.get w){b m:Nat}{c:aQ}(hx:X b)(hg:(m=0/\∃e u,s.heap.get b=some (.cells c e u))\/s.heap.get b=some (.xL m c)):
  A b/\∃(pre c' aL:aQ)(e:TypeId)(fr:Nat×Nat),w.heap[(ρ b).1]?=some (.cells ⟨pre++(c'++aL)⟩ e fr)/\pre.length=m/\LR A ρ c c'/\c'.length=c.length:=by
 rcases hg with⟨rfl,e,u,hg⟩|hg
 .obtain⟨h1,c',aL,fr,h2,h3,h4,_⟩:=h.row hx hg;exact⟨h1,[],c',aL,e,fr,h2,rfl,h3,h4⟩
 .obtain⟨h1,x,h2,pre,c',aL,t,fr,rfl,h0,h3⟩:=h.fy b _ hx hg;exact⟨h1,pre,c',aL,t,fr,h2,h0,h3,h3.length⟩
theorem J0 (hE:cS E P){t:TypeId}{b off:Nat}{v:Value}(h:l6 E s t b off=some (v,s')):
  s'=s.aR b/\∀X A ρ w,X b->fK P X A ρ s.heap.get w->∃v',(loadVar t ⟨(ρ b).1,off,none⟩).run P w= .ok v' w/\VR A ρ v v':=by
 obtain⟨c,m,hg,hm,h⟩:=Zh h;obtain⟨d,hd,h⟩:=aw h;cases ha:zy d with
 |true=>
  rw[ha] at h;obtain⟨n,hn,h⟩:=aw h;obtain⟨cs,tN,h⟩:=aw h;simp only[rA,cx] at h;obtain⟨rfl,rfl⟩:=h;refine⟨rfl,λX A ρ w hx ji=>?_⟩;obtain⟨h1,pre,c',aL,e,fr,h2,h0,h3,h4⟩:=ji.JQ hx hg;rw[pL] at tN;obtain⟨h5,rfl⟩:=kC tN;rw[gp] at h5;rcases vC n with rfl|xy
  .refine⟨.agg #[],?_,?_⟩
   .unfold loadVar;simp only[Sem.run_bind,u3 hE hd,ha,Result.andThen_ok,if_true,run_sizeOf hE hn];rfl
   .simpa using VR.agg (LR.nil (A:=A) (ρ:=ρ))
  .refine⟨.agg ⟨(c'.drop (off-m)).take n⟩,?_,?_⟩
   .unfold loadVar;simp only[Sem.run_bind,u3 hE hd,ha,Result.andThen_ok,if_true,run_sizeOf hE hn];rw[iT P h2 off n (by simp;omega)];have:((pre++(c'++aL)).drop off).take n=(c'.drop (off-m)).take n:=by
     rw[List.drop_append,zt af,oa,h0,Q3 af,BZ (by simp;omega)]
    rw[this];rfl
   .exact VR.agg ((h3.drop (off-m)).take n)
 |false=>
  rw[ha] at h;obtain⟨v0,hv,h⟩:=aw h;simp only[rA,cx] at h;obtain⟨rfl,rfl⟩:=h;refine⟨rfl,λX A ρ w hx ji=>?_⟩;obtain⟨h1,pre,c',aL,e,fr,h2,h0,h3,h4⟩:=ji.JQ hx hg;rw[dQ] at hv;obtain⟨v',hv',hr⟩:=h3.get hv;refine⟨v',?_,hr⟩;have hc:w.cell? ⟨(ρ b).1,off,none⟩=some v':=by
   rw[xY h2,zu af,h0,wq (by
    have:=(tL.1 hv').1;omega)]
   exact hv'
  unfold loadVar;simp only[Sem.run_bind,u3 hE hd,ha,Result.andThen_ok,oV,jH];simp[load,Sem.run,hc]
end
def fP.at (ρ:fP)(n:Nat)(q:Nat×Nat):fP:=λi=>if i=n then q else ρ i
@[simp] theorem fP.qG (ρ:fP)(n:Nat)(q:Nat×Nat):ρ.at n q n=q:=by simp[fP.at]
theorem fP.tE (ρ:fP){n i:Nat}(q:Nat×Nat)(h:i≠n):ρ.at n q i=ρ i:=by simp[fP.at,h]
section
variable {P:Program}{X A:Nat->Prop}{ρ:fP}{s s':St}{w w':World}
theorem Good.aZ {b:Nat}{o o':gh}{x':Obj}(ji:fK P X A ρ s.heap.get w)(lT:∀b,s.next<=b->s.heap.get b=none)(hx:X b)(hg:s.heap.get b=some o)
  (fb:∀c,s'.heap.get c=if c=b then some o' else s.heap.get c)(Ur:s'.next=s.next)(nG:In s'.wr b)
  (rv:w'.heap[(ρ b).1]?=some x')(ho:Ci P A ρ (ρ b) o' x')(hf:Fr w w' λr=>r=(ρ b).1):Good P X A ρ s s' w w' ρ:=by
 have hbn:b<s.next:=by
  rcases kU b s.next with h|h
  .exact h
  .rw[lT b h] at hg;cases hg
 have key:∀c o2,X c->s'.heap.get c=some o2->∃o3,s.heap.get c=some o3:=by
  intro c o2 _ h;rw[fb] at h;split at h
  .subst c;exact⟨o,hg⟩
  .exact⟨o2,h⟩
 refine⟨af,λ_ _=>rfl,⟨λc o2 hc h=>?_,λc c' o2 o3 hc tM h h' e=>?_⟩,⟨hf.os,hf.tape,hf.output,hf.size,λr hr ht=>hf.block r hr λe=>ht ⟨b,o,nG,hx,hg,e.symm⟩⟩,λc hc h=>?_,λc h1 h2=>by omega,λc hc hw=>?_,λc hc=>?_⟩
 .rw[fb] at h;split at h
  .subst c;cases h
   exact⟨.inl (ji.fy b o hx hg).1,x',rv,ho.mono (λi hi=>.inl hi) (λ_ _=>rfl)⟩
  .rename_i gx;obtain⟨h1,x,h2,h3⟩:=ji.fy c o2 hc h;refine⟨.inl h1,x,?_,h3.mono (λi hi=>.inl hi) (λ_ _=>rfl)⟩;rw[hf.block _ (xD.1 h2).1 (λe=>gx (ji.inj c b o2 o hc hx h hg e))];exact h2
 .obtain⟨o4,h4⟩:=key c o2 hc h;obtain⟨o5,h5⟩:=key c' o3 tM h';exact ji.inj c c' o4 o5 hc tM h4 h5 e
 .rw[fb] at h;split at h
  .subst c;rw[hg];simp
  .exact h
 .rw[fb,if_neg];rintro rfl;exact hw nG
 .rw[fb,if_neg af];exact lT c af
theorem Good.alloc {o:gh}{x:Obj}{q:Nat×Nat}(ji:fK P X A ρ s.heap.get w)(lT:∀b,s.next<=b->s.heap.get b=none)(hA:∀i,A i->i<s.next)
  (fb:∀c,s'.heap.get c=if c=s.next then some o else s.heap.get c)(Ur:s'.next=s.next+1)(nG:In s'.wr s.next)
  (hq:w.heap.size<=q.1)(hx:w'.heap[q.1]?=some x)(ho:Ci P A ρ q o x)(hf:Fr w w' λ_=>False):Good P X A ρ s s' w w' (ρ.at s.next q):=by
 have xx:∀i,A i->ρ.at s.next q i=ρ i:=λi hi=>fP.tE ρ q (by have:=hA i hi;omega)
 have dA:∀c o2,X c->s.heap.get c=some o2->(ρ c).1<w.heap.size:=λc o2 hc h=>ji.lt hc h
 refine' zba
 refine⟨af,λi hi=>fP.tE ρ q af,⟨λc o2 hc h=>?_,λc c' o2 o3 hc tM h h' e=>?_⟩,⟨hf.os,hf.tape,hf.output,hf.size,λr hr ht=>hf.block r hr λe=>e⟩,λc hc h=>?_,λc h1 h2 h3=>?_,λc hc hw=>?_,λc hc=>?_⟩
 .rw[fb] at h;split at h
  .subst c;cases h
   rw[fP.qG];exact⟨.inr ⟨cy _,af⟩,x,hx,ho.mono (λi hi=>.inl hi) xx⟩
  .obtain⟨h1,y,h2,h3⟩:=ji.fy c o2 hc h;rw[xx c h1];refine⟨.inl h1,y,?_,h3.mono (λi hi=>.inl hi) xx⟩;rw[hf.block _ (xD.1 h2).1 (λe=>e)];exact h2
 .rw[fb] at h h';split at h<;>split at h'
  .omega
  .subst c;rw[fP.qG,fP.tE ρ q (gx c' o3 h')] at e;have:=dA c' o3 tM h';omega
  .subst c';rw[fP.qG,fP.tE ρ q (gx c o2 h)] at e;have:=dA c o2 hc h;omega
  .rw[fP.tE ρ q (gx c o2 h),fP.tE ρ q (gx c' o3 h')] at e;exact ji.inj c c' o2 o3 hc tM h h' e
 .rw[fb,if_neg af] at h;exact h
 .have:c=s.next:=by omega
  subst c;rw[fP.qG];exact .inl hq
 .rw[fb,if_neg af]
 .rw[fb,if_neg af];exact lT c af
theorem Good.renew {b:Nat}{o o':gh}{x':Obj}(ji:fK P X A ρ s.heap.get w)(lT:∀b,s.next<=b->s.heap.get b=none)(hA:∀i,A i->i<s.next)(hx:X b)(hg:s.heap.get b=some o)
  (fb:∀c,s'.heap.get c=if c=s.next then some o' else if c=b then none else s.heap.get c)(Ur:s'.next=s.next+1)(nG:In s'.wr b)(hwn:In s'.wr s.next)
  (rv:w'.heap[(ρ b).1]?=some x')(ho:Ci P A ρ (ρ b) o' x')(hf:Fr w w' λr=>r=(ρ b).1):Good P X A ρ s s' w w' (ρ.at s.next (ρ b)):=by
 have xx:∀i,A i->ρ.at s.next (ρ b) i=ρ i:=λi hi=>fP.tE ρ (ρ b) (by have:=hA i hi;omega)
 refine' zba
 refine⟨af,λi hi=>fP.tE ρ _ af,⟨λc o2 hc h=>?_,λc c' o2 o3 hc tM h h' e=>?_⟩,⟨hf.os,hf.tape,hf.output,hf.size,λr hr ht=>hf.block r hr λe=>ht ⟨b,o,nG,hx,hg,e.symm⟩⟩,λc hc h=>?_,λc h1 h2 h3=>?_,λc hc hw=>?_,λc hc=>?_⟩
 .rw[fb] at h;split at h
  .subst c;cases h
   rw[fP.qG];exact⟨.inr ⟨cy _,af⟩,x',rv,ho.mono (λi hi=>.inl hi) xx⟩
  .split at h
   .cases h
   .rename_i hcb;obtain⟨h1,y,h2,h3⟩:=ji.fy c o2 hc h;rw[xx c h1];refine⟨.inl h1,y,?_,h3.mono (λi hi=>.inl hi) xx⟩;rw[hf.block _ (xD.1 h2).1 (λe=>hcb (ji.inj c b o2 o hc hx h hg e))];exact h2
 .rw[fb] at h h';split at h<;>split at h'
  .omega
  .subst c;split at h'
   .cases h'
   .rename_i hcb;rw[fP.qG,fP.tE ρ _ (gx c' o3 h')] at e;exact absurd (ji.inj c' b o3 o tM hx h' hg e.symm) hcb
  .subst c';split at h
   .cases h
   .rename_i hcb;rw[fP.qG,fP.tE ρ _ (gx c o2 h)] at e;exact absurd (ji.inj c b o2 o hc hx h hg e) hcb
  .split at h
   .cases h
   .split at h'
    .cases h'
    .rw[fP.tE ρ _ (gx c o2 h),fP.tE ρ _ (gx c' o3 h')] at e;exact ji.inj c c' o2 o3 hc tM h h' e
 .rw[fb,if_neg af] at h;split at h
  .exact absurd rfl h
  .exact h
 .have:c=s.next:=by omega
  subst c;rw[fP.qG];exact .inr ⟨b,o,nG,hx,hg,rfl⟩
 .rw[fb,if_neg af,if_neg];rintro rfl;exact hw nG
 .rw[fb,if_neg af];split
  .rfl
  .exact lT c af
theorem Good.drop {b:Nat}(ji:fK P X A ρ s.heap.get w)(lT:∀b,s.next<=b->s.heap.get b=none)
  (fb:∀c,s'.heap.get c=if c=b then none else s.heap.get c)(Ur:s'.next=s.next)(nG:In s'.wr b){o:gh}(hx:X b)(hg:s.heap.get b=some o)
  (hf:Fr w w' λr=>r=(ρ b).1):Good P X A ρ s s' w w' ρ:=by
 refine⟨af,λi hi=>rfl,⟨λc o2 hc h=>?_,λc c' o2 o3 hc tM h h' e=>?_⟩,⟨hf.os,hf.tape,hf.output,hf.size,λr hr ht=>hf.block r hr λe=>ht ⟨b,o,nG,hx,hg,e.symm⟩⟩,λc hc h=>?_,λc h1 h2 h3=>by omega,λc hc hw=>?_,λc hc=>?_⟩
 .rw[fb] at h;split at h
  .cases h
  .rename_i hcb;obtain⟨h1,y,h2,h3⟩:=ji.fy c o2 hc h;refine⟨.inl h1,y,?_,h3.mono (λi hi=>.inl hi) (λ_ _=>rfl)⟩;rw[hf.block _ (xD.1 h2).1 (λe=>hcb (ji.inj c b o2 o hc hx h hg e))];exact h2
 .rw[fb] at h h';split at h
  .cases h
  .split at h'
   .cases h'
   .exact ji.inj c c' o2 o3 hc tM h h' e
 .rw[fb] at h;split at h
  .exact absurd rfl h
  .exact h
 .rw[fb,if_neg];rintro rfl;exact hw nG
 .rw[fb];split
  .rfl
  .exact lT c af
theorem Fr.alloc (w:World)(o:Obj):Fr w (w.alloc o) λ_=>False:=⟨rfl,rfl,rfl,by simp,λr hr _=>by first|exact heap_alloc_old w o r hr|exact heap_alloc_old w o hr⟩
theorem Fr.FR (w:World)(o:Obj):Fr w (w.drew.alloc o) λ_=>False:=⟨rfl,rfl,rfl,by simp,λr hr _=>by first|exact heap_alloc_old w.drew o r hr|exact heap_alloc_old w.drew o hr⟩
theorem Fr.setRow (w:World)(g:Nat)(cs:Array Value):Fr w (w.setRow g cs) λr=>r=g:=⟨rfl,rfl,rfl,by simp,λr _ h=>setRow_other w g r cs h⟩
end
def Gl (A:Nat->Prop)(ρ:fP):Prop:=∀g,g<16->A g/\(ρ g).1=g
structure oN (P:Program)(X A:Nat->Prop)(ρ:fP)(s s':St)(w:World):Prop where
 lt:∀i,A i->i<s.next
 ec:∀b,s.next<=b->s.heap.get b=none
 cM:∀b,In s'.cM b->X b
 st:fK P X A ρ s.heap.get w
def cA (P:Program)(X A:Nat->Prop)(ρ:fP)(s s':St)(w:World)(v:Value)(m:Sem Value):Prop:=
 ∃v' w' eF,m.run P w= .ok v' w'/\VR (dn A s.next s'.next) eF v v'/\Good P X A ρ s s' w w' eF
section
variable {E:dy}{P:Program}{X A:Nat->Prop}{ρ:fP}{s s':St}{w:World}{v v':Value}{m:Sem Value}
theorem cA.same (h:oN P X A ρ s s' w)(hn:s'.next=s.next)(hg:s'.heap=s.heap)(hr:m.run P w= .ok v' w)(hv:VR A ρ v v'):cA P X A ρ s s' w v m:=
 ⟨v',w,ρ,hr,hv.mono (λi hi=>.inl hi) (λ_ _=>rfl),Good.Uq h.st h.ec hn hg rfl rfl rfl rfl⟩
theorem cA.pure (h:oN P X A ρ s s w)(hr:m.run P w= .ok v' w)(hv:VR A ρ v v'):cA P X A ρ s s w v m:=cA.same h rfl rfl hr hv
theorem gy (s:St)(b:Nat):In (s.aR b).cM b:=by rw[rM];exact(gG _ _ _).2 (.inr rfl)
theorem fe (s:St)(b:Nat)(o:Option gh):In (s.put b o).cM b:=by rw[qF];exact(gG _ _ _).2 (.inr rfl)
theorem iU (s:St)(b:Nat)(o:Option gh):In (s.put b o).wr b:=by rw[sI];exact(gG _ _ _).2 (.inr rfl)
theorem jY (s:St)(o:gh):In (s.new o).wr s.next:=by rw[wD];exact(gG _ _ _).2 (.inr rfl)
theorem pM (e:TypeId)(cs:Array Value)(w:World):(newRow e cs).run P w= .ok ⟨w.heap.size,0,none⟩ (w.alloc (.cells cs e)):=rfl
theorem PF {c:aQ}{t:TypeId}(h:Na s c t=some (v,s')):az s s'/\∀X A ρ w c',oN P X A ρ s s' w->LR A ρ c c'->cA P X A ρ s s' w v (do pure (.pointer (some (<-newRow t ⟨c'⟩)))):=by
 simp only[Na,aG,rA,cx] at h;obtain⟨rfl,rfl⟩:=h;refine⟨az.jt s _,λX A ρ w c' hp hc=>⟨.pointer (some ⟨w.heap.size,0,none⟩),w.alloc (.cells ⟨c'⟩ t),ρ.at s.next (w.heap.size,c.length),?_,?_,?_⟩⟩
 .simp only[Sem.run_bind,pM,Result.andThen_ok];rfl
 .have:=VR.ptr (A:=dn A s.next (s.new (.cells c t false)).next) (ρ:=ρ.at s.next (w.heap.size,c.length)) (b:=s.next) (o:=0) (s:=none) (.inr ⟨cy _,by simp⟩);simpa using this
 .refine Good.alloc (o:=.cells c t false) (x:=.cells ⟨c'⟩ t) hp.st hp.ec hp.lt (λc=>by simp) (by simp) (jY s _) (cy _) (heap_alloc_new w _) ?_ (Fr.alloc w _);exact⟨c',[],(0,0),by simp,hc,(λh=>by cases h),λ_=>⟨.inl ⟨rfl,rfl⟩,cy _⟩⟩
theorem Rf (hE:cS E P){t:TypeId}(h:HR E s t=some (v,s')):az s s'/\∀X A ρ w,oN P X A ρ s s' w->cA P X A ρ s s' w v (Instr.alloc t true (.tuple #[])):=by
 obtain⟨z,hz,h⟩:=aw h;obtain⟨hg,hk⟩:=PF (P:=P) h;refine⟨hg,λX A ρ w hp=>?_⟩;have hc:LR A ρ (bW z) z.cells.toList:=by rw[gP];exact(VR.ground (mb hE hz)).cells
 obtain⟨v',w',eF,h1,h2,h3⟩:=hk X A ρ w _ hp hc;refine⟨v',w',eF,?_,h2,h3⟩;rw[<-h1];unfold Instr.alloc;simp only[Sem.run_bind,jX hE hz,Result.andThen_ok];rfl
theorem HW {β:Type}{x:Value}{k:Nat->Nat->Option β}{r:β}(h:Ez x k=some r):∃b o,x= .pointer (some ⟨b,o,none⟩)/\k b o=some r:=by
 unfold Ez at h;split at h
 .exact⟨_,_,rfl,h⟩
 .cases h
theorem VR.nt {b o:Nat}{t:Option Nat}(h:VR A ρ (.pointer (some ⟨b,o,t⟩)) v'):v'= .pointer (some ⟨(ρ b).1,o,t⟩):=by rw[<-h.self,mJ]
theorem VR.gd {b o l c:Nat}(h:VR A ρ (.slice (some ⟨b,o,none⟩) l c) v'):v'= .slice (some ⟨(ρ b).1,o,none⟩) l (dE (ρ b) c):=by rw[<-h.self,eD]
theorem VR.sJ {a:Addr}{l c:Nat}(h:VR A ρ (.slice (some a) l c) v'):∃a',v'= .slice (some a') l (dE (ρ a.block) c):=by
 obtain⟨a',h1⟩:=rL ρ a l c;exact⟨a',by rw[<-h.self,h1]⟩
theorem VR.iV {l c:Nat}(h:VR A ρ (.slice none l c) v'):v'= .slice none l c:=by rw[<-h.self];simp
theorem Zi (hE:cS E P){t:TypeId}{a:Value}(h:(Ez a λb o=>l6 E s t b o)=some (v,s')):az s s'/\∀X A ρ w a',oN P X A ρ s s' w->VR A ρ a a'->cA P X A ρ s s' w v (Instr.loadAt t a'):=by
 obtain⟨b,o,rfl,h'⟩:=HW h;clear h;replace h:=h';clear h';obtain⟨rfl,hk⟩:=J0 hE h;refine⟨az.aR s b,λX A ρ w a' hp ha=>?_⟩;obtain⟨v',h1,h2⟩:=hk X A ρ w (hp.cM b (gy s b)) hp.st;refine cA.same hp (by simp) (by simp) ?_ h2;rw[ha.nt];exact h1
theorem Us (hE:cS E P){t:TypeId}{a x:Value}(h:(Ez a λb o=>mI E s t b o x)=some (v,s')):az s s'/\∀X A ρ w a' x',oN P X A ρ s s' w->VR A ρ a a'->VR A ρ x x'->
  v= .tuple ⟨[]⟩/\∃w' eF,(Instr.storeAt t a' x').run P w= .ok () w'/\Good P X A ρ s s' w w' eF:=by
 obtain⟨b,o,rfl,h'⟩:=HW h;clear h;replace h:=h';clear h';obtain⟨c,e,u,hg,h⟩:=mK h;obtain⟨n,hn,h⟩:=aw h;obtain⟨hl,h⟩:=bg h;obtain⟨hf,h⟩:=bg h;obtain⟨cs,tN,h⟩:=aw h;simp only[rA,cx] at h;obtain⟨rfl,rfl⟩:=h;refine⟨(az.aR s b).trans (az.put _ b _ (by rw[iS,hg];simp)),λX A ρ w a' x' hp ha hx=>⟨rfl,?_⟩⟩;have hX:X b:=hp.cM b (fe _ b _);obtain⟨hA,c',aL,fr,h2,h3,h4,h5,h6,h7⟩:=hp.st.row hX hg;rw[gP] at tN hl hf;rw[dm] at hl;obtain⟨h8,h9⟩:=nE _ _ tN;have Zf:=hx.cells;have BA:=Zf.length;have ju:x'.cells.toList.length=n:=by rw[BA];simpa using hl
 rw[ha.nt];refine⟨w.setRow (ρ b).1 (⟨(c'++aL).take o++x'.cells.toList++(c'++aL).drop (o+x'.cells.toList.length)⟩),ρ,?_,?_⟩
 .unfold Instr.storeAt Instr.sureAddr storeVar;have iI:x'.cells.size=n:=by simpa using ju
  have nH:=lS P (ρ b).1 o e fr x'.cells.toList 0 ⟨c'++aL⟩ w h2 (by simpa using h5) (by simp at h8 BA⊢;omega) (λy hy=>by rw[<-JZ];exact Zf.jj ((l9 _).1 hf) y hy);simp only[Sem.run_bind,Sem.run_pure,Result.andThen_ok,run_sizeOf hE hn,iI,ne_eq,not_true,oV,ite_false];simpa using nH
 .have cX:(c'++aL).take o++x'.cells.toList++(c'++aL).drop (o+x'.cells.toList.length)=(c'.take o++x'.cells.toList++c'.drop (o+x'.cells.toList.length))++aL:=by
   rw[BZ af,Q3 af];simp
  refine Good.aZ (o:=.cells c e u) (o':=.cells cs e u) hp.st hp.ec hX hg (λc=>by simp) (by simp) (iU _ b _) (setRow_heap w _ _ _ _ _ h2) ?_ (Fr.setRow w _ _);have h8':o+x.cells.size<=c.length:=by simpa using h8
  have tU:cs.length=c.length:=by rw[h9];simp;omega
  refine⟨c'.take o++x'.cells.toList++c'.drop (o+x'.cells.toList.length),aL,fr,by rw[cX],?_,?_,?_⟩
  .rw[h9,BA];exact((h3.take o).append Zf).append (h3.drop _)
  .rw[tU];exact h6
  .rw[tU];exact h7
end
theorem rh (a b:Int):TP a b=decide (a<b):=by
 unfold TP;split
 .rename_i x y;rw[oL];simp[Q4]
 .rename_i x y;simp only[Bool.false_eq,lD,Int.ofNat_eq_natCast];omega
 .rename_i x y;simp only[Bool.true_eq,cl,Int.ofNat_eq_natCast];omega
 .rename_i x y;rw[oL];simp only[oc,cl];omega
theorem jv (a b:Int):xM a b=(a== b):=by
 unfold xM;split
 .rename_i x y;rw[oL];simp only[BY,zv,Int.ofNat_eq_natCast];omega
 .rename_i x y;rw[oL];simp
 .rename_i h1 h2;rw[oL];simp only[jH,zv,false_iff];rintro rfl;cases a with
  |ofNat x=>exact h1 x x rfl rfl
  |negSucc x=>exact h2 x x rfl rfl
theorem jM (k:IntKind)(n:Int):pJ k n=k.wrap n:=by
 unfold pJ;split
 .rename_i m;rw[ek];split
  .rename_i h;simp only[oc] at h;cases k<;>simp[half,IntKind.wrap,IntKind.bits,IntKind.signed] at h⊢<;>omega
  .rfl
 .rfl
theorem u4 {k j:IntKind}(h:pK k j=true):k=j:=by
 cases k<;>cases j<;>first|rfl|(exact absurd h (by decide))
theorem eQ (x:List UInt8):∀y,gv x y=(x== y):=by
 induction x with
 |nil=>intro y;cases y<;>rfl
 |cons a x ih=>intro y;cases y with
  |nil=>rfl
  |cons b y=>
   have h:gv (a::x) (b::y)=bo (Nat.beq a.toNat b.toNat) (gv x y) false:=rfl;rw[h,ih,ek,oL];simp[wu]
theorem sK (x:List UInt8):∀y,nV x y=Op.bytesLess x y:=by
 induction x with
 |nil=>intro y;cases y<;>simp[Op.bytesLess]<;>rfl
 |cons a x ih=>intro y;cases y with
  |nil=>simp[Op.bytesLess];rfl
  |cons b y=>
   have h:nV (a::x) (b::y)=bo (Nat.ble (Nat.succ a.toNat) b.toNat) true (bo (Nat.beq a.toNat b.toNat) (nV x y) false):=rfl;rw[h,ih,ek,ek];simp only[Op.bytesLess,oc,BY,Q4,<-Q5,wu];rw[oL];by_cases h1:a<b<;>by_cases h2:a=b<;>simp[h1,h2]
theorem toList_data (s:ByteArray):s.toList=s.data.toList:=ByteArray.toList_eq s
section
variable {E:dy}{P:Program}{X A:Nat->Prop}{ρ:fP}{s s':St}{w:World}{v v' x y x' y':Value}
theorem Ut {β:Type}{b:Bool}{x:Option β}{r:β}(h:bo b none x=some r):b=false/\x=some r:=by
 cases b with
 |true=>cases h
 |false=>exact⟨rfl,h⟩
theorem Uu {op:BinOp}{k:IntKind}{a b:Int}(h:JR op k a b=some v)(t:TypeId)(w:World):(binOp op t (.int k a) (.int k b)).run P w= .ok v w/\∀ρ,bZ ρ v=v:=by
 cases op<;>simp only[JR,rA,reduceCtorEq] at h
 case quo=>
  refine' zaM
 case rem=>
  refine' zaM
 case xor=>
  unfold xorV at h;split at h
  .rename_i m n;obtain⟨h0,h⟩:=bg h;simp only[rA] at h;subst h;simp only[cv,oc] at h0;refine⟨?_,λρ=>by simp⟩;have hm:m<2^ 8:=by omega
   have hn:n<2^ 8:=by omega
   have hx:(BitVec.ofInt 8 (Int.ofNat m)^^^ BitVec.ofInt 8 (Int.ofNat n)).toNat=m^^^ n:=by
    rw[BitVec.toNat_xor];have e1:(BitVec.ofInt 8 (Int.ofNat m)).toNat=m:=by
     rw[show(Int.ofNat m)=((m:Nat):Int) from rfl,YQ,YR,HL hm]
    have e2:(BitVec.ofInt 8 (Int.ofNat n)).toNat=n:=by
     rw[show(Int.ofNat n)=((n:Nat):Int) from rfl,YQ,YR,HL hn]
    rw[e1,e2]
   have dA:m^^^ n<2^ 8:=Nat.xor_lt_two_pow hm hn;simp only[binOp,Op.intBits,IntKind.bits,Sem.run_pure,Result.ok.injEq,Value.int.injEq,Jz,zw,ne_eq,not_true_eq_false,oV,ite_false];show IntKind.u8.wrap ((((BitVec.ofInt 8 (Int.ofNat m))^^^ (BitVec.ofInt 8 (Int.ofNat n)):BitVec 8).toNat:Nat):Int)=((m^^^ n:Nat):Int);rw[hx];generalize m^^^ n=z at dA⊢;simp[IntKind.wrap,IntKind.bits,IntKind.signed];omega
  .rename_i m n;obtain⟨h0,h⟩:=bg h;simp only[rA] at h;subst h;simp only[cv,oc] at h0;refine⟨?_,λρ=>by simp⟩;have hm:m<2^ 62:=by omega
   have hm':m<2^ 64:=by omega
   have hn:n<2^ 62:=by omega
   have hn':n<2^ 64:=by omega
   have hx:(BitVec.ofInt 64 (Int.ofNat m)^^^ BitVec.ofInt 64 (Int.ofNat n)).toNat=m^^^ n:=by
    rw[BitVec.toNat_xor];have e1:(BitVec.ofInt 64 (Int.ofNat m)).toNat=m:=by
     rw[show(Int.ofNat m)=((m:Nat):Int) from rfl,YQ,YR,HL hm']
    have e2:(BitVec.ofInt 64 (Int.ofNat n)).toNat=n:=by
     rw[show(Int.ofNat n)=((n:Nat):Int) from rfl,YQ,YR,HL hn']
    rw[e1,e2]
   have dA:m^^^ n<2^ 62:=Nat.xor_lt_two_pow hm hn;simp only[binOp,Op.intBits,IntKind.bits,Sem.run_pure,Result.ok.injEq,Value.int.injEq,Jz,zw,ne_eq,not_true_eq_false,oV,ite_false];show IntKind.i64.wrap ((((BitVec.ofInt 64 (Int.ofNat m))^^^ (BitVec.ofInt 64 (Int.ofNat n)):BitVec 64).toNat:Nat):Int)=((m^^^ n:Nat):Int);rw[hx];generalize m^^^ n=z at dA⊢;simp[IntKind.wrap,IntKind.bits,IntKind.signed];omega
  .cases h
 all_goals
  subst h;refine⟨?_,λρ=>by simp⟩;first
                                  |(simp[binOp,Op.intArith,Op.intCmp,jM];done)
                                  |(simp[binOp,Op.intArith,Op.intCmp,rh,jv];done)
                                  |(simp only[binOp,Op.intCmp,rh,jv,ne_eq,not_true,oV,ite_false,Sem.run_pure,Result.ok.injEq,zw,Value.bool.injEq];rw[oL];simp;done)
                                  |(simp[binOp,Op.intArith,Op.intCmp,jM];rfl)
theorem Uv {op:BinOp}{a b:List UInt8}(h:Uk op a b=some v)(t:TypeId)(w:World):(binOp op t (.string ⟨⟨a⟩⟩) (.string ⟨⟨b⟩⟩)).run P w= .ok v w/\∀ρ,bZ ρ v=v:=by
 cases op<;>simp only[Uk,rA,reduceCtorEq] at h
 case add=>
  obtain⟨h0,h⟩:=bg h;simp only[rA] at h;subst h;refine⟨?_,λρ=>by simp⟩;have iI:¬(IntKind.max .i64<(((⟨⟨a⟩⟩:ByteArray).size+(⟨⟨b⟩⟩:ByteArray).size:Nat):Int)):=by
   have h1:a.length+b.length<=1000000000:=by simpa using h0
   have h2:(⟨⟨a⟩⟩:ByteArray).size=a.length:=rfl;have h3:(⟨⟨b⟩⟩:ByteArray).size=b.length:=rfl;simp only[IntKind.max,IntKind.signed,IntKind.bits,h2,h3];simp;omega
  have happ:((⟨⟨a⟩⟩:ByteArray)++(⟨⟨b⟩⟩:ByteArray))=⟨⟨a++b⟩⟩:=by
   rw[ByteArray.mk_append_mk];try rfl
  simp only[binOp,Op.stringOp,gt_iff_lt,if_neg iI,happ,Sem.run_pure]
 all_goals
  subst h;refine⟨?_,λρ=>by simp⟩;simp[binOp,Op.stringOp,toList_data,eQ,sK,ek]
theorem HX {op:BinOp}{r:Option Bool}(h:Cb op r=some v):∃b,r=some b/\((op= .eql/\v= .bool b)\/(op= .neq/\v= .bool !b)):=by
 unfold Cb at h;split at h
 .obtain⟨b,h1,h2⟩:=aw h;exact⟨b,h1,.inl ⟨rfl,by simpa using h2.symm⟩⟩
 .obtain⟨b,h1,h2⟩:=aw h;exact⟨b,h1,.inr ⟨rfl,by simpa using h2.symm⟩⟩
 .cases h
theorem dN (x y:Value)(xs ys:aQ):gL (x::xs) (y::ys)=ob (lR x y) λe=>ob (gL xs ys) λr=>some (bo e r false):=rfl
theorem ud:gL [] []=some true:=rfl
theorem EN {b:Bool}(h:lR x y=some b):(∀ρ,bZ ρ x=x)/\(∀ρ,bZ ρ y=y):=by
 unfold lR at h;split at h
 .exact⟨λρ=>by simp,λρ=>by simp⟩
 .exact⟨λρ=>by simp,λρ=>by simp⟩
 .exact⟨λρ=>by simp,λρ=>by simp⟩
 .cases h
theorem ue (xs:aQ):∀(ys:aQ)(r:Bool),gL xs ys=some r->(∀ρ,xs.map (bZ ρ)=xs)/\(∀ρ,ys.map (bZ ρ)=ys):=by
 induction xs with
 |nil=>intro ys r h;cases ys with
  |nil=>simp
  |cons y ys=>cases h
 |cons x xs ih=>
  intro ys r h;cases ys with
  |nil=>cases h
  |cons y ys=>
   rw[dN] at h;obtain⟨e,he,h1⟩:=aw h;obtain⟨r',h2,h3⟩:=aw h1;obtain⟨g1,g2⟩:=EN he;obtain⟨g3,g4⟩:=ih _ _ h2;exact⟨λρ=>by rw[xC,g1,g3],λρ=>by rw[xC,g2,g4]⟩
theorem HY (v:Value)(xs:aQ)(k:Nat)(ks:List Nat):ij (v::xs) (k::ks)=bo (Nat.beq (xN v) k) (bo (Nat.ble k 2) (ij xs ks) false) false:=rfl
theorem eN {v:Value}{xs:aQ}{k:Nat}{ks:List Nat}(h:ij (v::xs) (k::ks)=true):xN v=k/\k<=2/\ij xs ks=true:=by
 rw[HY,ek,ek] at h;split at h
 .rename_i h1;split at h
  .rename_i h2;exact⟨by simpa using h1,by simpa using h2,h⟩
  .cases h
 .cases h
theorem kV {v:Value}(h:xN v=0):∃n,v= .int .i64 n:=by
 unfold xN at h;split at h
 .exact⟨_,rfl⟩
 all_goals cases h
theorem u5 {v:Value}(h:xN v=1):∃z,v= .string ⟨⟨z⟩⟩:=by
 unfold xN at h;split at h
 .cases h
 .rename_i s;obtain⟨⟨z⟩⟩:=s;exact⟨z,rfl⟩
 all_goals cases h
theorem wE {v:Value}(h:xN v=2):∃b,v= .bool b:=by
 unfold xN at h;split at h
 .cases h
 .cases h
 .exact⟨_,rfl⟩
 .cases h
theorem uf:∀(xs:aQ)(ks:List Nat),ij xs ks=true->∀ρ,xs.map (bZ ρ)=xs
 |[],_,_,ρ=>rfl
 |v::xs,[],h,ρ=>by cases h
 |v::xs,k::ks,h,ρ=>by
  obtain⟨h1,h2,h3⟩:=eN h;rw[xC,uf xs ks h3 ρ];have:k=0\/k=1\/k=2:=by omega
  rcases this with h|h|h
  .obtain⟨n,rfl⟩:=kV (h1.trans h);simp
  .obtain⟨n,rfl⟩:=u5 (h1.trans h);simp
  .obtain⟨n,rfl⟩:=wE (h1.trans h);simp
theorem ug (t:Nat)(xs:aQ):∀l:List (TypeId×List Nat),xO t xs l=true->∃ks,(t,ks)∈l/\ij xs ks=true
 |[],h=>by cases h
 |p::r,h=>by
  have h2:bo (bo (Nat.beq t p.1) (ij xs p.2) false) true (xO t xs r)=true:=h;rw[ek] at h2;split at h2
  .rename_i h3;rw[ek] at h3;split at h3
   .rename_i h4;have:t=p.1:=by simpa using h4
    exact⟨p.2,by rw[this];exact jr ..,h3⟩
   .cases h3
  .obtain⟨ks,h5,h6⟩:=ug t xs r h2;exact⟨ks,lE _ h5,h6⟩
theorem J1 {t:Nat}{xs:aQ}{l:List (TypeId×List Nat)}(h:xO t xs l=true):∀ρ,xs.map (bZ ρ)=xs:=by
 obtain⟨ks,_,h2⟩:=ug t xs l h;exact uf xs ks h2
theorem binOp_eql {t:TypeId}{x y:Value}{b:Bool}(hx:∀k n,x≠ .int k n)(hf:∀k n,x≠ .float k n)(hc:∀k m n,x≠ .complex k m n)(hs:∀s,x≠ .string s)(h:(Op.equal t x y).run P w= .ok b w):
  (binOp .eql t x y).run P w= .ok (.bool b) w/\(binOp .neq t x y).run P w= .ok (.bool !b) w:=by
 unfold binOp;constructor<;>split<;>simp_all
theorem pe (op:BinOp)(t:TypeId)(ox oy:Operand){x y:Value}(hn:¬(x= .nilIface/\y= .nilIface))(ha:∀a b,¬(x= .agg a/\y= .agg b)):(eqGuard op t ox oy x y).run P w= .ok () w:=by
 unfold eqGuard;cases op<;>simp only[HM,HN,jH,oV,if_true,ite_false,ite_true]<;>first|rfl|skip
 all_goals
  split
  .exact absurd ⟨rfl,rfl⟩ hn
  .exact absurd ⟨rfl,rfl⟩ (ha _ _)
  .rfl
theorem Uw (hE:cS E P){t:TypeId}{d:TypeDesc}{b:Bool}(hd:iQ E t=some d)(h:YW E d x y=some b)(hx:VR A ρ x x')(hy:VR A ρ y y')(w:World):(Op.equal t x' y').run P w= .ok b w:=by
 have hu:=dW hE hd;unfold Op.equal Op.maxDepth;unfold Op.equalIn;simp only[Sem.run_bind,run_underlying hu,Result.andThen_ok];unfold YW at h;split at h
 .rw[hx.sH,hy.sH];simpa using h
 .have:=hx.self;simp only[FP] at this;subst this;rename_i a;have Be:=hy.self;rw[<-Be];cases a with
  |none=>simpa using h
  |some a=>obtain⟨b,o,s⟩:=a;simp only[mJ];simpa using h
 .rename_i a;obtain⟨b,o,s⟩:=a;rw[hx.nt];have Be:=hy.self;simp only[FP] at Be;subst Be;simpa using h
 .obtain⟨n,hn,h⟩:=aw h;obtain⟨h1,h3⟩:=bg h;clear h;have hb:=ir h3;clear h3;rw[cv] at h1;obtain⟨h1,h2⟩:=h1;have e1:=oM h1;have e2:=oM h2;subst e1 e2 hb;rw[hx.nt,hy.nt];simp only[Sem.run_bind,run_sizeOf hE hn,Result.andThen_ok];split
  .simp[sameAddr]
  .simp
 .have:=hx.iV;subst this;rename_i a l2 c2;cases a with
  |none=>have:=hy.iV;subst this;simpa using h
  |some a=>obtain⟨a',Be⟩:=hy.sJ;rw[Be];simpa using h
 .rename_i a l1 c1 l2 c2;obtain⟨a',rv⟩:=hx.sJ;rw[rv,hy.iV];simpa using h
 .have h1:=hx.self;have h2:=hy.self;simp only[sG] at h1 h2;subst h1 h2;simpa using h
 .have h1:=hx.self;simp only[sG] at h1;subst h1;rename_i fn f c;obtain⟨f⟩:=f;obtain⟨c⟩:=c;obtain⟨f',c',rfl,_,_⟩:=hy.Ch;simpa using h
 .have h1:=hy.self;simp only[sG] at h1;subst h1;rename_i fn f c;obtain⟨f⟩:=f;obtain⟨c⟩:=c;obtain⟨f',c',rfl,_,_⟩:=hx.Ch;simpa using h
 .cases h
end
section
variable {E:dy}{P:Program}{X A:Nat->Prop}{ρ:fP}{s s':St}{w:World}{v v' x y x' y':Value}
theorem EO (op:BinOp)(t:TypeId){ox oy:Operand}(hc:(YX ox||YX oy)=true)(w:World):(eqGuard op t ox oy .nilIface .nilIface).run P w= .ok () w:=by
 cases ox<;>cases oy<;>first
  |(cases op<;>(simp[eqGuard];done))
  |(simp[YX] at hc;done)
def Zj (x:Value):Bool:=match x with
 |.bool _=>true
 |.pointer _=>true
 |.slice .. =>true
 |.func .. =>true
 |.nilFunc=>true
 |_=>false
theorem Ux (ρ:fP)(v:Value):Zj (bZ ρ v)=Zj v:=by
 cases v<;>try(simp[bZ,Zj];done)
 .rename_i a;cases a<;>simp[bZ,Zj]
 .rename_i a l c;cases a with
  |none=>simp[bZ,Zj]
  |some a=>
   obtain⟨a',h⟩:=rL ρ a l c;rw[h];simp[Zj]
 .rename_i a;cases a<;>simp[bZ,Zj]
theorem Zk {d:TypeDesc}{b:Bool}(h:YW E d x y=some b):Zj x=true:=by
 unfold YW at h;split at h<;>first|rfl|(cases h;done)
theorem Zl (hE:cS E P){op:BinOp}{t:TypeId}{ox oy:Operand}(h:Q7 E op t (YX ox||YX oy) x y=some v)(hx:VR A ρ x x')(hy:VR A ρ y y')(w:World):
  ∃v',(do eqGuard op t ox oy x' y';binOp op t x' y').run P w= .ok v' w/\VR A ρ v v':=by
 simp only[Sem.run_bind];unfold Q7 at h;split at h
 .rename_i k a k' b;rw[ek] at h;split at h
  .rw[hx.ma,hy.ma,pe op t ox oy (by simp) (by simp)];have hb:FJ k=k.bits:=by cases k<;>rfl
   have Rg:∀m:Nat,Cc m (FJ k)=min m k.bits:=λm=>by
    unfold Cc;rw[ek,hb];simp only[oc];split<;>omega
   unfold shV at h;split at h
   .rename_i m n _;have:=ir h;subst this;refine⟨_,?_,VR.int _ _⟩;simp only[Result.andThen_ok,binOp,Op.shift];have h0:¬(Int.ofNat n<0):=by simp
    rw[if_neg h0,Rg];simp only[Sem.run_pure]
    congr 2
    show Int.fdiv (Int.ofNat m) (2^ (min (Int.toNat (Int.ofNat n)) k.bits))=_;have e1:(2:Int)^ (min (Int.toNat (Int.ofNat n)) k.bits)=((2^ (min n k.bits):Nat):Int):=by
     simp
    rw[e1];show Int.fdiv ((m:Nat):Int) _=((Nat.shiftRight m (min n k.bits):Nat):Int);rw[Int.fdiv_eq_ediv_of_nonneg _ (JA _),<-Int.natCast_ediv]
    congr 1
    exact(Nat.shiftRight_eq_div_pow m _).symm
   .rename_i m n _;have:=ir h;subst this;refine⟨_,?_,VR.int _ _⟩;simp only[Result.andThen_ok,binOp,Op.shift];have h0:¬(Int.ofNat n<0):=by simp
    rw[if_neg h0,Rg,jM];simp only[Sem.run_pure]
    congr 3
    have e1:(2:Int)^ (min (Int.toNat (Int.ofNat n)) k.bits)=((2^ (min n k.bits):Nat):Int):=by
     simp
    rw[e1];show((m:Nat):Int)*((2^ (min n k.bits):Nat):Int)=((Nat.shiftLeft m (min n k.bits):Nat):Int);rw[<-Int.natCast_mul]
    congr 1
    exact(Nat.shiftLeft_eq m _).symm
   .cases h
  obtain⟨h1,h0⟩:=HV h;clear h;have:=u4 h1;subst this;rw[hx.ma,hy.ma];obtain⟨h2,h3⟩:=Uu (P:=P) h0 t w;rw[pe op t ox oy (by simp) (by simp)];exact⟨v,h2,VR.ground h3⟩
 .rename_i a b;rw[hx.uc,hy.uc];obtain⟨h2,h3⟩:=Uv (P:=P) h t w;rw[pe op t ox oy (by simp) (by simp)];exact⟨v,h2,VR.ground h3⟩
 .obtain⟨hc,h⟩:=bg h;obtain⟨d,hd,h⟩:=aw h;obtain⟨hi,h⟩:=bg h;have rv:=hx.self;have Be:=hy.self;simp only[EL] at rv Be;subst rv Be;have hu:=dW hE hd;have hg:=EO (P:=P) op t hc w;have he:(Op.equal t .nilIface .nilIface).run P w= .ok true w:=by
   unfold Op.equal Op.maxDepth Op.equalIn;simp only[Sem.run_bind,run_underlying hu,Result.andThen_ok];cases d<;>simp_all [isIface]
  rw[hg];obtain⟨b,hb,h⟩:=HX h;simp only[rA] at hb;subst hb;obtain⟨h1,h2⟩:=binOp_eql (P:=P) (w:=w) (t:=t) (x:=.nilIface) (y:=.nilIface) (by simp) (by simp) (by simp) (by simp) he;rcases h with⟨rfl,rfl⟩|⟨rfl,rfl⟩
  .exact⟨_,h1,VR.bool _⟩
  .exact⟨_,h2,VR.bool _⟩
 .rename_i xs ys;obtain⟨hq,h⟩:=bg h;obtain⟨b,hb,h⟩:=HX h;obtain⟨h1,h2⟩:=ue _ _ _ hb;obtain⟨xs',rfl,Rh⟩:=hx.PE;obtain⟨ys',rfl,hys⟩:=hy.PE;have e1:=Rh.self;rw[h1] at e1;subst e1;have e2:=hys.self;rw[h2] at e2;subst e2;obtain⟨h4,h5⟩:=hE.eqs _ _ hq ys b hb w;rw[h5 op ox oy];obtain⟨h6,h7⟩:=binOp_eql (P:=P) (w:=w) (t:=t) (by simp) (by simp) (by simp) (by simp) h4;rcases h with⟨rfl,rfl⟩|⟨rfl,rfl⟩
  .exact⟨_,h6,VR.bool _⟩
  .exact⟨_,h7,VR.bool _⟩
 .obtain⟨d,hd,h⟩:=aw h;obtain⟨b,hb,h⟩:=HX h;have he:=Uw hE hd hb hx hy w;have hodd:Zj x'=true:=by rw[<-hx.self,Ux];exact Zk hb
  have BB:(∀k n,x'≠ .int k n)/\(∀k n,x'≠ .float k n)/\(∀k m n,x'≠ .complex k m n)/\(∀s,x'≠ .string s)/\x'≠ .nilIface/\(∀a,x'≠ .agg a):=by
   refine⟨?_,?_,?_,?_,?_,?_⟩<;>intros<;>rintro rfl<;>cases hodd
  obtain⟨s1,s2,s3,s4,s5,s6⟩:=BB;rw[pe op t ox oy (λhh=>s5 hh.1) (λa b hh=>s6 a hh.1)];obtain⟨h6,h7⟩:=binOp_eql (P:=P) (w:=w) (t:=t) s1 s2 s3 s4 he;rcases h with⟨rfl,rfl⟩|⟨rfl,rfl⟩
  .exact⟨_,h6,VR.bool _⟩
  .exact⟨_,h7,VR.bool _⟩
end
section
variable {E:dy}{P:Program}{X A:Nat->Prop}{ρ:fP}{s s':St}{w:World}{v v' x y x' y':Value}
theorem aA {v:Value}{s:St}{r:Value×St}(h:aG v s=some r):r=(v,s):=by
 simpa[aG] using h.symm
theorem unV_ok {op:UnOp}(h:unV op x s=some (v,s')):s'=s/\∀A ρ x',VR A ρ x x'->∃v',(∀w,(Op.unary op x').run P w= .ok v' w)/\VR A ρ v v':=by
 unfold unV at h;split at h
 .rename_i b;have:=aA h;simp only[cx] at this;obtain⟨rfl,rfl⟩:=this;refine⟨rfl,λA ρ x' hx=>⟨.bool !b,λw=>?_,VR.bool _⟩⟩;rw[hx.sH];rfl
 .cases h
theorem J2 {i:Nat}(h:xS s x i=some (v,s')):s'=s/\∀A ρ x',VR A ρ x x'->∃v',(∀w,(Instr.extract x' i).run P w= .ok v' w)/\VR A ρ v v':=by
 unfold xS at h;split at h
 .rename_i vs;obtain⟨u,hu,h2⟩:=aw h;have:=aA h2;simp only[cx] at this;obtain⟨rfl,rfl⟩:=this;refine⟨rfl,λA ρ x' hx=>?_⟩;obtain⟨FT,rfl,hl⟩:=hx.Zd;rw[dQ] at hu;obtain⟨u',J3,hr⟩:=hl.get hu;refine⟨u',λw=>?_,hr⟩;simp[Instr.extract,J3]
 .cases h
theorem Ri (hE:cS E P){t:TypeId}(h:HU E s t x y=some (v,s')):s'=s/\∀A ρ x' y',VR A ρ x x'->VR A ρ y y'->∃v',(∀w,(Instr.index t x' y').run P w= .ok v' w)/\VR A ρ v v':=by
 obtain⟨d,hd,h1⟩:=aw h;clear h;split at h1
 .rename_i z k i;obtain⟨c,hc,h2⟩:=aw h1;have:=aA h2;simp only[cx] at this;obtain⟨rfl,rfl⟩:=this;refine⟨rfl,λA ρ x' y' hx hy=>⟨.int .u8 c.toNat,λw=>?_,VR.int _ _⟩⟩;rw[hx.uc,hy.ma];rw[dQ] at hc;have hb:(⟨⟨z⟩⟩:ByteArray)[i]?=some c:=by
   have dA:=(tL.1 hc).1;have iI:(⟨⟨z⟩⟩:ByteArray).size=z.length:=rfl;rw[getElem?_pos _ _ (by rw[iI];exact dA)];have:=(tL.1 hc).2;rw[<-this];rfl
  unfold Instr.index;simp only[Sem.run_bind,asIntOf,Sem.run_pure,Result.andThen_ok,run_underlying (dW hE hd)];simp[hb]
 .cases h1
theorem Rj (hE:cS E P){t:TypeId}{i:Nat}(h:HT E s t x i=some (v,s')):s'=s/\∀A ρ x',VR A ρ x x'->∃v',(∀w,(Instr.field t x' i).run P w= .ok v' w)/\VR A ρ v v':=by
 obtain⟨d,hd,h1⟩:=aw h;clear h;split at h1
 .rename_i fs cs;obtain⟨f,hf,h2⟩:=aw h1;obtain⟨df,tO,h3⟩:=aw h2;obtain⟨hb,h4⟩:=bg h3;obtain⟨u,hu,h5⟩:=aw h4;have:=aA h5;simp only[cx] at this;obtain⟨rfl,rfl⟩:=this;refine⟨rfl,λA ρ x' hx=>?_⟩;obtain⟨cs',rfl,hl⟩:=hx.PE;rw[dQ] at hu hf;obtain⟨u',J3,hr⟩:=hl.get hu;refine⟨u',λw=>?_,hr⟩;have ha:zy df=false:=by simpa using hb
  have hff:(⟨fs⟩:Array Field)[i]?=some f:=by simpa using hf
  have Rk:(⟨cs'⟩:Array Value)[f.offset]?=some u':=by simpa using J3
  unfold Instr.field part;simp only[Sem.run_bind,run_underlying (dW hE hd),Result.andThen_ok,hff,asAgg,Sem.run_pure,u3 hE tO,ha,Rk,oV,jH]
 .cases h1
theorem EP (hE:cS E P){t:TypeId}{i:Nat}(h:nC E s t x i=some (v,s')):s'=s/\∀A ρ x',(∀v v',VR A ρ v v'->True)->VR A ρ x x'->∃v',(∀w,(Instr.fieldAt t x' i).run P w= .ok v' w)/\VR A ρ v v':=by
 obtain⟨d,hd,h1⟩:=aw h;clear h;split at h1
 .rename_i fs;obtain⟨f,hf,h2⟩:=aw h1;obtain⟨n,hn,h3⟩:=aw h2;obtain⟨hb,h4⟩:=bg h3;obtain⟨b,o,rfl,h5⟩:=HW h4;have:=aA h5;simp only[cx] at this;obtain⟨rfl,rfl⟩:=this;refine⟨rfl,λA ρ x' _ hx=>⟨.pointer (some ⟨(ρ b).1,o+f.offset,none⟩),λw=>?_,λeF e=>?_⟩⟩
  .rw[hx.nt];rw[dQ] at hf;have xy:n≠0:=by simp at hb;omega
   unfold Instr.fieldAt;simp only[Sem.run_bind,run_underlying (dW hE hd),Result.andThen_ok];have hf':(⟨fs⟩:Array Field)[i]?=some f:=by simpa using hf
   simp only[hf',Instr.sureAddr,Sem.run_bind,Sem.run_pure,Result.andThen_ok,fieldPlace,run_sizeOf hE hn,xy,oV,ite_false,add_lit]
  .have h1:=(hx eF e).trans hx.self.symm;simp only[mJ,Value.pointer.injEq,rA,Addr.mk.injEq,zw] at h1;rw[mJ,h1];rfl
 .cases h1
theorem ER (hE:cS E P){t:TypeId}(h:nD E s t x y=some (v,s')):s'=s/\∀A ρ x' y',VR A ρ x x'->VR A ρ y y'->∃v',(∀w,(Instr.indexAt t x' y').run P w= .ok v' w)/\VR A ρ v v':=by
 obtain⟨d,hd,h1⟩:=aw h;clear h;split at h1
 .rename_i n e b o k i;obtain⟨hb,h2⟩:=bg h1;obtain⟨sz,iI,h3⟩:=aw h2;have:=aA h3;simp only[cx] at this;obtain⟨rfl,rfl⟩:=this;refine⟨rfl,λA ρ x' y' hx hy=>⟨.pointer (some ⟨(ρ b).1,o+i*sz,none⟩),λw=>?_,λeF e=>?_⟩⟩
  .rw[hx.nt,hy.ma];have hi:i<n:=by simpa[Q4] using hb
   unfold Instr.indexAt;simp only[Sem.run_bind,asIntOf,Sem.run_pure,Result.andThen_ok,run_underlying (dW hE hd),Instr.sureAddr];have hc:(0:Int)<=Int.ofNat i/\Int.ofNat i<(n:Int):=by constructor<;>simp<;>omega
   simp[hc,hi,run_sizeOf hE iI,add_lit]
  .have h1:=(hx eF e).trans hx.self.symm;simp only[mJ,Value.pointer.injEq,rA,Addr.mk.injEq,zw] at h1;rw[mJ,h1];rfl
 .rename_i e b o n cap k i;obtain⟨hb,h2⟩:=bg h1;obtain⟨sz,iI,h3⟩:=aw h2;have:=aA h3;simp only[cx] at this;obtain⟨rfl,rfl⟩:=this;refine⟨rfl,λA ρ x' y' hx hy=>⟨.pointer (some ⟨(ρ b).1,o+i*sz,none⟩),λw=>?_,λeF e=>?_⟩⟩
  .rw[hx.gd,hy.ma];have hi:i<n:=by simpa[Q4] using hb
   unfold Instr.indexAt;simp only[Sem.run_bind,asIntOf,Sem.run_pure,Result.andThen_ok,run_underlying (dW hE hd)];simp[hi,run_sizeOf hE iI,add_lit]
  .have h1:=(hx eF e).trans hx.self.symm;simp only[eD,Value.slice.injEq,rA,Addr.mk.injEq,zw] at h1;rw[mJ,h1.1];rfl
 .cases h1
theorem Zm (hE:cS E P){t ty:TypeId}(h:Q9 E t x=some v):∀A ρ x' ts,VR A ρ x x'->ts[0]?=some t->∃v',(∀w,(Builtin.len_ ts ty #[x']).run P w= .ok v' w)/\VR A ρ v v':=by
 obtain⟨d,hd,h1⟩:=aw h;clear h;split at h1
 .rename_i z;have:=ir h1;subst this;refine λA ρ x' ts hx hts=>⟨.int .i64 (.ofNat z.length),λw=>?_,by simpa using VR.int _ _⟩
  rw[hx.uc];simp[Builtin.len_,hts,run_underlying (dW hE hd),goInt];rfl
 .rename_i e a n c;have:=ir h1;subst this;refine λA ρ x' ts hx hts=>⟨.int .i64 (.ofNat n),λw=>?_,VR.int _ _⟩
  cases a with
  |none=>rw[hx.iV];simp[Builtin.len_,hts,run_underlying (dW hE hd),goInt]
  |some a=>obtain⟨a',rv⟩:=hx.sJ;rw[rv];simp[Builtin.len_,hts,run_underlying (dW hE hd),goInt]
 .cases h1
theorem Zn (h:Za x y s=some (v,s')):s'=s/\∀A ρ x' y' ts ty,VR A ρ x x'->VR A ρ y y'->∃v',(∀w,(Builtin.max_ ts ty #[x',y']).run P w= .ok v' w)/\VR A ρ v v':=by
 unfold Za at h;split at h
 .rename_i k a k' b;obtain⟨hk,h2⟩:=bg h;have:=aA h2;simp only[cx] at this;obtain⟨rfl,rfl⟩:=this;refine⟨rfl,λA ρ x' y' ts ty hx hy=>⟨_,λw=>?_,VR.int _ _⟩⟩;rw[hx.ma,hy.ma];simp only[Builtin.max_,List.foldlM,Builtin.max2];simp[ek,rh]
 .cases h
end
section
variable {E:dy}{P:Program}{X A:Nat->Prop}{ρ:fP}{s s':St}{w:World}{v v' x y x' y':Value}
def Ng (A:Nat->Prop)(ρ:fP):Option Value->Option Value->Prop
 |none,none=>True
 |some v,some v'=>VR A ρ v v'
 |_,_=>False
theorem Ng.none {o:Option Value}(h:Ng A ρ none o):o=none:=by cases o<;>simp_all [Ng]
theorem Ng.some {v:Value}{o:Option Value}(h:Ng A ρ (some v) o):∃v',o=some v'/\VR A ρ v v':=by
 cases o with
 |none=>simp[Ng] at h
 |some v'=>exact⟨v',rfl,h⟩
theorem sL {y i:Nat}(h:pd v y=some i):i<=y/\∃k,v= .int k (.ofNat i):=by
 unfold pd at h;split at h
 .rename_i k j;obtain⟨h1,h2⟩:=HV h;have:=ir h2;subst this;exact⟨by simpa using h1,k,rfl⟩
 .cases h
theorem run_sliceBound {y i:Nat}(h:pd v y=some i)(hv:VR A ρ v v')(z:Nat)(hz:y<=z)(code:BoundsCode)(w:World):(Instr.sliceBound v' z code).run P w= .ok i w:=by
 obtain⟨h1,k,rfl⟩:=sL h;rw[hv.ma];unfold Instr.sliceBound;simp only[Sem.run_bind,asIntOf,Sem.run_pure,Result.andThen_ok];have:(0:Int)<=Int.ofNat i/\Int.ofNat i<=(z:Int):=by constructor<;>simp<;>omega
 simp[this];omega
theorem rN {β:Type}{len cap:Nat}{lo hi mx:Option Value}{k:Nat->Nat->Nat->Option β}{r:β}(h:bounds len cap lo hi mx k=some r):
  ∃l h m,k l h m=some r/\(m<=cap/\(mx=none->m=cap))/\l<=h/\(len<=cap->mx=none->h<=cap)/\
   ∀A ρ FU fG HZ,Ng A ρ lo FU->Ng A ρ hi fG->Ng A ρ mx HZ->∀(P:Program)(sl:Bool) w Cj,cap<=Cj->(Instr.sliceBounds sl len Cj FU fG HZ).run P w= .ok (l,h,if mx=none then Cj else m) w:=by
 obtain⟨m,hm,h1⟩:=aw h;obtain⟨hh,Yz,h2⟩:=aw h1;obtain⟨l,hl,h3⟩:=aw h2;clear h h1 h2;have hm':m<=cap/\(mx=none->m=cap):=by
  cases mx with
  |none=>have:=ir hm;exact⟨af,λ_=>this.symm⟩
  |some v=>exact⟨(sL hm).1,λh=>by cases h⟩
 have ju:l<=hh:=by
  cases lo with
  |none=>have:=ir hl;subst this;exact jG _
  |some v=>exact(sL hl).1
 refine⟨l,hh,m,h3,hm',ju,λhc hmx=>?_,λA ρ FU fG HZ o1 o2 o3 P sl w Cj Rk=>?_⟩
 .subst hmx;cases hi with
  |none=>have:=ir Yz;omega
  |some v=>have:=(sL Yz).1;have:=hm'.1;omega
 .unfold Instr.sliceBounds;cases mx with
  |none=>
   have:=ir hm;subst this;rw[o3.none];cases hi with
   |none=>
    have:=ir Yz;subst this;rw[o2.none];cases lo with
    |none=>have:=ir hl;subst this;rw[o1.none];simp
    |some v=>obtain⟨v',rfl,hv⟩:=o1.some;simp[run_sliceBound (P:=P) hl hv _ (cy _)]
   |some u=>
    obtain⟨u',rfl,hu⟩:=o2.some;cases lo with
    |none=>have:=ir hl;subst this;rw[o1.none];simp[run_sliceBound (P:=P) Yz hu Cj Rk]
    |some v=>obtain⟨v',rfl,hv⟩:=o1.some;simp[run_sliceBound (P:=P) Yz hu Cj Rk,run_sliceBound (P:=P) hl hv _ (cy _)]
  |some q=>
   obtain⟨q',rfl,hq⟩:=o3.some;cases hi with
   |none=>cases Yz
   |some u=>
    obtain⟨u',rfl,hu⟩:=o2.some;cases lo with
    |none=>have:=ir hl;subst this;rw[o1.none];simp[run_sliceBound (P:=P) hm hq Cj Rk,run_sliceBound (P:=P) Yz hu _ (cy _)]
    |some v=>obtain⟨v',rfl,hv⟩:=o1.some;simp[run_sliceBound (P:=P) hm hq Cj Rk,run_sliceBound (P:=P) Yz hu _ (cy _),run_sliceBound (P:=P) hl hv _ (cy _)]
theorem extract_mk (z:List UInt8)(l h:Nat):(⟨⟨z⟩⟩:ByteArray).extract l h=⟨⟨(z.drop l).take (h-l)⟩⟩:=by
 apply ByteArray.ext;rw[ByteArray.data_extract];apply vD;simp[List.take_drop]
theorem fA {q:Nat×Nat}{c:Nat}(h:c<eL):dE q c=c:=by
 unfold dE;rw[if_neg af]
theorem Ck (a:Addr)(n:Nat):rG (some a) n=some (a.add n):=by
 obtain⟨b,o,s⟩:=a;simp only[rG,ek,BY,Addr.add];split<;>rfl
theorem PG {α:Type}{o:Option α}(h:YY o=true):o=none:=by cases o<;>simp_all [YY]
theorem Rl (hE:cS E P){t:TypeId}{lo hi mx:Option Value}(h:j7 E s t x lo hi mx=some (v,s')):az s s'/\∀X A ρ w x' FU fG HZ,oN P X A ρ s s' w->VR A ρ x x'->Ng A ρ lo FU->Ng A ρ hi fG->Ng A ρ mx HZ->
  cA P X A ρ s s' w v (Instr.sliceAt t x' FU fG HZ):=by
 obtain⟨d,hd,h1⟩:=aw h;clear h;have hu:=dW hE hd;split at h1
 .rename_i z;obtain⟨u,J3,h2⟩:=aw h1;have:=aA h2;simp only[cx] at this;obtain⟨rfl,rfl⟩:=this;refine⟨az.refl _,λX A ρ w x' FU fG HZ hp hx o1 o2 o3=>?_⟩;obtain⟨xZ,h3⟩:=bg J3;have:=PG xZ;subst this;rw[o3.none];obtain⟨l,hh,m,h4,h5,h6,h7,h8⟩:=rN h3;have:=ir h4;subst this;refine cA.pure hp ?_ (VR.str _);rw[hx.uc];have hb:=h8 A ρ FU fG none o1 o2 (by simp[Ng]) P false w (eh z) (cy _);unfold Instr.sliceAt;simp only[Sem.run_bind,run_underlying hu,Result.andThen_ok];unfold Instr.slice;simp only[Sem.run_bind,run_underlying hu,Result.andThen_ok,Option.isSome_none,jH,oV];have iI:(⟨⟨z⟩⟩:ByteArray).size=z.length:=rfl;rw[dm] at hb;simp[iI,hb,extract_mk]
 .rename_i elem a len cap
  replace h1:=bg h1
  obtain⟨ri,h1⟩:=h1;obtain⟨sz,iI,h2⟩:=aw h1;cases hk:Nat.ble eL cap with
  |false=>
   rw[hk,eG] at h2;obtain⟨u,J3,h3⟩:=aw h2;have:=aA h3;simp only[cx] at this;obtain⟨rfl,rfl⟩:=this;refine⟨az.refl _,λX A ρ w x' FU fG HZ hp hx o1 o2 o3=>?_⟩;obtain⟨l,hh,m,h4,h5,h6,h7,h8⟩:=rN J3;have:=ir h4;subst this;have zE:cap<eL:=by
    rcases kU cap eL with h|h
    .exact h
    .rw[gR h] at hk;cases hk
   have hb:=h8 A ρ FU fG HZ o1 o2 o3 P true w cap (cy _);have hm:(if mx=none then cap else m)=m:=by
    split
    .rename_i hmx;exact(h5.2 hmx).symm
    .rfl
   rw[hm] at hb;have nH:∀a',(Instr.sliceAt t (.slice a' len cap) FU fG HZ).run P w= .ok (.slice (if m=l then a' else a'.map (·.add (l*sz))) (hh-l) (m-l)) w:=by
    intro a';unfold Instr.sliceAt;simp only[Sem.run_bind,run_underlying hu,Result.andThen_ok];unfold Instr.slice;simp only[Sem.run_bind,run_underlying hu,Result.andThen_ok,hb,run_sizeOf hE iI];rfl
   have YA:m-l<eL:=by have:=h5.1;omega
   cases a with
   |none=>
    rw[hx.iV];refine cA.pure hp (nH none) ?_;simp only[rG,ek,Option.map_none,ite_self];exact VR.ground (by simp)
   |some a=>
    obtain⟨b,o,q⟩:=a;cases q with
    |some q=>cases ri
    |none=>
    rw[hx.gd,fA zE];refine cA.pure hp (nH _) λeF e=>?_
    have h1:=(hx eF e).trans hx.self.symm;simp only[eD,Value.slice.injEq,rA,Addr.mk.injEq,zw] at h1;rw[ek,Ck];simp only[BY];by_cases J4:m=l
    .simp only[J4,if_true,B0];rw[eD,h1.1,show l.sub l=0 from B0 l,fA (show 0<eL by decide)];rfl
    .simp only[J4,oV,vE,Addr.add];by_cases hz:l*sz=0
     .simp only[show Nat.mul l sz=0 from hz,hz,if_true];rw[eD,h1.1,fA (c:=m.sub l) YA];rfl
     .simp only[show ¬Nat.mul l sz=0 from hz,hz,oV];rw[eD,h1.1,fA (c:=m.sub l) YA];rfl
  |true=>
   rw[hk,gw] at h2;have zE:eL<=cap:=qq hk;cases hz:nA lo hi mx with
   |true=>
    rw[hz,gw] at h2;unfold nB at h2;split at h2
    rotate_left
    .cases h2
    rename_i b o;have:=aA h2;simp only[cx] at this;obtain⟨rfl,rfl⟩:=this;unfold nA at hz;split at hz
    rotate_left
    .cases hz
    rename_i k;refine⟨az.refl _,λX A ρ w x' FU fG HZ hp hx o1 o2 o3=>?_⟩;rw[hx.gd,o1.none,o3.none];obtain⟨u',rfl,J3⟩:=o2.some;rw[J3.ma];refine cA.pure hp (v':=.slice (some ⟨(ρ b).1,o,none⟩) 0 (dE (ρ b) cap)) ?_ λeF e=>?_
    .unfold Instr.sliceAt;simp only[Sem.run_bind,run_underlying hu,Result.andThen_ok];unfold Instr.slice;simp only[Sem.run_bind,run_underlying hu,Result.andThen_ok];have hb:(Instr.sliceBounds true len (dE (ρ b) cap) none (some (.int k (.ofNat 0))) none).run P w= .ok (0,0,dE (ρ b) cap) w:=by
      unfold Instr.sliceBounds;have h0:(Instr.sliceBound (.int k (.ofNat 0)) (dE (ρ b) cap) .sliceAcap).run P w= .ok 0 w:=by
       unfold Instr.sliceBound;simp[asIntOf]
      simp[Instr.sliceBound,asIntOf]
     simp only[hb,Result.andThen_ok,run_sizeOf hE iI,vE,add_lit,HO,wo,Nat.sub_zero,ite_self];try rfl
    .have h1:=(hx eF e).trans hx.self.symm;simp only[eD,Value.slice.injEq,rA,Addr.mk.injEq,zw,Jz] at h1;rw[eD,h1.1,h1.2]
   |false=>
   rw[hz,eG] at h2;unfold ik at h2;split at h2
   .rename_i b o;obtain⟨c,e,wd,hg,h3⟩:=mK h2;obtain⟨hc,h4⟩:=bg h3;simp only[cv,BY,oc,dm] at hc;obtain⟨⟨⟨hw,he⟩,ho⟩,cX⟩:=hc;subst he;split at h4
    rotate_left
    .rename_i mx0;obtain⟨hlu0,h4⟩:=bg h4;obtain⟨u,J3,h3⟩:=aw h4;have:=aA h3;simp only[cx] at this;obtain⟨rfl,rfl⟩:=this;refine⟨az.aR s b,λX A ρ w x' FU fG HZ hp hx o1 o2 o3=>?_⟩;obtain⟨hA,c',aL,fr,r1,r2,r3,r4,r5,r6⟩:=hp.st.row (hp.cM b (gy s b)) hg;have YB:(cap-eL)+len<=(ρ b).2:=by
      refine' zaf
     have hcm:dE (ρ b) cap=(ρ b).2-(cap-eL):=by unfold dE;rw[if_pos zE]
     have hlu:len<eL:=qq hlu0;obtain⟨l,hh,m,h4,h5,h6,h7,h8⟩:=rN J3;have:=ir h4;subst this;have hb:=h8 A ρ FU fG HZ o1 o2 o3 P true w (dE (ρ b) cap) (by rw[hcm];omega);simp only[reduceCtorEq,oV] at hb;have YA:m-l<eL:=by have:=h5.1;omega
     refine cA.same hp (by simp) (by simp) (v':=.slice (if m=l then some ⟨(ρ b).1,o,none⟩ else some ((⟨(ρ b).1,o,none⟩:Addr).add (l*sz))) (hh-l) (m-l)) ?_ λeF ee=>?_
     .rw[hx.gd];unfold Instr.sliceAt;simp only[Sem.run_bind,run_underlying hu,Result.andThen_ok];unfold Instr.slice;simp only[Sem.run_bind,run_underlying hu,Result.andThen_ok,hb,run_sizeOf hE iI,vE];rfl
     .rw[ek,Ck];simp only[BY];by_cases J4:m=l
      .simp only[J4,if_true,B0];rw[eD,ee b hA,show l.sub l=0 from B0 l,fA (show 0<eL by decide)];rfl
      .simp only[J4,oV,add_lit];rw[eD,ee b hA,fA (c:=m.sub l) YA];rfl
    obtain⟨l,hh,m,h5,h6,h7,Nh,h8⟩:=rN h4;rw[ek] at h5;split at h5
    rotate_left
    .rename_i hlh;have:=aA h5;simp only[cx] at this;obtain⟨rfl,rfl⟩:=this;refine⟨az.aR s b,λX A ρ w x' FU fG HZ hp hx o1 o2 o3=>?_⟩;obtain⟨hA,c',aL,fr,r1,r2,r3,r4,r5,r6⟩:=hp.st.row (hp.cM b (gy s b)) hg;have YB:(cap-eL)+len<=(ρ b).2:=by
      refine' zaf
     have hcm:dE (ρ b) cap=(ρ b).2-(cap-eL):=by unfold dE;rw[if_pos zE]
     have hb:=h8 A ρ FU fG HZ o1 o2 o3 P true w (dE (ρ b) cap) (by rw[hcm];omega);rw[o3.none] at hb⊢;simp only[if_true] at hb;have h77:=Nh (cy _) rfl;have hll:hh=l:=by
      simp only[mC,BY,oc,not_or] at hlh;have:Nat.succ l=l+1:=rfl;omega
     refine cA.same hp (by simp) (by simp) ?_ (v':=.slice (some ⟨(ρ b).1,if(ρ b).2-(cap-eL)-l=0 then o else o+l*sz,none⟩) 0 ((ρ b).2-(cap-eL)-l)) λeF ee=>?_
     .rw[hx.gd];unfold Instr.sliceAt;simp only[Sem.run_bind,run_underlying hu,Result.andThen_ok];unfold Instr.slice;simp only[Sem.run_bind,run_underlying hu,Result.andThen_ok,hb,run_sizeOf hE iI,vE,add_lit];rw[hcm,hll];have hle:l<=(ρ b).2-(cap-eL):=by omega
      by_cases hq:(ρ b).2-(cap-eL)=l
      .simp[hq]
      .simp[hq];intro h0;omega
     .rw[JY,ee b hA];have:dE (ρ b) (Nat.add cap l)=(ρ b).2-(cap-eL)-l:=by
       have h3:Nat.add cap l=cap+l:=rfl;unfold dE;rw[h3,if_pos af];omega
      rw[this];rfl
    rename_i hlh;have h9:=h5;have:=aA h9;simp only[cx] at this;obtain⟨rfl,rfl⟩:=this;refine⟨az.aR s b,λX A ρ w x' FU fG HZ hp hx o1 o2 o3=>?_⟩;obtain⟨hA,c',aL,fr,r1,r2,r3,r4,r5,r6⟩:=hp.st.row (hp.cM b (gy s b)) hg;have YB:(cap-eL)+len<=(ρ b).2:=by
     refine' zaf
    have hcm:dE (ρ b) cap=(ρ b).2-(cap-eL):=by unfold dE;rw[if_pos zE]
    have hb:=h8 A ρ FU fG HZ o1 o2 o3 P true w (dE (ρ b) cap) (by rw[hcm];omega);rw[o3.none] at hb⊢;simp only[if_true] at hb;refine cA.same hp (by simp) (by simp) ?_ (v':=.slice (some ⟨(ρ b).1,o+l*sz,none⟩) (hh-l) ((ρ b).2-(cap-eL)-l)) λeF ee=>?_
    .rw[hx.gd];unfold Instr.sliceAt;simp only[Sem.run_bind,run_underlying hu,Result.andThen_ok];unfold Instr.slice;simp only[Sem.run_bind,run_underlying hu,Result.andThen_ok,hb,run_sizeOf hE iI,vE,add_lit];have hll:l=0\/l<hh:=by simpa[Q4] using hlh
     have h77:=Nh (cy _) rfl;rw[hcm];by_cases hq:(ρ b).2-(cap-eL)=l
     .have:l=0:=by omega
      subst this;simp[hq]
     .simp[hq]
    .rw[eD,ee b hA];have:dE (ρ b) (Nat.add cap l)=(ρ b).2-(cap-eL)-l:=by
      have h3:Nat.add cap l=cap+l:=rfl;unfold dE;rw[h3,if_pos af];omega
     rw[this];rfl
   .cases h2
 .rename_i n elem b o;obtain⟨sz,iI,h3⟩:=aw h1;obtain⟨hn,h4⟩:=bg h3;have hn:n<eL:=qq hn;obtain⟨u,J3,h5⟩:=aw h4;have:=aA h5;simp only[cx] at this;obtain⟨rfl,rfl⟩:=this;refine⟨az.refl _,λX A ρ w x' FU fG HZ hp hx o1 o2 o3=>?_⟩;obtain⟨l,hh,m,h6,h7,h8,h9,EB⟩:=rN J3;have:=ir h6;subst this;have hb:=EB A ρ FU fG HZ o1 o2 o3 P false w n (cy _);have hm:(if mx=none then n else m)=m:=by
   split
   .rename_i hmx;exact(h7.2 hmx).symm
   .rfl
  rw[hm] at hb;have YA:m-l<eL:=by have:=h7.1;omega
  rw[hx.nt];refine cA.pure hp (v':=.slice (some (if m=l then⟨(ρ b).1,o,none⟩ else(⟨(ρ b).1,o,none⟩:Addr).add (l*sz))) (hh-l) (m-l)) ?_ λeF e=>?_
  .unfold Instr.sliceAt;simp only[Sem.run_bind,run_underlying hu,Result.andThen_ok,Instr.sureAddr,Sem.run_pure,hb,run_sizeOf hE iI]
  .have h1:=(hx eF e).trans hx.self.symm;simp only[mJ,Value.pointer.injEq,rA,Addr.mk.injEq,zw] at h1;rw[ek,Ck];simp only[BY];by_cases J4:m=l
   .simp only[J4,if_true,B0];rw[eD,h1,show l.sub l=0 from B0 l,fA (show 0<eL by decide)];rfl
   .simp only[J4,oV,add_lit];rw[eD,h1,fA (c:=m.sub l) YA];rfl
 .cases h1
end
section
variable {E:dy}{P:Program}{X A:Nat->Prop}{ρ:fP}{s s':St}{w:World}{v v' x y x' y':Value}
theorem FV (off:Nat):∀(vs:aQ)(i:Nat)(cs:Array Value),off+i+vs.length<=cs.size->
  (vs.zipIdx i).foldl (λcs (x:Value×Nat)=>cs.setIfInBounds (off+x.2) x.1) cs=⟨cs.toList.take (off+i)++vs++cs.toList.drop (off+i+vs.length)⟩
 |[],i,cs,_=>by simp
 |v::vs,i,cs,h=>by
  simp only[dh] at h;rw[List.zipIdx_cons,vF,FV off vs (i+1) _ (by simp;omega)];rw[Array.toList_setIfInBounds,show off+(i+1)=off+i+1 by omega,re _ _ _ (by simp;omega),vU,dh,show off+i+1+vs.length=off+i+(vs.length+1) by omega];simp
theorem Ni (bL:Nat->Option (Nat×Nat))(p:Nat×Value)(l:List (Nat×Value))(cells:aQ):
  rH bL (p::l) cells=ob (bL p.1) λq=>eb (Nat.beq (eh (bW p.2)) q.2)<| ob (fO q.1 (bW p.2) cells) λcs=>rH bL l cs:=rfl
def PR (A:Nat->Prop)(ρ:fP):List (Nat×Value)->List (Nat×Value)->Prop
 |[],l=>l=[]
 |p::ps,l=>∃v' r,l=(p.1,v')::r/\VR A ρ p.2 v'/\PR A ρ ps r
theorem x4 (bL:Nat->Option (Nat×Nat))(Nj:Nat->Option (Nat×Nat)):∀(l:List (Nat×Value))(cells:aQ){r:aQ},rH bL l cells=some r->(∀i q,bL i=some q->Nj i=some q)->
  ∀A ρ l' uh,PR A ρ l l'->LR A ρ cells uh->∃r',Instr.fill Nj ⟨uh⟩ l'=some ⟨r'⟩/\LR A ρ r r'
 |[],cells,r,h,_,A,ρ,l',uh,hl,hc=>by
  have:cells=r:=ir h;subst this;have:l'=[]:=hl;subst this;exact⟨uh,rfl,hc⟩
 |p::l,cells,r,h,ri,A,ρ,l',uh,hl,hc=>by
  rw[Ni] at h;obtain⟨q,hq,h1⟩:=aw h;obtain⟨hb,h2⟩:=bg h1;obtain⟨cs,tN,h3⟩:=aw h2;obtain⟨v',r',rfl,hv,hr⟩:=hl;rw[gP] at hb tN;obtain⟨h4,h5⟩:=nE _ _ tN;have hvc:=hv.cells;have hvl:=hvc.length;have tU:=hc.length;have cX:p.2.cells.toList.length=q.2:=by simpa using hb
  have hlen':v'.cells.size=q.2:=by have:=hvl;simp at this cX;omega
  obtain⟨r2,h6,h7⟩:=x4 bL Nj l cs h3 ri A ρ r' (uh.take q.1++v'.cells.toList++uh.drop (q.1+v'.cells.toList.length)) hr (by
   rw[h5,hvl];exact((hc.take q.1).append hvc).append (hc.drop _))
  refine⟨r2,?_,h7⟩;unfold Instr.fill;rw[ri _ _ hq];obtain⟨off,sz⟩:=q;simp only at hlen' h4 cX h6⊢;rw[if_neg (by simp at h4 tU cX⊢;omega)];rw[<-h6]
  congr 1
  have:=FV off v'.cells.toList 0 ⟨uh⟩ (by simp at h4 tU cX⊢;omega);simp only[wo] at this;rw[<-this];rw[<-Array.foldl_toList,Array.toList_zipIdx]
theorem sM (ev MU:Operand->Value):∀(l:List (Nat×Operand)),(∀p∈l,VR A ρ (ev p.2) (MU p.2))->PR A ρ (sD ev l) (l.map λx=>(x.1,MU x.2))
 |[],_=>rfl
 |p::l,h=>⟨MU p.2,_,rfl,h p (by simp),sM ev MU l λq hq=>h q (by simp[hq])⟩
end
section
variable {E:dy}{P:Program}{X A:Nat->Prop}{ρ:fP}{s s':St}{w:World}{v v' x y x' y':Value}
theorem u6 (zs:aQ)(n:Nat):lF zs (n+1)=zs++lF zs n:=rfl
theorem Az (zs:aQ)(n:Nat):(lF zs n).length=n*zs.length:=by
 induction n with
 |zero=>show([]:aQ).length=_;simp
 |succ n ih=>rw[u6,bR,ih,Nat.succ_mul];omega
theorem Uy (zs:aQ)(n:Nat):∀k,k<n*zs.length->(lF zs n)[k]?=zs[k% zs.length]?:=by
 induction n with
 |zero=>intro k h;simp at h
 |succ n ih=>
  intro k h;rw[Nat.succ_mul] at h;rw[u6];rcases kU k zs.length with h1|h1
  .rw[wq h1,HL h1]
  .rw[zu h1,ih _ af,Nat.mod_eq_sub_mod h1]
theorem u7 (z:Value)(n sz:Nat)(hz:z.cells.size=sz)(h0:0<sz):(Array.range (n*sz)).map (z.cells[·% z.cells.size]!)=⟨lF z.cells.toList n⟩:=by
 apply vD;apply Ua;intro k;simp only[Array.toList_map,Array.toList_range,EJ];rcases kU k (n*sz) with h|h
 .rw[Ub h];simp only[vE];rw[Uy _ _ k (by simpa[hz] using h)];have hm:k% z.cells.size<z.cells.size:=Q6 _ af;simp[hm]
 .rw[rB (by simpa using h),rB (by rw[Az];simpa[hz] using h)];rfl
theorem ui {zs:aQ}(h:∀ρ,zs.map (bZ ρ)=zs)(n:Nat):LR A ρ (lF zs n) (lF zs n):=by
 intro eF _;induction n with
 |zero=>show([]:aQ).map _=[];rfl
 |succ n ih=>rw[u6,Jw,h,ih]
theorem pf {z:Value}(h:∀ρ,bZ ρ z=z)(ρ:fP):z.cells.toList.map (bZ ρ)=z.cells.toList:=by
 rw[<-wC,h]
theorem pq {β:Type}{t:Option TypeId}{k:TypeId->Option β}{r:β}(h:elemOf E t k=some r):∃t' e,t=some t'/\iQ E t'=some (.slice e)/\k e=some r:=by
 obtain⟨t',h1,h2⟩:=aw h;obtain⟨d,h3,h4⟩:=aw h2;split at h4
 .exact⟨t',_,h1,h3,h4⟩
 .cases h4
theorem FW {c:aQ}{e:TypeId}{c':aQ}(l k:Nat)(hk:k<eL)(hp:oN P X A ρ s (s.new (.cells c e false)) w)(hc:LR A ρ c c'){m:Sem Value}
  (hm:m.run P w= .ok (.slice (some ⟨w.heap.size,0,none⟩) l k) (w.alloc (.cells ⟨c'⟩ e))):cA P X A ρ s (s.new (.cells c e false)) w (.slice (some ⟨s.next,0,none⟩) l k) m:=by
 refine⟨_,_,ρ.at s.next (w.heap.size,c.length),hm,?_,?_⟩
 .have:=VR.slice (A:=dn A s.next (s.new (.cells c e false)).next) (ρ:=ρ.at s.next (w.heap.size,c.length)) (b:=s.next) (o:=0) (l:=l) (c:=k) (.inr ⟨cy _,by simp⟩);rw[fA hk] at this;simpa using this
 .refine Good.alloc (o:=.cells c e false) (x:=.cells ⟨c'⟩ e) hp.st hp.ec hp.lt (λc=>by simp) (by simp) (jY s _) (cy _) (heap_alloc_new w _) ?_ (Fr.alloc w _);exact⟨c',[],(0,0),by simp,hc,(λh=>by cases h),λ_=>⟨.inl ⟨rfl,rfl⟩,cy _⟩⟩
theorem FY (hE:cS E P)(w:World):∀(fs:List Field){pl:List (Nat×Nat)},places E fs=some pl->(fs.mapM λf=>do pure (f.offset,<-sizeOf f.type):Sem (List (Nat×Nat))).run P w= .ok pl w
 |[],pl,h=>by have:=ir h;subst this;simp
 |f::fs,pl,h=>by
  have h':ob (size E f.type) (λsz=>ob (places E fs) λr=>some ((f.offset,sz)::r))=some pl:=h;obtain⟨sz,h1,h2⟩:=aw h';obtain⟨r,h3,h4⟩:=aw h2;have:=ir h4;subst this;have ih:=FY hE w fs h3;simp only[EK,Sem.run_bind,run_sizeOf hE h1,Sem.run_pure,Result.andThen_ok,ih]
theorem Rm (hE:cS E P){t:TypeId}{ev:Operand->Value}{ps:List (Nat×Operand)}(h:HS E ev s t ps=some (v,s')):s'=s/\∀A ρ (MU:Operand->Value),(∀p∈ps,VR A ρ (ev p.2) (MU p.2))->
  ∃v',(∀w,(Instr.build t (ps.map λx=>(x.1,MU x.2)).toArray).run P w= .ok v' w)/\VR A ρ v v':=by
 obtain⟨z,hz,h1⟩:=aw h;obtain⟨d,hd,h2⟩:=aw h1;clear h h1;have hu:=dW hE hd;split at h2
 .rename_i fs;obtain⟨pl,ri,h3⟩:=aw h2;obtain⟨cs,tN,h4⟩:=aw h3;have:=aA h4;simp only[cx] at this;obtain⟨rfl,rfl⟩:=this;refine⟨rfl,λA ρ MU hev=>?_⟩;obtain⟨r',h5,h6⟩:=x4 (iR pl) (pl.toArray[·]?) _ _ tN (λi q hq=>by simpa using hq) A ρ _ z.cells.toList (sM ev MU ps hev) (by rw[gP];exact λeF _=>pf (mb hE hz) eF);refine⟨.agg ⟨r'⟩,λw=>?_,VR.agg h6⟩;unfold Instr.build;simp only[Sem.run_bind,jX hE hz,Result.andThen_ok,run_underlying hu];have hmm:((⟨fs⟩:Array Field).mapM λf=>do pure (f.offset,<-sizeOf f.type):Sem (Array (Nat×Nat))).run P w= .ok pl.toArray w:=by
   have:=FY hE w fs ri;rw[Array.mapM_eq_mapM_toList];simp only[map_eq_pure_bind,Sem.run_bind,this,Result.andThen_ok,Sem.run_pure]
  simp only[hmm,Result.andThen_ok];simp only[h5];rfl
 .rename_i n e;obtain⟨sz,iI,h3⟩:=aw h2;obtain⟨cs,tN,h4⟩:=aw h3;have:=aA h4;simp only[cx] at this;obtain⟨rfl,rfl⟩:=this;refine⟨rfl,λA ρ MU hev=>?_⟩;obtain⟨r',h5,h6⟩:=x4 (oh sz) (λi=>some (i*sz,sz)) _ _ tN (λi q hq=>hq) A ρ _ z.cells.toList (sM ev MU ps hev) (by rw[gP];exact λeF _=>pf (mb hE hz) eF);refine⟨.agg ⟨r'⟩,λw=>?_,VR.agg h6⟩;unfold Instr.build;simp only[Sem.run_bind,jX hE hz,Result.andThen_ok,run_underlying hu,run_sizeOf hE iI];simp only[h5];rfl
 .cases h2
end
section
variable {E:dy}{P:Program}{X A:Nat->Prop}{ρ:fP}{s s':St}{w:World}{v v' x y x' y':Value}
theorem Cl (hE:cS E P){t:TypeId}{n:Nat}{ev:Operand->Value}{ps:List (Nat×Operand)}(h:tY E ev s t n ps=some (v,s')):az s s'/\∀X A ρ w (MU:Operand->Value),oN P X A ρ s s' w->(∀p∈ps,VR A ρ (ev p.2) (MU p.2))->
  cA P X A ρ s s' w v (Instr.buildSlice t n (ps.map λx=>(x.1,MU x.2)).toArray):=by
 obtain⟨t',e,ht,hd,h1⟩:=pq h;have:=ir ht;subst this;obtain⟨sz,iI,h2⟩:=aw h1;obtain⟨z,hz,h3⟩:=aw h2;obtain⟨hc,h4⟩:=bg h3;obtain⟨cs,tN,h5⟩:=aw h4;have:=aA h5;simp only[cx] at this;obtain⟨rfl,rfl⟩:=this;clear h h1 h2 h3 h4 h5 ht;simp only[cv,BY,oc,dm,gP] at hc;obtain⟨⟨u9,qt⟩,H0⟩:=hc;have hmul:Nat.mul n sz=n*sz:=rfl;rw[hmul] at H0;have hu:=dW hE hd;refine⟨az.jt s _,λX A ρ w MU hp hev=>?_⟩;rw[gP] at tN;obtain⟨r',h5,h6⟩:=x4 (oh sz) (λi=>some (i*sz,sz)) _ _ tN (λi q hq=>hq) A ρ _ _ (sM ev MU ps hev) (ui (pf (mb hE hz)) n);refine FW n n (by simp[eL];have:n<=n*sz:=Uc n qt;omega) hp h6 ?_;unfold Instr.buildSlice;simp only[Sem.run_bind,run_underlying hu,Result.andThen_ok,run_sizeOf hE iI];rw[if_neg af];have hm:=u7 z n sz (by simpa using u9) qt;by_cases h0:n*sz=0
 .have hn:n=0:=by
   rcases Nat.mul_eq_zero.1 h0 with h|h
   .exact h
   .omega
  subst hn;simp only[HO,if_true,Sem.run_pure,Result.andThen_ok];have e1:∀f:Nat->Value,(Array.map f (Array.range 0))=⟨lF z.cells.toList 0⟩:=λf=>by
   apply vD;show _=([]:aQ);simp
  simp only[Sem.run_bind,Sem.run_pure,Result.andThen_ok,e1,h5,pM]
 .simp only[h0,oV,Sem.run_bind,jX hE hz,Result.andThen_ok,Sem.run_pure];rw[hm,h5];simp only[Sem.run_bind,pM,Result.andThen_ok,Sem.run_pure]
theorem ES (hE:cS E P){t:TypeId}(h:wz E s t x y=some (v,s')):az s s'/\∀X A ρ w x' y',oN P X A ρ s s' w->VR A ρ x x'->VR A ρ y y'->cA P X A ρ s s' w v (Instr.makeSlice t x' y'):=by
 obtain⟨t',e,ht,hd,h1⟩:=pq h;have:=ir ht;subst this;obtain⟨i,hi,h2⟩:=aw h1;obtain⟨z,hz,h3⟩:=aw h2;clear h h1 h2 ht;split at h3
 .rename_i kl l kc c;obtain⟨hc,h4⟩:=bg h3;have:=aA h4;simp only[cx] at this;obtain⟨rfl,rfl⟩:=this;clear h3 h4;simp only[cv,BY,oc,dm,gP] at hc;obtain⟨⟨⟨⟨u9,qt⟩,H0⟩,TQ⟩,hc5⟩:=hc;have hu:=dW hE hd;have hI:=hE.ty _ _ hi;refine⟨az.jt s _,λX A ρ w x' y' hp hx hy=>?_⟩;rw[hx.ma,hy.ma];rw[gP] at hp⊢;refine FW l c (by simp[eL];omega) hp (ui (pf (hE.zs _ _ _ hi hz)) c) ?_;have hb:(i.bytes:Int)*(c:Int)<=281474976710656:=by
   have:i.bytes*c<=1000000*1000000:=Nat.mul_le_mul H0 qt;have h2:((i.bytes*c:Nat):Int)<=281474976710656:=by omega
   rwa [Int.natCast_mul] at h2
  have:=run_makeSlice (P:=P) w t e i z hu hI hz kl kc (l:Int) (c:Int) af af;rw[show(Int.ofNat l)=(l:Int) from rfl,show(Int.ofNat c)=(c:Int) from rfl];rw[run_make w t e i z hu hI hz kl kc (l:Int) (c:Int) af af hb af];simp only[tX];have hm:=u7 z c i.size (by simpa using TQ) hc5;rw[show madeCells z.cells (c*i.size)=⟨lF z.cells.toList c⟩ from hm]
 .cases h3
theorem Zo (h:nilV x s=some (v,s')):s'=s/\v=x/\((∃a,x= .pointer (some a))\/∃f a b,x= .func (.func f) a b):=by
 unfold nilV at h;split at h
 .rename_i a;have:=aA h;simp only[cx] at this;exact⟨this.2.symm▸rfl,this.1▸rfl,.inl ⟨a,rfl⟩⟩
 .rename_i f a b;have:=aA h;simp only[cx] at this;exact⟨this.2.symm▸rfl,this.1▸rfl,.inr ⟨f,a,b,rfl⟩⟩
 .cases h
end
section
variable {E:dy}{P:Program}{X A:Nat->Prop}{ρ:fP}{s s':St}{w:World}{v v' x y x' y':Value}
theorem strCells_eq (l:List UInt8):strCells l=l.map λc=>Value.int .u8 (c.toNat:Int):=by
 induction l with
 |nil=>rfl
 |cons c l ih=>exact gb (Value.int .u8 (c.toNat:Int)::·) ih
theorem jN (l:List UInt8)(ρ:fP):(strCells l).map (bZ ρ)=strCells l:=by
 rw[strCells_eq,List.map_map];apply EI;intro c _;simp
theorem fK.drew {g:Nat->Option gh}(h:fK P X A ρ g w):fK P X A ρ g w.drew:=⟨h.fy,h.inj⟩
theorem PH {β:Type}{sz:Nat}{k:Nat->aQ->St->Option β}{r:β}(h:JS s sz x k=some r):∃n new s1,k n new s1=some r/\s1.heap=s.heap/\s1.next=s.next/\s1.wr=s.wr/\az s s1/\new.length=n*sz/\
  ∀X A ρ w x',(∀b,In s1.cM b->X b)->fK P X A ρ s.heap.get w->VR A ρ x x'->∃fL,LR A ρ new fL/\fL=new.map (bZ ρ)/\
   ∀w2,w2.heap=w.heap->(Builtin.lenOf x').run P w2= .ok n w2/\∀m,m<=n->(Builtin.firstCells sz m x').run P w2= .ok ⟨fL.take (m*sz)⟩ w2:=by
 unfold JS at h;split at h
 .rename_i z;obtain⟨h1,h2⟩:=bg h;have h1:sz=1:=by simpa using h1
  subst h1;refine⟨_,_,s,h2,rfl,rfl,rfl,az.refl s,by rw[strCells_eq];simp,λX A ρ w x' hX ji hx=>⟨strCells z,λeF _=>jN z eF,(jN z ρ).symm,λw2 hw=>⟨?_,λm hm=>?_⟩⟩⟩
  .rw[hx.uc,dm];rfl
  .rw[hx.uc];unfold Builtin.firstCells;simp only[Sem.run_pure,extract_mk,Nat.sub_zero,B1,zx]
   congr 1
   apply vD;simp[strCells_eq,List.map_take]
 .rename_i n c;obtain⟨h1,h2⟩:=bg h;have h1:n=0:=by simpa using h1
  subst h1;refine⟨_,_,s,h2,rfl,rfl,rfl,az.refl s,by simp,λX A ρ w x' hX ji hx=>⟨[],LR.nil,rfl,λw2 hw=>⟨?_,λm hm=>?_⟩⟩⟩
  .rw[hx.iV];rfl
  .rw[hx.iV];simp[Builtin.firstCells]
 .rename_i b o n c;obtain⟨cs,e,u,hg,h1⟩:=mK h;obtain⟨new,hn,h2⟩:=aw h1;rw[pL] at hn;obtain⟨h3,h4⟩:=kC hn;rw[gp] at h3;have hmul:Nat.mul n sz=n*sz:=rfl;rw[hmul] at h3 h4;refine⟨_,_,s.aR b,h2,by simp,by simp,by simp,az.aR s b,by rw[h4];simp;omega,λX A ρ w x' hX ji hx=>?_⟩;obtain⟨hA,c',aL,fr,r1,r2,r3,r4,r5,r6⟩:=ji.row (hX b (gy s b)) hg;refine⟨(c'.drop o).take (n*sz),?_,?_,λw2 hw=>⟨?_,λm hm=>?_⟩⟩
  .rw[h4];exact(r2.drop o).take _
  .rw[h4,<-r2.self,List.map_take,List.map_drop]
  .rw[hx.gd];rfl
  .rw[hx.gd];unfold Builtin.firstCells;have hms:m*sz<=n*sz:=JB _ hm;rcases vC (m*sz) with h0|h0
   .simp only[h0,loadCells,loadCellsFrom,List.take_zero];rfl
   .rw[iT P (by rw[hw];exact r1) o (m*sz) (by simp;omega)]
    congr 1
    apply vD;simp only[];rw[Q3 af,BZ (by simp;omega),M5,Ba hms]
 .rename_i b o q n c;obtain⟨h1,h2⟩:=bg h;have h1:n=0:=by simpa using h1
  subst h1;refine⟨_,_,s,h2,rfl,rfl,rfl,az.refl s,by simp,λX A ρ w x' hX ji hx=>⟨[],LR.nil,rfl,λw2 hw=>⟨?_,λm hm=>?_⟩⟩⟩
  .obtain⟨a',rv⟩:=hx.sJ;rw[rv];rfl
  .obtain⟨a',rv⟩:=hx.sJ;have H2:m=0:=Nat.eq_zero_of_le_zero hm;subst H2;rw[rv];simp[Builtin.firstCells,loadCells,loadCellsFrom]
 .cases h
end
section
variable {E:dy}{P:Program}{X A:Nat->Prop}{ρ:fP}{s s':St}{w w':World}{v v' x y x' y':Value}
theorem Nk {e:TypeId}{i:TypeInfo}(hi:P.info? e=some i)(w:World):(typeInfo e).run P w= .ok i w:=by simp[typeInfo,hi]
theorem gQ {ts:Array TypeId}{ty t xt e:TypeId}{xd:TypeDesc}{i:TypeInfo}(h0:ts[0]?=some t)(h1:ts[1]?=some xt)(ht:P.underlying t=some (.slice e))(Jp:P.underlying xt=some xd)(H3:isInt xd=false)(hi:P.info? e=some i)
  {len n cap:Nat}{base:aH}{new:aQ}(hl:(Builtin.lenOf x').run P w= .ok n w)(hf:(Builtin.firstCells i.size n x').run P w= .ok ⟨new⟩ w)(hr:len+n<=cap)
  (hn:base=none->w'=w)(hs:∀a,base=some a->(storeCells (a.add (len*i.size)) new).run P w= .ok () w'):
  (Builtin.append_ ts ty #[.slice base len cap,x']).run P w= .ok (.slice base (len+n) cap) w':=by
 cases xd<;>first|(cases H3;done)|skip
 all_goals
  unfold Builtin.append_;simp only[h0,h1,JC,YS,YT,Sem.run_bind,run_underlying ht,run_underlying Jp,Result.andThen_ok,sizeOf,Nk hi,Sem.run_pure,jH,oV,hl,hr,if_true,HN,hf];cases base with
  |none=>simp[hn rfl]
  |some a=>simp[hs a rfl]
theorem nI {ts:Array TypeId}{ty t xt e:TypeId}{xd:TypeDesc}{i:TypeInfo}{z:Value}(h0:ts[0]?=some t)(h1:ts[1]?=some xt)(ht:P.underlying t=some (.slice e))(Jp:P.underlying xt=some xd)(H3:isInt xd=false)(hi:P.info? e=some i)(hz:i.zero=some z)
  {len n cap:Nat}{base:aH}{old new:aQ}(hl:(Builtin.lenOf x').run P w= .ok n w)(hf:(Builtin.firstCells i.size n x').run P w.drew= .ok ⟨new⟩ w.drew)(ho:(Builtin.firstCells i.size len (.slice base len cap)).run P w.drew= .ok ⟨old⟩ w.drew)(hr:¬len+n<=cap)
  (Zp:len+n<=1000000)(hby:i.bytes<=1000000):
  (Builtin.append_ ts ty #[.slice base len cap,x']).run P w= .ok (.slice (some ⟨w.heap.size,0,none⟩) (len+n) (grownCap w (len+n) cap e)) (w.drew.alloc (.cells (⟨old⟩++⟨new⟩++Builtin.zeroCells z.cells (grownCap w (len+n) cap e-(len+n))) e)):=by
 have hb:(len+n)*i.bytes<=140737488355328:=by
  have:(len+n)*i.bytes<=1000000*1000000:=Nat.mul_le_mul Zp hby;omega
 have hgs:=growslice_fits (need:=len+n) (old:=cap) (bytes:=i.bytes) af hb;have h48:¬(2^ 48<Builtin.nextslicecap (len+n) cap*i.bytes):=by omega
 have h63:¬(((len+n:Nat):Int)>IntKind.i64.max):=by
  have:IntKind.i64.max=9223372036854775807:=rfl;rw[this];omega
 have hq:(Question.appendCap (len+n) cap e).forced=false:=rfl;have dR:(choose (.appendCap (len+n) cap e)).run P w= .ok (grownCap w (len+n) cap e) w.drew:=by
  rfl
 have har:∀k,(askRoom k).run P w.drew= .ok () w.drew:=by
  intro k;unfold askRoom;split<;>simp[mark,Sem.run]
 cases xd<;>first|(cases H3;done)|skip
 all_goals
  unfold Builtin.append_;simp only[h0,h1,JC,YS,YT,Sem.run_bind,run_underlying ht,run_underlying Jp,Result.andThen_ok,sizeOf,Nk hi,Sem.run_pure,jH,oV,hl,hr,HN,if_true,h63,false_and,gt_iff_lt,h48];simp only[dR,har,ho,hf,Result.andThen_ok,zeroValue,Sem.run_bind,Nk hi,Sem.run_pure,hz,pM];rfl
theorem Cm (z:Array Value)(n:Nat):(Builtin.zeroCells z n).toList.length=n*z.size:=by simp[Builtin.zeroCells]
theorem Cn {c c':aQ}{e:TypeId}{i:TypeInfo}{z:Value}{len cap:Nat}(hp:oN P X A ρ s (s.new (.cells c e true)) w)(hc:LR A ρ c c')(hi:P.info? e=some i)(hzs:z.cells.size=i.size)(h0:0<i.size)(hl:c.length=len*i.size)(cX:len<=1000000){m:Sem Value}
  (hm:m.run P w= .ok (.slice (some ⟨w.heap.size,0,none⟩) len (grownCap w len cap e)) (w.drew.alloc (.cells ⟨c'++(Builtin.zeroCells z.cells (grownCap w len cap e-len)).toList⟩ e))):
  cA P X A ρ s (s.new (.cells c e true)) w (bS s len) m:=by
 have YC:P.cellsOf e=i.size:=by simp[Program.cellsOf,hi]
 have Ze:=grownCap_ge w len cap e;have hle:=grownCap_le_maxLen w len cap e (by unfold maxLen;omega);refine⟨_,_,ρ.at s.next (w.heap.size,grownCap w len cap e),hm,?_,?_⟩
 .have:=VR.slice (A:=dn A s.next (s.new (.cells c e true)).next) (ρ:=ρ.at s.next (w.heap.size,grownCap w len cap e)) (b:=s.next) (o:=0) (l:=len) (c:=eL) (.inr ⟨cy _,by simp⟩);simpa[dE,bS] using this
 .refine Good.alloc (o:=.cells c e true) (x:=.cells ⟨c'++(Builtin.zeroCells z.cells (grownCap w len cap e-len)).toList⟩ e) hp.st hp.ec hp.lt (λc=>by simp) (by simp) (jY s _) (cy _) (heap_alloc_new w.drew _) ?_ (Fr.FR w _);refine⟨c',_,(0,0),rfl,hc,λ_=>⟨rfl,?_,by rw[YC];exact h0,hle⟩,λh=>by cases h⟩;rw[Cm,hzs,hl,YC,<-mq]
  congr 1;omega
theorem Good.H4 {s1:St}{eF:fP}(h1:s1.heap=s.heap)(h2:s1.next=s.next)(g:Good P X A ρ s1 s' w w' eF):Good P X A ρ s s' w w' eF:=by
 obtain⟨a,b,c,d,e,f,g,h⟩:=g;rw[h2] at a b c e f g;rw[h1] at d e f g;exact⟨a,b,c,d,e,f,g,h⟩
theorem cA.H4 {s1:St}{m:Sem Value}(h1:s1.heap=s.heap)(h2:s1.next=s.next)(g:cA P X A ρ s1 s' w v m):cA P X A ρ s s' w v m:=by
 obtain⟨v',w',eF,a,b,c⟩:=g;exact⟨v',w',eF,a,by rw[<-h2];exact b,c.H4 h1 h2⟩
theorem oN.H4 {s1 s2:St}(h1:s1.heap=s.heap)(h2:s1.next=s.next)(kD:∀b,In s2.cM b->In s'.cM b)(h:oN P X A ρ s s' w):oN P X A ρ s1 s2 w:=
 ⟨by rw[h2];exact h.lt,by rw[h1,h2];exact h.ec,λb hb=>h.cM b (kD b hb),by rw[h1];exact h.st⟩
theorem rO {g:Nat}{cs:aQ}{e:TypeId}{fr:Nat×Nat}(hg:w.heap[g]?=some (.cells ⟨cs⟩ e fr))(zD:fr=(0,0)\/cs.length<=fr.1)(o:Nat)(vs:aQ)(hl:o+vs.length<=cs.length)(hf:∀v∈vs,flat v=true):
  (storeCells ⟨g,o,none⟩ vs).run P w= .ok () (w.setRow g ⟨cs.take o++vs++cs.drop (o+vs.length)⟩):=by
 have:=lS P g o e fr vs 0 ⟨cs⟩ w hg (by simpa using zD) (by simpa using hl) (λv hv=>by rw[<-JZ];exact hf v hv);simpa using this
theorem Zq (c' aL fL:aQ)(k:Nat)(h:c'.length=k):(c'++aL).take k++fL++(c'++aL).drop (k+fL.length)=(c'++fL)++aL.drop fL.length:=by
 subst h;rw[List.take_left,List.drop_append,zt af];simp
theorem BC (c' aL fL:aQ)(k:Nat)(h:k+fL.length<=c'.length):(c'++aL).take k++fL++(c'++aL).drop (k+fL.length)=(c'.take k++fL++c'.drop (k+fL.length))++aL:=by
 rw[BZ af,Q3 af];simp
theorem arr3 (a b:aQ)(c:Array Value):((⟨a⟩:Array Value)++(⟨b⟩:Array Value)++c)=⟨a++b++c.toList⟩:=by apply vD;simp
theorem J5 (hE:cS E P){elem t xt:TypeId}{xd:TypeDesc}{i:TypeInfo}{z:Value}{base:aH}{len cap n:Nat}{new:aQ}{s1:St}
  (h:og elem i.size base len cap n new s1=some (v,s'))(hi:P.info? elem=some i)(hz:i.zero=some z)(hzs:z.cells.size=i.size)(iI:0<i.size)(hby:i.bytes<=1000000)(nf:new.length=n*i.size)(Nl:∀v∈new,flat v=true)(cX:len+n<=1000000)
  (ht:P.underlying t=some (.slice elem))(Jp:P.underlying xt=some xd)(H3:isInt xd=false):
  az s1 s'/\∀X A ρ w b' x' fL (ts:Array TypeId) ty,oN P X A ρ s1 s' w->VR A ρ (.slice base len cap) b'->LR A ρ new fL->ts[0]?=some t->ts[1]?=some xt->
   (∀w2,w2.heap=w.heap->(Builtin.lenOf x').run P w2= .ok n w2/\(Builtin.firstCells i.size n x').run P w2= .ok ⟨fL⟩ w2)->cA P X A ρ s1 s' w v (Builtin.append_ ts ty #[b',x']):=by
 have YC:P.cellsOf elem=i.size:=by simp[Program.cellsOf,hi]
 unfold og at h;split at h
 .obtain⟨hc,h2⟩:=bg h;simp only[cv,BY] at hc;obtain⟨rfl,rfl⟩:=hc;cases hn:Nat.beq n 0 with
  |true=>
   rw[hn,gw] at h2;have xy:n=0:=by simpa using hn
   subst xy;have:=aA h2;simp only[cx] at this;obtain⟨rfl,rfl⟩:=this;refine⟨az.refl _,λX A ρ w b' x' fL ts ty hp hb kW h0 h1 hx=>?_⟩;rw[hb.iV];have hr:=gQ (ty:=ty) (w':=w) h0 h1 ht Jp H3 hi (hx w rfl).1 (hx w rfl).2 (len:=0) (cap:=0) (base:=none) af (λ_=>rfl) (λa h=>by cases h);exact cA.pure hp hr (VR.ground (by simp))
  |false=>
   rw[hn,eG] at h2;have xy:n≠0:=by intro e;subst e;cases hn
   have:=aA h2;simp only[cx] at this;obtain⟨rfl,rfl⟩:=this;refine⟨az.jt s1 _,λX A ρ w b' x' fL ts ty hp hb kW h0 h1 hx=>?_⟩;rw[hb.iV];have hr:=nI (ty:=ty) h0 h1 ht Jp H3 hi hz (hx w rfl).1 (hx w.drew rfl).2 (len:=0) (cap:=0) (base:=none) (old:=[]) (by simp[Builtin.firstCells]) af af hby;simp only[ni] at hr;refine Cn (cap:=0) hp kW hi hzs iI nf af (hr.trans ?_);rw[arr3,oa]
 .rename_i b o;obtain⟨c,e,wd,hg,h3⟩:=mK h;cases hk:Nat.ble eL cap with
  |true=>
   rw[hk,gw] at h3;obtain⟨hc,h4⟩:=bg h3;simp only[cv,BY,dm] at hc;obtain⟨⟨⟨hw,he⟩,zE⟩,ho⟩:=hc;subst hw he zE ho;have hmul:Nat.mul len i.size=len*i.size:=rfl;have PI:∀ρ:fP,dE (ρ b) eL=(ρ b).2:=λρ=>by simp[dE]
   cases hbq:Nat.beq (eh c) (Nat.mul len i.size) with
   |false=>
    rw[hbq,eG] at h4;obtain⟨hc,h4⟩:=bg h4;simp only[oc,dm] at hc;obtain⟨old,hold,h4⟩:=aw h4;obtain⟨h5,h6⟩:=kC hold;rw[hmul] at h5 h6;have Bd:Nat.add (Nat.mul len i.size) new.length=len*i.size+new.length:=rfl;rw[Bd] at hc;have:=aA h4;simp only[cx] at this;obtain⟨rfl,rfl⟩:=this;have YD:az s1 (((s1.aR b).put b none).new (.cells (old++new) e true)):=((az.aR s1 b).trans (az.put _ b _ (by rw[iS,hg];simp))).trans (az.jt _ _);refine⟨YD,λX A ρ w b' x' fL ts ty hp hb kW h0 h1 hx=>?_⟩;have hX:X b:=hp.cM b ((az.jt _ _).cM b (fe _ b _));obtain⟨hA,c',aL,fr,r1,r2,r3,r4,r5,r6⟩:=hp.st.row hX hg;obtain⟨r7,r8,r9,r10⟩:=r5 rfl;rw[YC] at r8;subst r7;rw[hb.gd,PI];have Uz:=kW.length;have J6:LR A ρ (old++new) (c'.take (len*i.size)++fL):=by rw[h6];exact(r2.take _).append kW
    have vV:len+n<=(ρ b).2:=by
     refine T9 (c:=i.size) ?_ iI;rw[mq];omega
    have ji:=rO (P:=P) r1 r4 (len*i.size) fL (by simp;omega) (kW.jj Nl);have hr:=gQ (ty:=ty) (w':=w.setRow (ρ b).1 ⟨(c'++aL).take (len*i.size)++fL++(c'++aL).drop (len*i.size+fL.length)⟩) h0 h1 ht Jp H3 hi (hx w rfl).1 (hx w rfl).2 (len:=len) (cap:=(ρ b).2) (base:=some ⟨(ρ b).1,0,none⟩) vV (λh=>by cases h) (λa h=>by
     have:=ir h;subst this;rw[add_lit,ni];exact ji)
    refine⟨_,_,ρ.at s1.next (ρ b),hr,?_,?_⟩
    .have:=VR.slice (A:=dn A s1.next (((s1.aR b).put b none).new (.cells (old++new) e true)).next) (ρ:=ρ.at s1.next (ρ b)) (b:=s1.next) (o:=0) (l:=len+n) (c:=eL) (.inr ⟨cy _,by simp⟩);simpa[dE,bS] using this
    .refine Good.renew (o:=.cells c e true) (o':=.cells (old++new) e true) hp.st hp.ec hp.lt hX hg (λc=>by simp) (by simp) ((az.jt _ _).wr b (iU _ b _)) ?_ (setRow_heap w _ _ _ _ _ r1) ?_ (Fr.setRow w _ _)
     .have:=jY ((s1.aR b).put b none) (.cells (old++new) e true);simpa using this
     .refine⟨c'.take (len*i.size)++fL,c'.drop (len*i.size+fL.length)++aL,(0,0),?_,J6,λ_=>⟨rfl,?_,r9,r10⟩,λh=>by cases h⟩
      .rw[BC c' aL fL _ af,kA]
      .rw[YC,bR,bR,gp,h6,dg,Ba h5];omega
   |true=>
   rw[hbq,gw] at h4;have tU:c.length=len*i.size:=by rw[<-dm];exact oM hbq
   cases hn:Nat.beq n 0 with
   |true=>
    rw[hn,gw] at h4;have xy:n=0:=by simpa using hn
    subst xy;have:=aA h4;simp only[cx] at this;obtain⟨rfl,rfl⟩:=this;refine⟨az.aR s1 b,λX A ρ w b' x' fL ts ty hp hb kW h0 h1 hx=>?_⟩;obtain⟨hA,c',aL,fr,r1,r2,r3,r4,r5,r6⟩:=hp.st.row (hp.cM b (gy s1 b)) hg;obtain⟨r7,r8,r9,r10⟩:=r5 rfl;rw[YC] at r8;rw[hb.gd,PI];have hle:len<=(ρ b).2:=T9 (c:=i.size) af iI;have hn':fL=[]:=mG (by rw[kW.length,nf];omega);have hr:=gQ (ty:=ty) (w':=w) h0 h1 ht Jp H3 hi (hx w rfl).1 (hx w rfl).2 (len:=len) (cap:=(ρ b).2) (base:=some ⟨(ρ b).1,0,none⟩) af (λh=>by cases h) (λa h=>by
     subst hn';simp[storeCells])
    refine cA.same hp (by simp) (by simp) hr ?_;have:=VR.slice (A:=A) (ρ:=ρ) (b:=b) (o:=0) (l:=len) (c:=eL) hA;rw[PI] at this;exact this
   |false=>
    rw[hn,eG] at h4;have:=aA h4;simp only[cx] at this;obtain⟨rfl,rfl⟩:=this;have YD:az s1 (((s1.aR b).put b none).new (.cells (c++new) e true)):=((az.aR s1 b).trans (az.put _ b _ (by rw[iS,hg];simp))).trans (az.jt _ _);refine⟨YD,λX A ρ w b' x' fL ts ty hp hb kW h0 h1 hx=>?_⟩;have hX:X b:=hp.cM b ((az.jt _ _).cM b (fe _ b _));obtain⟨hA,c',aL,fr,r1,r2,r3,r4,r5,r6⟩:=hp.st.row hX hg;obtain⟨r7,r8,r9,r10⟩:=r5 rfl;rw[YC] at r8;subst r7;rw[hb.gd,PI];have Uz:=kW.length;have J6:LR A ρ (c++new) (c'++fL):=r2.append kW;by_cases vV:len+n<=(ρ b).2
    .have hfit:len*i.size+n*i.size<=c.length+aL.length:=by rw[r8,<-mq];exact JB _ vV
     have ji:=rO (P:=P) r1 r4 (len*i.size) fL (by simp;omega) (kW.jj Nl);have hr:=gQ (ty:=ty) (w':=w.setRow (ρ b).1 ⟨(c'++aL).take (len*i.size)++fL++(c'++aL).drop (len*i.size+fL.length)⟩) h0 h1 ht Jp H3 hi (hx w rfl).1 (hx w rfl).2 (len:=len) (cap:=(ρ b).2) (base:=some ⟨(ρ b).1,0,none⟩) vV (λh=>by cases h) (λa h=>by
      have:=ir h;subst this;rw[add_lit,ni];exact ji)
     refine⟨_,_,ρ.at s1.next (ρ b),hr,?_,?_⟩
     .have:=VR.slice (A:=dn A s1.next (((s1.aR b).put b none).new (.cells (c++new) e true)).next) (ρ:=ρ.at s1.next (ρ b)) (b:=s1.next) (o:=0) (l:=len+n) (c:=eL) (.inr ⟨cy _,by simp⟩);simpa[dE,bS] using this
     .refine Good.renew (o:=.cells c e true) (o':=.cells (c++new) e true) hp.st hp.ec hp.lt hX hg (λc=>by simp) (by simp) ((az.jt _ _).wr b (iU _ b _)) ?_ (setRow_heap w _ _ _ _ _ r1) ?_ (Fr.setRow w _ _)
      .have:=jY ((s1.aR b).put b none) (.cells (c++new) e true);simpa using this
      .have hcl':c'.length=len*i.size:=by omega
       refine⟨c'++fL,aL.drop fL.length,(0,0),?_,J6,λ_=>⟨rfl,?_,r9,r10⟩,λh=>by cases h⟩
       .rw[Zq c' aL fL _ hcl']
       .rw[YC,bR,gp];omega
    .have hold:(Builtin.firstCells i.size len (.slice (some ⟨(ρ b).1,0,none⟩) len (ρ b).2)).run P w.drew= .ok ⟨c'⟩ w.drew:=by
      unfold Builtin.firstCells;rw[iT P (w:=w.drew) r1 0 (len*i.size) (by simp;omega)];rw[B1,BZ af,q9 af]
     have hr:=nI (ty:=ty) h0 h1 ht Jp H3 hi hz (hx w rfl).1 (hx w.drew rfl).2 (len:=len) (cap:=(ρ b).2) (base:=some ⟨(ρ b).1,0,none⟩) hold vV cX hby;have Bc:Good P X A ρ s1 ((s1.aR b).put b none) w w ρ:=Good.drop (o:=.cells c e true) hp.st hp.ec (λc=>by simp) (by simp) (iU _ b _) hX hg (Fr.refl w _);have hp2:oN P X (dn A s1.next ((s1.aR b).put b none).next) ρ ((s1.aR b).put b none) (((s1.aR b).put b none).new (.cells (c++new) e true)) w:=
      ⟨λj hj=>by
         rcases hj with hj|hj
         .have:=hp.lt j hj;simp;exact this
         .simp at hj;omega,λc hc=>Bc.ec c hc,hp.cM,Bc.state⟩
     obtain⟨v',w',eF,g1,g2,g3⟩:=Cn (cap:=(ρ b).2) (m:=Builtin.append_ ts ty #[.slice (some ⟨(ρ b).1,0,none⟩) len (ρ b).2,x']) hp2 (J6.mono (λi hi=>.inl hi) (λ_ _=>rfl)) hi hzs iI (len:=len+n) (by rw[bR,tU,nf,mq]) cX (hr.trans (by rw[arr3]));refine⟨v',w',eF,g1,?_,?_⟩
     .have:bS ((s1.aR b).put b none) (len+n)=bS s1 (len+n):=by simp[bS]
      refine VR.mono (g2) (λj hj=>?_) (λ_ _=>rfl);rcases hj with(hj|hj)|hj
      .exact .inl hj
      .simp at hj;omega
      .exact .inr (by simpa using hj)
     .exact Good.trans hp.cM ((az.aR s1 b).trans (az.put _ b _ (by rw[iS,hg];simp))) (az.jt _ _) hp.lt Bc g3
  |false=>
   rw[hk,eG] at h3;have zE:cap<eL:=by
    rcases kU cap eL with h|h
    .exact h
    .rw[gR h] at hk;cases hk
   cases hr:Nat.ble (Nat.add len n) cap with
   |true=>
    rw[hr,gw] at h3;have vV:len+n<=cap:=qq hr;cases hn:Nat.beq n 0 with
    |true=>
     rw[hn,gw] at h3;have xy:n=0:=by simpa using hn
     subst xy;have:=aA h3;simp only[cx] at this;obtain⟨rfl,rfl⟩:=this;refine⟨az.aR s1 b,λX A ρ w b' x' fL ts ty hp hb kW h0 h1 hx=>?_⟩;rw[hb.gd,fA zE];have hn':fL=[]:=mG (by rw[kW.length,nf];omega);have hr:=gQ (ty:=ty) (w':=w) h0 h1 ht Jp H3 hi (hx w rfl).1 (hx w rfl).2 (len:=len) (cap:=cap) (base:=some ⟨(ρ b).1,o,none⟩) vV (λh=>by cases h) (λa h=>by
      subst hn';simp[storeCells])
     have hA:=(hp.st.row (hp.cM b (gy s1 b)) hg).1;refine cA.same hp (by simp) (by simp) hr ?_;have:=VR.slice (A:=A) (ρ:=ρ) (b:=b) (o:=o) (l:=len) (c:=cap) hA;rw[fA zE] at this;exact this
    |false=>
     rw[hn,eG] at h3;obtain⟨cs,tN,h4⟩:=aw h3;have:=aA h4;simp only[cx] at this;obtain⟨rfl,rfl⟩:=this;obtain⟨h8,h9⟩:=nE _ _ tN;refine⟨(az.aR s1 b).trans (az.put _ b _ (by rw[iS,hg];simp)),λX A ρ w b' x' fL ts ty hp hb kW h0 h1 hx=>?_⟩;have hX:X b:=hp.cM b (fe _ b _);obtain⟨hA,c',aL,fr,r1,r2,r3,r4,r5,r6⟩:=hp.st.row hX hg;rw[hb.gd,fA zE];have Uz:=kW.length;have Bd:Nat.add o (Nat.mul len i.size)=o+len*i.size:=rfl;rw[Bd] at h8 h9;have ji:=rO (P:=P) r1 r4 (o+len*i.size) fL (by simp;omega) (kW.jj Nl);have hr:=gQ (ty:=ty) (w':=w.setRow (ρ b).1 ⟨(c'++aL).take (o+len*i.size)++fL++(c'++aL).drop (o+len*i.size+fL.length)⟩) h0 h1 ht Jp H3 hi (hx w rfl).1 (hx w rfl).2 (len:=len) (cap:=cap) (base:=some ⟨(ρ b).1,o,none⟩) vV (λh=>by cases h) (λa h=>by
      have:=ir h;subst this;rw[add_lit];exact ji)
     refine⟨_,_,ρ,hr,?_,?_⟩
     .have:=VR.slice (A:=dn A s1.next ((s1.aR b).put b (some (.cells cs e wd))).next) (ρ:=ρ) (b:=b) (o:=o) (l:=len+n) (c:=cap) (.inl hA);rw[fA zE] at this;exact this
     .refine Good.aZ (o:=.cells c e wd) (o':=.cells cs e wd) hp.st hp.ec hX hg (λc=>by simp) (by simp) (iU _ b _) (setRow_heap w _ _ _ _ _ r1) ?_ (Fr.setRow w _ _);have tU:cs.length=c.length:=by rw[h9];simp;omega
      refine⟨c'.take (o+len*i.size)++fL++c'.drop (o+len*i.size+fL.length),aL,fr,?_,?_,?_,?_⟩
      .rw[BC c' aL fL _ af]
      .rw[h9,Uz];exact((r2.take _).append kW).append (r2.drop _)
      .rw[tU];exact r5
      .rw[tU];exact r6
   |false=>
    rw[hr,eG] at h3;have vV:¬len+n<=cap:=λh=>by
     have:Nat.ble (Nat.add len n) cap=true:=gR h;rw[this] at hr;cases hr
    obtain⟨old,hold,h4⟩:=aw h3;have:=aA h4;simp only[cx] at this;obtain⟨rfl,rfl⟩:=this;rw[pL] at hold;obtain⟨h5,h6⟩:=kC hold;have hmul:Nat.mul len i.size=len*i.size:=rfl;rw[hmul] at h5 h6;rw[gp] at h5;refine⟨(az.aR s1 b).trans (az.jt _ _),λX A ρ w b' x' fL ts ty hp hb kW h0 h1 hx=>?_⟩;have hX:X b:=hp.cM b ((az.jt _ _).cM b (gy s1 b));obtain⟨hA,c',aL,fr,r1,r2,r3,r4,r5,r6⟩:=hp.st.row hX hg;rw[hb.gd,fA zE];have hold':(Builtin.firstCells i.size len (.slice (some ⟨(ρ b).1,o,none⟩) len cap)).run P w.drew= .ok ⟨(c'.drop o).take (len*i.size)⟩ w.drew:=by
     unfold Builtin.firstCells;rcases vC (len*i.size) with FZ|FZ
     .simp only[FZ,loadCells,loadCellsFrom,List.take_zero];rfl
     .rw[iT P (w:=w.drew) r1 o (len*i.size) (by simp;omega)]
      congr 1
      apply vD;simp only[];rw[Q3 af,BZ (by simp;omega)]
    have hr:=nI (ty:=ty) h0 h1 ht Jp H3 hi hz (hx w rfl).1 (hx w.drew rfl).2 (len:=len) (cap:=cap) (base:=some ⟨(ρ b).1,o,none⟩) hold' vV cX hby;have J6:LR A ρ (old++new) ((c'.drop o).take (len*i.size)++fL):=by rw[h6];exact((r2.drop o).take _).append kW
    have J7:(old++new).length=(len+n)*i.size:=by
     rw[bR,nf,h6,dg,gp,Ba h5,mq]
    have pr:oN P X A ρ (s1.aR b) ((s1.aR b).new (.cells (old++new) elem true)) w:=hp.H4 (by simp) (by simp) (λ_ h=>h);have:=Cn (cap:=cap) (m:=Builtin.append_ ts ty #[.slice (some ⟨(ρ b).1,o,none⟩) len cap,x']) pr J6 hi hzs iI (len:=len+n) J7 cX (hr.trans (by rw[arr3]));have oO:bS (s1.aR b) (Nat.add len n)=bS (s1.aR b) (len+n):=rfl;rw[oO];exact this.H4 (by simp) (by simp)
 .cases h
end
section
variable {E:dy}{P:Program}{X A:Nat->Prop}{ρ:fP}{s s':St}{w w':World}{v v' x y x' y':Value}
theorem Nn (hE:cS E P){ts:List TypeId}(h:uZ E s ts x y=some (v,s')):az s s'/\∀X A ρ w x' y' ty,oN P X A ρ s s' w->VR A ρ x x'->VR A ρ y y'->cA P X A ρ s s' w v (Builtin.append_ ⟨ts⟩ ty #[x',y']):=by
 obtain⟨t,elem,ht,hd,h1⟩:=pq h;obtain⟨xt,Jp,h2⟩:=aw h1;obtain⟨xd,H3,h3⟩:=aw h2;obtain⟨TR,h4⟩:=bg h3;obtain⟨i,hi,h5⟩:=aw h4;obtain⟨z,hz,h6⟩:=aw h5;obtain⟨hc,h7⟩:=bg h6;obtain⟨n,new,s1,h8,e1,e2,e3,Bc,hnl0,hsrc⟩:=PH (P:=P) h7;obtain⟨nf,h9⟩:=bg h8;obtain⟨Nl,EB⟩:=bg h9;clear h h1 h2 h3 h4 h5 h6 h7 h8 h9;rw[dQ] at ht Jp;simp only[cv,oc,BY,dm,gP] at hc;obtain⟨⟨u9,qt⟩,H0⟩:=hc;have nf:new.length=n*i.size:=by simpa using nf
 have Nl:=(l9 new).1 Nl;split at EB
 .rename_i base len cap;obtain⟨cX,YE⟩:=bg EB;have cX:len+n<=1000000:=qq cX;have hI:=hE.ty _ _ hi;obtain⟨By,hk⟩:=J5 hE YE hI hz (by simpa using H0) u9 qt nf Nl cX (dW hE hd) (dW hE H3) (by simpa using TR);refine⟨Bc.trans By,λX A ρ w x' y' ty hp hx hy=>?_⟩;obtain⟨fL,zF,h13,h14⟩:=hsrc X A ρ w y' (λb hb=>hp.cM b (By.cM b hb)) hp.st hy;refine(hk X A ρ w x' y' fL ⟨ts⟩ ty (hp.H4 e1 e2 λ_ h=>h) hx zF (by simpa using ht) (by simpa using Jp) λw2 Rn=>?_).H4 e1 e2;obtain⟨h15,BD⟩:=h14 w2 Rn;refine⟨h15,?_⟩;rw[BD n (cy _),q9 (by rw[zF.length,nf];exact cy _)]
 .cases EB
theorem UA (hE:cS E P){ts:List TypeId}(h:copyV E s ts x y=some (v,s')):az s s'/\∀X A ρ w x' y' ty,oN P X A ρ s s' w->VR A ρ x x'->VR A ρ y y'->cA P X A ρ s s' w v (Builtin.copy_ ⟨ts⟩ ty #[x',y']):=by
 unfold copyV at h;split at h
 .rename_i b o n cap;obtain⟨t,e,ht,hd,h1⟩:=pq h;obtain⟨sz,iI,h2⟩:=aw h1;obtain⟨k,new,s1,h3,e1,e2,e3,Bc,nf,hsrc⟩:=PH (P:=P) h2;unfold zA at h3;obtain⟨Nl,h4⟩:=bg h3;obtain⟨new2,F0,h5⟩:=aw h4;obtain⟨c,ee,wd,hg,h6⟩:=mK h5;obtain⟨cs,tN,h7⟩:=aw h6;have:=aA h7;simp only[cx] at this;obtain⟨rfl,rfl⟩:=this;clear h h1 h2 h3 h4 h5 h6 h7;rw[dQ] at ht;have Nl:=(l9 new).1 Nl;obtain⟨h8,h9⟩:=kC F0;have Rg:Cc k n=Nat.min k n:=by
   unfold Cc;rw[ek];simp only[oc];show _=min k n;rw[Nat.min_def]
  rw[Rg] at h8 h9⊢;have mc:Nat.min k n<=k:=Nat.min_le_left k n;have hmul:Nat.mul (Nat.min k n) sz=Nat.min k n*sz:=rfl;rw[hmul] at h8 h9;obtain⟨EB,YE⟩:=nE _ _ tN;have YD:az s1 ((s1.aR b).put b (some (.cells cs ee wd))):=(az.aR s1 b).trans (az.put _ b _ (by rw[iS,hg];simp));refine⟨Bc.trans YD,λX A ρ w x' y' ty hp hx hy=>?_⟩;have hX:X b:=hp.cM b (fe _ b _);have Zr:oN P X A ρ s1 ((s1.aR b).put b (some (.cells cs ee wd))) w:=hp.H4 e1 e2 λ_ h=>h
  obtain⟨hA,c',aL,fr,r1,r2,r3,r4,r5,r6⟩:=Zr.st.row hX hg;obtain⟨fL,zF,h13,h14⟩:=hsrc X A ρ w y' (λj hj=>hp.cM j (YD.cM j hj)) hp.st hy;obtain⟨h15,BD⟩:=h14 w rfl;rw[hx.gd];have hn2':LR A ρ new2 (fL.take (Nat.min k n*sz)):=by rw[h9];exact zF.take _
  have tF:=hn2'.length;have ji:=rO (P:=P) r1 r4 o (fL.take (Nat.min k n*sz)) (by rw[tF,bR];omega) (hn2'.jj λu hu=>by rw[h9] at hu;exact Nl u (M6 hu));have hf:=BD _ mc;have hu:=dW hE hd;have nH:(Builtin.copy_ ⟨ts⟩ ty #[.slice (some ⟨(ρ b).1,o,none⟩) n (dE (ρ b) cap),y']).run P w= .ok (.int .i64 (.ofNat (Nat.min k n))) (w.setRow (ρ b).1 ⟨(c'++aL).take o++fL.take (Nat.min k n*sz)++(c'++aL).drop (o+(fL.take (Nat.min k n*sz)).length)⟩):=by
   unfold Builtin.copy_;have ht':(⟨ts⟩:Array TypeId)[0]?=some t:=by simpa using ht
   simp only[ht',JC,YS,YT,Sem.run_bind,run_underlying hu,Result.andThen_ok,h15,run_sizeOf hE iI,hf,ji];rfl
  refine cA.H4 e1 e2 ⟨_,_,ρ,nH,VR.int _ _,?_⟩;refine Good.aZ (o:=.cells c ee wd) (o':=.cells cs ee wd) Zr.st Zr.ec hX hg (λc=>by simp) (by simp) (iU _ b _) (setRow_heap w _ _ _ _ _ r1) ?_ (Fr.setRow w _ _);have tU:cs.length=c.length:=by rw[YE];simp;omega
  refine⟨c'.take o++fL.take (Nat.min k n*sz)++c'.drop (o+(fL.take (Nat.min k n*sz)).length),aL,fr,?_,?_,?_,?_⟩
  .rw[BC c' aL _ _ af]
  .rw[YE,tF];exact((r2.take _).append hn2').append (r2.drop _)
  .rw[tU];exact r5
  .rw[tU];exact r6
 .cases h
theorem F1 {zs:aQ}(h:∀y∈zs,flat y=true):∀(n:Nat),∀y∈lF zs n,flat y=true
 |0,_,hy=>by cases hy
 |n+1,y,hy=>by
  rw[u6] at hy;exact(fJ.1 hy).elim (h y) (F1 h n y)
theorem Ro (hE:cS E P){ts:List TypeId}(h:zB E s ts x=some (v,s')):az s s'/\∀X A ρ w x' ty,oN P X A ρ s s' w->VR A ρ x x'->cA P X A ρ s s' w v (Builtin.clear_ ⟨ts⟩ ty #[x']):=by
 unfold zB at h;split at h
 .rename_i n c;obtain⟨t,e,ht,hd,h1⟩:=pq h;have:=aA h1;simp only[cx] at this;obtain⟨rfl,rfl⟩:=this;rw[dQ] at ht;have hu:=dW hE hd;refine⟨az.refl _,λX A ρ w x' ty hp hx=>cA.pure hp (v':=.tuple #[]) ?_ (VR.ground (by simp))⟩;rw[hx.iV];simp[Builtin.clear_,ht,run_underlying hu]
 .rename_i b o q n c;obtain⟨t,e,ht,hd,h1⟩:=pq h;rw[dQ] at ht;have hu:=dW hE hd;cases hn:Nat.beq n 0 with
  |true=>
   rw[show Nat.beq n (nat_lit 0)=true from hn,gw] at h1;have xy:n=0:=by simpa using hn
   subst xy;have:=aA h1;simp only[cx] at this;obtain⟨rfl,rfl⟩:=this;refine⟨az.refl _,λX A ρ w x' ty hp hx=>cA.pure hp (v':=.tuple #[]) ?_ (VR.ground (by simp))⟩;obtain⟨a',rfl⟩:=hx.sJ;simp[Builtin.clear_,ht,run_underlying hu]
  |false=>
   rw[show Nat.beq n (nat_lit 0)=false from hn,eG] at h1;obtain⟨hq,h2⟩:=bg h1;have:=PG hq;subst this;obtain⟨cs0,e',wd,hg,h3⟩:=mK h2;obtain⟨sz,iI,h4⟩:=aw h3;obtain⟨z,hz,h5⟩:=aw h4;obtain⟨hc,h6⟩:=bg h5;obtain⟨cs,tN,h7⟩:=aw h6;have:=aA h7;simp only[cx] at this;obtain⟨rfl,rfl⟩:=this;simp only[cv,oc,BY,dm,gP] at hc;obtain⟨⟨u9,qt⟩,H0⟩:=hc;rw[gP] at tN;refine⟨(az.aR s b).trans (az.put _ b _ (by rw[iS,hg];simp)),λX A ρ w x' ty hp hx=>?_⟩;have hX:X b:=hp.cM b (fe _ b _);obtain⟨hA,c',aL,fr,r2,r3,r4,r5,r6,r7⟩:=hp.st.row hX hg;obtain⟨h8,h9⟩:=nE _ _ tN;have UB:(lF z.cells.toList n).length=n*sz:=by rw[<-u9];exact Az _ _
   have hrf:∀y∈lF z.cells.toList n,flat y=true:=F1 ((l9 _).1 H0) n;have Rp:LR A ρ (lF z.cells.toList n) (lF z.cells.toList n):=ui (λeF=>by rw[<-wC,mb hE hz]) n;have tU:c'.length=cs0.length:=r3.length;have xy:n≠0:=by rintro rfl;cases hn
   rw[hx.gd];have nH:(Builtin.clear_ ⟨ts⟩ ty #[.slice (some ⟨(ρ b).1,o,none⟩) n (dE (ρ b) c)]).run P w= .ok (.tuple #[]) (w.setRow (ρ b).1 ⟨(c'++aL).take o++lF z.cells.toList n++(c'++aL).drop (o+(lF z.cells.toList n).length)⟩):=by
    have EB:=rO (P:=P) (g:=(ρ b).1) (cs:=c'++aL) (e:=e') (fr:=fr) (w:=w) r2 (by simpa using r5) o (lF z.cells.toList n) (by rw[bR];omega) hrf;have hm:=u7 z n sz (by simpa using u9) qt;have hzc:Builtin.zeroCells z.cells n=⟨lF z.cells.toList n⟩:=by
     unfold Builtin.zeroCells;rw[show z.cells.size=sz by simpa using u9];rw[show z.cells.size=sz by simpa using u9] at hm;exact hm
    unfold Builtin.clear_;simp only[JC,ht,Sem.run_bind,run_underlying hu,Result.andThen_ok];simp only[JC,YS,Sem.run_bind,run_underlying hu,Result.andThen_ok];rw[jX hE hz];simp only[Result.andThen_ok,hzc];rw[show(storeCells ⟨(ρ b).1,o,none⟩ (⟨lF z.cells.toList n⟩:Array Value).toList).run P w=_ from EB];rfl
   refine⟨_,_,ρ,nH,VR.ground (by simp),?_⟩;refine Good.aZ (o:=.cells cs0 e' wd) (o':=.cells cs e' wd) hp.st hp.ec hX hg (λc=>by simp) (by simp) (iU _ b _) (setRow_heap w _ _ _ _ _ r2) ?_ (Fr.setRow w _ _);have hle:cs.length=cs0.length:=by rw[h9];simp;omega
   refine⟨c'.take o++lF z.cells.toList n++c'.drop (o+(lF z.cells.toList n).length),aL,fr,by rw[BC c' aL _ o af],?_,?_,?_⟩
   .rw[h9];exact((r3.take o).append Rp).append (r3.drop _)
   .rw[hle];exact r6
   .rw[hle];exact r7
 .cases h
end
section
variable {E:dy}{P:Program}{X A:Nat->Prop}{ρ:fP}{s s':St}{w w':World}{v v' x y x' y':Value}
theorem ET (h:wx x s=some (v,s')):az s s'/\∀X A ρ w x' ts ty,oN P X A ρ s s' w->VR A ρ x x'->cA P X A ρ s s' w v (Builtin.unsafeSliceData_ ts ty #[x']):=by
 unfold wx at h;split at h
 .rename_i b n cap;obtain⟨hc,h1⟩:=bg h;obtain⟨c,e,wd,hg,h2⟩:=mK h1;obtain⟨hw,h3⟩:=bg h2;have:=aA h3;simp only[cx] at this;obtain⟨rfl,rfl⟩:=this;have hc:cap=eL:=by simpa using hc
  subst hc;simp only[cv,oc,dm] at hw;obtain⟨rfl,hl⟩:=hw;refine⟨az.aR s b,λX A ρ w x' ts ty hp hx=>?_⟩;obtain⟨hA,c',aL,fr,r1,r2,r3,r4,r5,r6⟩:=hp.st.row (hp.cM b (gy s b)) hg;obtain⟨r7,r8,r9,r10⟩:=r5 rfl;rw[hx.gd];refine cA.same hp (by simp) (by simp) (Lib.run_unsafeSliceData_row w ts ty _ n _ ?_) (VR.ptr hA);simp only[dE,cy,if_true,B0,Nat.sub_zero];rintro h0;rw[h0] at r8;omega
 .cases h
theorem No (v:Value)(l:aQ):Aw (v::l)=match v with
  |.int .u8 (.ofNat k)=>eb (Nat.ble (Nat.succ k) 256)<| ob (Aw l) λr=>some (UInt8.ofNat k::r)
  |_=>none:=rfl
theorem Co:∀(l:aQ){bs:List UInt8},Aw l=some bs->l=strCells bs
 |[],bs,h=>by have:=ir h;subst this;rfl
 |v::l,bs,h=>by
  rw[No] at h;split at h
  .rename_i k;obtain⟨h1,h2⟩:=bg h;obtain⟨r,h3,h4⟩:=aw h2;have:=ir h4;subst this;have hk:k<256:=by simpa[Q4] using h1
   have ih:=Co l h3;rw[strCells_eq,xC,ih,strCells_eq]
   congr 2
   have:(UInt8.ofNat k).toNat=k:=by simp[UInt8.toNat_ofNat,HL hk]
   rw[this];rfl
  .cases h
theorem Fr.freeze (w:World)(g n:Nat):Fr w (w.freeze ⟨g,0,none⟩ n) λr=>r=g:=by
 unfold World.freeze;split
 .exact Fr.refl w _
 .refine⟨rfl,rfl,rfl,by simp,λr hr gx=>?_⟩;simp only[M7];rw[if_neg (λe=>gx e.symm)]
theorem zG (hE:cS E P){ts:List TypeId}(h:ra E ts x y s=some (v,s')):az s s'/\∀X A ρ w x' y' ty,oN P X A ρ s s' w->VR A ρ x x'->VR A ρ y y'->cA P X A ρ s s' w v (Builtin.unsafeString_ ⟨ts⟩ ty #[x',y']):=by
 unfold ra at h;split at h
 .rename_i pt it b n;obtain⟨c,e,wd,hg,h1⟩:=mK h;obtain⟨d,hd,h2⟩:=aw h1;split at h2
  .rename_i e';obtain⟨sz,iI,h3⟩:=aw h2;obtain⟨hc,h4⟩:=bg h3;obtain⟨l,hl,h5⟩:=aw h4;obtain⟨bs,hbs,h6⟩:=aw h5;have:=aA h6;simp only[cx] at this;obtain⟨rfl,rfl⟩:=this;simp only[cv,oc,BY] at hc;obtain⟨⟨⟨he,tP⟩,PJ⟩,F0⟩:=hc;subst he tP;have hu:=dW hE hd;refine⟨(az.aR s b).trans (az.put _ b _ (by rw[iS,hg];simp)),λX A ρ w x' y' ty hp hx hy=>?_⟩;have hX:X b:=hp.cM b (fe _ b _);obtain⟨hA,c',aL,fr,r1,r2,r3,r4,r5,r6⟩:=hp.st.row hX hg;rw[hx.nt,hy.ma];obtain⟨h7,h8⟩:=kC hl;have h9:=Co _ hbs;have cX:bs.length=n:=by
    have:=gb List.length h9;rw[h8,strCells_eq,vL,dg] at this;omega
   have J6:LR A ρ (strCells bs) (c'.take n):=by rw[<-h9,h8];exact r2.take n
   have tM:c'.take n=strCells bs:=by rw[<-J6.self,jN]
   have nH:=Lib.run_unsafeString_row (P:=P) w pt it ty e hu (by rw[nF hE iI]) (ρ b).1 (c'++aL).length (by simp[World.shape?,r1]) bs (by rintro rfl;simp at cX;omega) (by rw[bR];omega) af (λj u hu=>by
    rw[add_lit,ni,xY r1];have hj:j<n:=by rw[<-cX];exact(tL.1 hu).1
    rw[wq af];have:(c'.take n)[j]?=some (.int .u8 (u.toNat:Int)):=by rw[tM,strCells_eq];simp[hu]
    rw[Jy,if_pos hj] at this;exact this)
   rw[cX] at nH;refine⟨_,_,ρ,nH,VR.str _,?_⟩;exact Good.drop (o:=.cells c e wd) hp.st hp.ec (λc=>by simp) (by simp) (iU _ b _) hX hg (Fr.freeze w _ n)
  .cases h2
 .cases h
end
section
variable {E:dy}{P:Program}{X A:Nat->Prop}{ρ:fP}{s s':St}{w w':World}{v v' x y x' y':Value}
theorem J8 (bs:List UInt8):∀(cM:List UInt8),(bs.map λb=>(b.toNat:Int)).foldl (λ(r:ByteArray) n=>r.push (UInt8.ofNat n.toNat)) ⟨⟨cM⟩⟩=⟨⟨cM++bs⟩⟩:=by
 induction bs with
 |nil=>intro cM;simp
 |cons b bs ih=>
  intro cM;rw[xC,vF];have:(⟨⟨cM⟩⟩:ByteArray).push (UInt8.ofNat ((b.toNat:Int)).toNat)=⟨⟨cM++[b]⟩⟩:=by
   apply ByteArray.ext;simp[ByteArray.push]
  rw[this,ih];simp
theorem UC (hE:cS E P){src dst:TypeId}(h:vS E s src dst x=some (v,s')):az s s'/\∀X A ρ w x',oN P X A ρ s s' w->VR A ρ x x'->cA P X A ρ s s' w v (convert src dst x'):=by
 obtain⟨ds,hs,h1⟩:=aw h;obtain⟨dd,hd,h2⟩:=aw h1;clear h h1;have Rq:=dW hE hs;have hud:=dW hE hd;split at h2
 .rename_i k0 k k1 n;have:=aA h2;simp only[cx] at this;obtain⟨rfl,rfl⟩:=this;refine⟨az.refl _,λX A ρ w x' hp hx=>cA.pure hp (v':=.int k (pJ k n)) ?_ (VR.int _ _)⟩;rw[hx.ma,jM];unfold convert;simp only[Sem.run_bind,run_underlying Rq,run_underlying hud,Result.andThen_ok];rfl
 .rename_i e a n c;obtain⟨d,H5,h3⟩:=aw h2;obtain⟨hb,h4⟩:=bg h3;have hue:=dW hE H5;have hd8:d= .int .u8:=by
   unfold isByte at hb;split at hb
   .rfl
   .cases hb
  subst hd8;have UD:∀w x',(∀s,x'≠ .string s)->(∀k n,x'≠ .int k n)->(convert src dst x').run P w=(Conv.bytesToString x').run P w:=by
   intro w x' q1 q2;unfold convert;simp only[Sem.run_bind,run_underlying Rq,run_underlying hud,Result.andThen_ok];rw[run_underlying hue];rfl
  unfold M8 at h4;split at h4
  .have:=aA h4;simp only[cx] at this;obtain⟨rfl,rfl⟩:=this;refine⟨az.refl _,λX A ρ w x' hp hx=>cA.pure hp (v':=.string ⟨⟨[]⟩⟩) ?_ (VR.str _)⟩;rw[hx.iV,UD w _ (by simp) (by simp)];rfl
  .rename_i b o;obtain⟨cs,e2,wd,hg,h5⟩:=mK h4;obtain⟨l,hl,h6⟩:=aw h5;obtain⟨bs,hbs,h7⟩:=aw h6;have:=aA h7;simp only[cx] at this;obtain⟨rfl,rfl⟩:=this;refine⟨az.aR s b,λX A ρ w x' hp hx=>?_⟩;obtain⟨hA,c',aL,fr,r1,r2,r3,r4,r5,r6⟩:=hp.st.row (hp.cM b (gy s b)) hg;rw[hx.gd];rw[pL] at hl;obtain⟨h8,h9⟩:=kC hl;rw[gp] at h8;have EB:=Co _ hbs;have J6:LR A ρ (strCells bs) ((c'.drop o).take n):=by rw[<-EB,h9];exact(r2.drop o).take n
   have tM:(c'.drop o).take n=strCells bs:=by rw[<-J6.self,jN]
   refine cA.same hp (by simp) (by simp) (v':=.string ⟨⟨bs⟩⟩) ?_ (VR.str _);rw[UD w _ (by simp) (by simp)];have hload:(loadCells ⟨(ρ b).1,o,none⟩ n).run P w= .ok ((bs.map λb=>(b.toNat:Int)).map (Value.int .u8)).toArray w:=by
    rcases vC n with h0|h0
    .subst h0;have:bs=[]:=by
      have:=gb List.length tM;simp[strCells_eq] at this;exact mG this.symm
     subst this;rfl
    .rw[iT P r1 o n (by simp;omega)];rw[Q3 af,BZ (by simp;omega),tM,strCells_eq,List.map_map];rfl
   rw[run_bytesToString w _ n _ _ hload];have:=J8 bs [];rw[oa] at this;rw[<-this];rfl
  .rename_i b o q;obtain⟨h5,h6⟩:=bg h4;have hn:n=0:=oM h5;subst hn;have:=aA h6;simp only[cx] at this;obtain⟨rfl,rfl⟩:=this;refine⟨az.refl _,λX A ρ w x' hp hx=>cA.pure hp (v':=.string ⟨⟨[]⟩⟩) ?_ (VR.str _)⟩;obtain⟨a',rv⟩:=hx.sJ;rw[rv,UD w _ (by simp) (by simp),run_bytesToString w _ 0 _ [] rfl];rfl
 .rename_i t b;obtain⟨c,e,wd,hg,h3⟩:=mK h2;obtain⟨sz,iI,h4⟩:=aw h3;obtain⟨hc,h5⟩:=bg h4;have:=aA h5;simp only[cx] at this;obtain⟨rfl,rfl⟩:=this;simp only[cv,oc,dm,pG] at hc;obtain⟨⟨rfl,hl⟩,tP⟩:=hc;refine⟨az.aR s b,λX A ρ w x' hp hx=>?_⟩;obtain⟨hA,c',aL,fr,r1,r2,r3,r4,r5,r6⟩:=hp.st.row (hp.cM b (gy s b)) hg;obtain⟨i,Jq,tG⟩:=Bz hE iI;rw[hx.nt];refine cA.same hp (by simp) (by simp) (Lib.run_to_unsafe w ⟨(ρ b).1,0,none⟩ Rq hud Jq af (e:=e) (cells:=(c'++aL).length) (by simp[World.shape?,r1]) (by simp;omega)) (VR.ptr hA)
 .rename_i u b;obtain⟨c,e,wd,hg,h3⟩:=mK h2;obtain⟨sz,iI,h4⟩:=aw h3;obtain⟨hc,h5⟩:=bg h4;have:=aA h5;simp only[cx] at this;obtain⟨rfl,rfl⟩:=this;simp only[cv,BY,dm,pG] at hc;obtain⟨⟨⟨rfl,hl⟩,he⟩,hu⟩:=hc;subst he hu;refine⟨az.aR s b,λX A ρ w x' hp hx=>?_⟩;obtain⟨hA,c',aL,fr,r1,r2,r3,r4,r5,r6⟩:=hp.st.row (hp.cM b (gy s b)) hg;obtain⟨i,Jq,tG⟩:=Bz hE iI;rcases(r6 rfl).1 with⟨h7,_⟩|⟨h7,_⟩
  .subst h7;rw[hx.nt];refine cA.same hp (by simp) (by simp) (Lib.run_from_unsafe w ⟨(ρ b).1,0,none⟩ Rq hud Jq (e:=E.Uj) (cells:=2) (by simp[World.shape?,r1,r3,hl]) hE.Uj) (VR.ptr hA)
  .exact absurd h7 hE.bld8
 .rename_i e z;obtain⟨d,H5,h3⟩:=aw h2;obtain⟨hb,h4⟩:=bg h3;obtain⟨sz,iI,h5⟩:=aw h4;obtain⟨hc,h6⟩:=bg h5;have:=aA h6;simp only[cx] at this;obtain⟨rfl,rfl⟩:=this;simp only[cv,BY,oc,dm] at hc;obtain⟨rfl,hlz⟩:=hc;have hue:=dW hE H5;have hd8:d= .int .u8:=by
   unfold isByte at hb;split at hb
   .rfl
   .cases hb
  subst hd8;refine⟨az.jt s _,λX A ρ w x' hp hx=>?_⟩;rw[hx.uc];have hsize:(⟨⟨z⟩⟩:ByteArray).size=z.length:=rfl;have Ze:=grownCap_ge w z.length 0 e;have nH:(convert src dst (.string ⟨⟨z⟩⟩)).run P w= .ok (.slice (some ⟨w.heap.size,0,none⟩) z.length (grownCap w z.length 0 e)) ((w.drew.alloc (.cells ⟨strCells z++List.replicate (grownCap w z.length 0 e-z.length) (.int .u8 0)⟩ e)).freeze ⟨w.heap.size,grownCap w z.length 0 e,none⟩ 1):=by
   unfold convert;simp only[Sem.run_bind,run_underlying Rq,run_underlying hud,Result.andThen_ok,run_underlying hue];have dR:(choose (.appendCap z.length 0 e)).run P w= .ok (grownCap w z.length 0 e) w.drew:=rfl;unfold Conv.stringToBytes;rw[hsize];simp only[Sem.run_bind,dR,Result.andThen_ok,pM];have EU:((⟨⟨z⟩⟩:ByteArray).data.map λb=>Value.int .u8 (b.toNat:Int))++Array.replicate (grownCap w z.length 0 e-z.length) (Value.int .u8 0)=⟨strCells z++List.replicate (grownCap w z.length 0 e-z.length) (.int .u8 0)⟩:=by
    apply vD;simp[strCells_eq]
   rw[EU];have BB:((w.drew.alloc (.cells ⟨strCells z++List.replicate (grownCap w z.length 0 e-z.length) (.int .u8 0)⟩ e)).shape? w.heap.size)=some (e,grownCap w z.length 0 e):=by
    unfold World.shape?;rw[show w.heap.size=w.drew.heap.size from rfl,heap_alloc_new];simp only[rA,cx,Jz];show(strCells z++List.replicate (grownCap w z.length 0 e-z.length) (Value.int .u8 0)).length=_;rw[bR,rC,strCells_eq,vL];omega
   unfold markStringish;have e1:w.drew.heap.size=w.heap.size:=rfl;simp only[Sem.run_bind,shape,freeze,Sem.run,e1,BB,Result.andThen_ok,Sem.run_pure]
  refine⟨_,_,ρ.at s.next (w.heap.size,grownCap w z.length 0 e),nH,?_,?_⟩
  .have:=VR.slice (A:=dn A s.next (s.new (.cells (strCells z) e false)).next) (ρ:=ρ.at s.next (w.heap.size,grownCap w z.length 0 e)) (b:=s.next) (o:=0) (l:=z.length) (c:=eL) (.inr ⟨cy _,by simp⟩);simpa[dE,bS] using this
  .refine Good.alloc (o:=.cells (strCells z) e false) (x:=.cells ⟨strCells z++List.replicate (grownCap w z.length 0 e-z.length) (.int .u8 0)⟩ e (grownCap w z.length 0 e,grownCap w z.length 0 e+1)) hp.st hp.ec hp.lt (λc=>by simp) (by simp) (jY s _) (cy _) ?_ ?_ ?_
   .unfold World.freeze;rw[if_neg (by decide)];simp only[M7];rw[if_pos trivial,show w.heap.size=w.drew.heap.size from rfl,heap_alloc_new];rfl
   .refine⟨strCells z,_,_,rfl,λeF _=>jN z eF,(λh=>by cases h),λ_=>⟨.inr ⟨hue,nF hE iI,?_⟩,by rw[strCells_eq,vL];exact Ze⟩⟩
    .rw[strCells_eq,vL,rC];simp;omega
   .refine⟨rfl,rfl,rfl,?_,λr hr _=>?_⟩
    .unfold World.freeze;rw[if_neg (by decide)];simp
    .unfold World.freeze;rw[if_neg (by decide)];simp only[M7];rw[if_neg af];exact(Fr.FR w _).block r hr (λh=>h)
 .rename_i e0 e b o n c;obtain⟨d,H5,h3⟩:=aw h2;obtain⟨hb,h4⟩:=bg h3;obtain⟨cs,e',wd,hg,h5⟩:=mK h4;obtain⟨sz,iI,h6⟩:=aw h5;obtain⟨d',hde',h7⟩:=aw h6;obtain⟨hc,h8⟩:=bg h7;have:=aA h8;simp only[cx] at this;obtain⟨rfl,rfl⟩:=this;simp only[cv,BY] at hb hc;obtain⟨hb,rfl⟩:=hb;obtain⟨kX,rfl⟩:=hc;have he0:e0=e:=by rw[hs] at hd;cases hd;rfl
  subst he0;have h8:∀{d:TypeDesc},isByte d=true->d= .int .u8:=λhb=>by
   unfold isByte at hb;split at hb
   .rfl
   .cases hb
  have hd8:=h8 hb;subst hd8;have hd8':=h8 kX;subst hd8';have hue:=dW hE H5;have hue':=dW hE hde';refine⟨(az.aR s b).trans (az.put _ b _ (by rw[iS,hg];simp)),λX A ρ w x' hp hx=>?_⟩;have hX:X b:=hp.cM b (fe _ b _);obtain⟨hA,c',aL,fr,r1,r2,r3,r4,r5,r6⟩:=hp.st.row hX hg;rw[hx.gd];have tD:P.cellsOf e'=1:=nF hE iI;have cX:(⟨c'++aL⟩:Array Value).size=cs.length+aL.length:=by show(c'++aL).length=_;rw[bR,r3]
  have nH:(convert src src (.slice (some ⟨(ρ b).1,o,none⟩) n (dE (ρ b) c))).run P w= .ok (.slice (some ⟨(ρ b).1,o,none⟩) n (dE (ρ b) c)) (w.freeze ⟨(ρ b).1,cs.length+aL.length,none⟩ 1):=by
   unfold convert;simp only[Sem.run_bind,run_underlying Rq,run_underlying hud,Result.andThen_ok,run_underlying hue];have BB:w.shape? (ρ b).1=some (e',cs.length+aL.length):=by
    unfold World.shape?;rw[r1];simp only[rA,cx,Jz];exact cX
   have heq:(src== src)=true:=by simp
   rw[heq];simp only[run_underlying hue,Result.andThen_ok];unfold markStringish;simp only[Sem.run_bind,shape,freeze,Sem.run,BB,Result.andThen_ok,Sem.run_pure]
  have hfz:∃fr2:Nat×Nat,(w.freeze ⟨(ρ b).1,cs.length+aL.length,none⟩ 1).heap[(ρ b).1]?=some (.cells ⟨c'++aL⟩ e' fr2)/\cs.length+aL.length<=fr2.1:=by
   unfold World.freeze;rw[if_neg (by decide)];simp only[M7];rw[if_pos trivial,r1];obtain⟨lo,hi⟩:=fr;refine⟨_,rfl,?_⟩;split
   .exact cy _
   .rename_i gx;rcases r4 with h|h
    .cases h;exact absurd gx (by simp)
    .rw[bR,r3] at h;simp only;simp only at h;omega
  obtain⟨fr2,hf1,hf2⟩:=hfz;refine⟨_,_,ρ,nH,?_,?_⟩
  .exact VR.slice (.inl hA)
  .refine Good.aZ (o:=.cells cs e' wd) (o':=.cells cs e' false) hp.st hp.ec hX hg (λc=>by simp) (by simp) (iU _ b _) hf1 ?_ ?_
   .exact⟨c',aL,fr2,rfl,r2,(λh=>by cases h),λ_=>⟨.inr ⟨hue',tD,hf2⟩,by
     cases wd with
     |false=>exact(r6 rfl).2
     |true=>
      have h8:=(r5 rfl).2.1;rw[tD,zx] at h8;omega⟩⟩
   .refine⟨rfl,rfl,rfl,?_,λr hr h2=>?_⟩
    .unfold World.freeze;rw[if_neg (by decide)];simp
    .unfold World.freeze;rw[if_neg (by decide)];simp only[M7];rw[if_neg (λh=>h2 h.symm)]
 .cases h2
end
section
variable {E:dy}{P:Program}{X A:Nat->Prop}{ρ:fP}{s s':St}{w w':World}{v v' x y x' y':Value}
theorem Np (t:TypeId):∀X A ρ w,oN P X A ρ s (s.new (.map [])) w->cA P X A ρ s (s.new (.map [])) w (.map (some s.next)) (Instr.makeMap t none):=by
 intro X A ρ w hp;refine⟨.map (some w.heap.size),w.alloc (.map #[] 0),ρ.at s.next (w.heap.size,0),rfl,?_,?_⟩
 .have:=VR.mapv (A:=dn A s.next (s.new (.map [])).next) (ρ:=ρ.at s.next (w.heap.size,0)) (b:=s.next) (.inr ⟨cy _,by simp⟩);simpa using this
 .refine Good.alloc (o:=.map []) (x:=.map #[] 0) hp.st hp.ec hp.lt (λc=>by simp) (by simp) (jY s _) (cy _) (heap_alloc_new w _) ?_ (Fr.alloc w _);exact⟨[],0,rfl,LR.nil,LR.nil⟩
theorem VR.F2 {b:Nat}(h:VR A ρ (.map (some b)) v'):v'= .map (some (ρ b).1):=by rw[<-h.self,FO]
theorem bytes_beq (a b:List UInt8):((⟨⟨a⟩⟩:ByteArray)== (⟨⟨b⟩⟩:ByteArray))=(a== b):=by
 have h:((⟨⟨a⟩⟩:ByteArray)== (⟨⟨b⟩⟩:ByteArray))=((⟨a⟩:Array UInt8)== (⟨b⟩:Array UInt8)):=rfl;rw[h,oL];simp
theorem wF (k:Value)(p:Value×Value)(l:List (Value×Value)):rI k (p::l)=ob (ki k p.1) λb=>bo b (some (some p.2)) (rI k l):=rfl
theorem va (k:Value)(p:Value×Value)(l:List (Value×Value)):Ra k (p::l)=ob (ki k p.1) λb=>bo b (some l) (ob (Ra k l) λr=>some (p::r)):=rfl
theorem Ga (k v:Value)(p:Value×Value)(l:List (Value×Value)):M9 k v (p::l)=ob (ki k p.1) λb=>bo b (some ((k,v)::l)) (ob (M9 k v l) λr=>some (p::r)):=rfl
theorem x5 {k k':Value}{b:Bool}(h:ki k k'=some b)(ρ:fP):bZ ρ k'=k':=by
 unfold ki at h;split at h
 .have:=(ue _ _ _ h).2 ρ;simp[this]
 .simp
 .simp
 .cases h
theorem J9 {x y:Value}(h:lR x y=some true):x=y:=by
 unfold lR at h;split at h
 .rw[jv] at h;simp at h;rw[h]
 .rw[eQ] at h;simp at h;rw[h]
 .rename_i a b;cases a<;>cases b<;>first|rfl|cases h
 .cases h
theorem H6 (xs:aQ):∀(ys:aQ),gL xs ys=some true->xs=ys:=by
 induction xs with
 |nil=>intro ys h;cases ys with
  |nil=>rfl
  |cons y ys=>cases h
 |cons x xs ih=>
  intro ys h;cases ys with
  |nil=>cases h
  |cons y ys=>
   rw[dN] at h;obtain⟨e,he,h1⟩:=aw h;obtain⟨r,h2,h3⟩:=aw h1;have h4:=ir h3;cases e with
   |false=>cases h4
   |true=>
    rw[gw] at h4;subst h4;rw[J9 he,ih _ h2]
theorem Cp {k k':Value}(h:ki k k'=some true):k'=k:=by
 unfold ki at h;split at h
 .rw[H6 _ _ h]
 .obtain⟨h1,h2⟩:=bg h;have:=u4 h1;subst this;rw[jv] at h2;simp at h2;rw[h2]
 .rw[eQ] at h;simp at h;rw[h]
 .cases h
theorem sN {kt:TypeId}{d:TypeDesc}{k:Value}(h:xP E kt d k=true):((∃j,d= .int j)/\(∃j n,k= .int j n))\/(d= .string/\∃z,k= .string ⟨⟨z⟩⟩)\/(((∃fs,d= .struct fs)\/∃n e,d= .array n e)/\∃cs,k= .agg ⟨cs⟩/\xO kt cs E.eqs=true):=by
 unfold xP at h;split at h
 .exact .inr (.inr ⟨.inl ⟨_,rfl⟩,_,rfl,h⟩)
 .exact .inr (.inr ⟨.inr ⟨_,_,rfl⟩,_,rfl,h⟩)
 .exact .inl ⟨⟨_,rfl⟩,_,_,rfl⟩
 .rename_i s;obtain⟨⟨z⟩⟩:=s;exact .inr (.inl ⟨rfl,z,rfl⟩)
 .cases h
theorem qH {kt:TypeId}{d:TypeDesc}{k:Value}(h:xP E kt d k=true):(∀ρ,bZ ρ k=k):=by
 intro ρ;rcases sN h with⟨_,j,n,rfl⟩|⟨_,z,rfl⟩|⟨_,cs,rfl,hq⟩
 .simp
 .simp
 .simp[J1 hq ρ]
theorem Rr {kt:TypeId}{k k':Value}{b:Bool}{d:TypeDesc}(h:ki k k'=some b)(hd:(∃j,d= .int j)/\(∃j n,k= .int j n)\/(d= .string/\∃z,k= .string ⟨⟨z⟩⟩)):Instr.sameNow d k k'=some b:=by
 rcases hd with⟨⟨j0,rfl⟩,j,n,rfl⟩|⟨rfl,z,rfl⟩
 .unfold ki at h;split at h
  .simp_all
  .rename_i j1 a j' a' e1;obtain⟨h1,h2⟩:=bg h;have:=u4 h1;subst this;have:=ir h2;subst this;cases e1
   simp[Instr.sameNow,jv]
  .simp_all
  .cases h
 .unfold ki at h;split at h
  .simp_all
  .simp_all
  .rename_i a b' e1;have:=ir h;subst this;cases e1
   simp[Instr.sameNow,eQ,bytes_beq]
  .cases h
def rP (A:Nat->Prop)(ρ:fP)(k:Value)(es:List (Value×Value))(xs:List MapEntry)(i:Nat)(r:Option Value)(r':Option (Nat×Value)):Prop:=match r with
 |none=>r'=none/\Ra k es=some es
 |some v=>∃j v',r'=some (i+j,v')/\VR A ρ v v'/\(xs[j]?).map (·.key)=some k/\Ra k es=some (es.eraseIdx j)/\∀u,M9 k u es=some (es.set j (k,u))
theorem rP.step {k:Value}{p:Value×Value}{x:MapEntry}{es:List (Value×Value)}{xs:List MapEntry}{i:Nat}{r:Option Value}{r':Option (Nat×Value)}(hb:ki k p.1=some false)(h:rP A ρ k es xs (i+1) r r'):rP A ρ k (p::es) (x::xs) i r r':=by
 cases r with
 |none=>
  obtain⟨h1,h2⟩:=h;refine⟨h1,?_⟩;rw[va,hb,h2];rfl
 |some v=>
  obtain⟨j,v',h1,h2,h3,h4,h5⟩:=h;refine⟨j+1,v',by rw[h1];congr 2;omega,h2,by simpa using h3,?_,λu=>?_⟩
  .rw[va,hb,h4];rfl
  .rw[Ga,hb,h5];rfl
theorem rP.here {k:Value}{p:Value×Value}{x:MapEntry}{es:List (Value×Value)}{xs:List MapEntry}{i:Nat}{v':Value}(hb:ki k p.1=some true)(hx:x.key=k)(h:VR A ρ p.2 v'):rP A ρ k (p::es) (x::xs) i (some p.2) (some (i,v')):=by
 refine⟨0,v',rfl,h,by simp[hx],?_,λu=>?_⟩
 .rw[va,hb];rfl
 .rw[Ga,hb];rfl
theorem LR.split {es:List (Value×Value)}{p:Value×Value}{xs:List MapEntry}(h1:LR A ρ ((p::es).map (·.1)) (xs.map (·.key)))(h2:LR A ρ ((p::es).map (·.2)) (xs.map (·.val))):∃x xs',xs=x::xs'/\VR A ρ p.1 x.key/\VR A ρ p.2 x.val/\LR A ρ (es.map (·.1)) (xs'.map (·.key))/\LR A ρ (es.map (·.2)) (xs'.map (·.val)):=by
 cases xs with
 |nil=>have:=h1.length;simp at this
 |cons x xs=>
  simp only[xC] at h1 h2;obtain⟨u,us,e1,hu,Rq⟩:=h1.js;simp only[List.cons.injEq] at e1;obtain⟨rfl,rfl⟩:=e1;obtain⟨u2,us2,e2,UE,UF⟩:=h2.js;simp only[List.cons.injEq] at e2;obtain⟨rfl,rfl⟩:=e2;exact⟨x,xs,rfl,hu,UE,Rq,UF⟩
theorem Cq {k:Value}{d:TypeDesc}(hd:(∃j,d= .int j)/\(∃j n,k= .int j n)\/(d= .string/\∃z,k= .string ⟨⟨z⟩⟩)):∀(es:List (Value×Value))(xs:List MapEntry)(i:Nat){r:Option Value},rI k es=some r->LR A ρ (es.map (·.1)) (xs.map (·.key))->LR A ρ (es.map (·.2)) (xs.map (·.val))->
  ∃r',Instr.findNow d k xs i=some r'/\rP A ρ k es xs i r r'
 |[],xs,i,r,h,h1,h2=>by
  have:=ir h;subst this;cases xs with
  |nil=>exact⟨none,rfl,rfl,rfl⟩
  |cons x xs=>have:=h1.length;simp at this
 |p::es,xs,i,r,h,h1,h2=>by
  refine' zaY
  have hs:=Rr (kt:=0) hb hd;unfold Instr.findNow;rw[hk,hs];cases b with
  |true=>
   rw[gw] at h3;have:=ir h3;subst this;exact⟨_,rfl,rP.here hb (by rw[hk,Cp hb]) UE⟩
  |false=>
   rw[eG] at h3;obtain⟨r',h4,h5⟩:=Cq hd es xs (i+1) h3 Rq UF;exact⟨r',h4,rP.step hb h5⟩
theorem vW (hE:cS E P){kt:TypeId}{cs:aQ}(hq:xO kt cs E.eqs=true):∀(es:List (Value×Value))(xs:List MapEntry)(i:Nat){r:Option Value},rI (.agg ⟨cs⟩) es=some r->LR A ρ (es.map (·.1)) (xs.map (·.key))->LR A ρ (es.map (·.2)) (xs.map (·.val))->
  ∃r',(∀w,(Instr.findAsking kt (.agg ⟨cs⟩) xs i).run P w= .ok r' w)/\rP A ρ (.agg ⟨cs⟩) es xs i r r'
 |[],xs,i,r,h,h1,h2=>by
  have:=ir h;subst this;cases xs with
  |nil=>exact⟨none,λw=>rfl,rfl,rfl⟩
  |cons x xs=>have:=h1.length;simp at this
 |p::es,xs,i,r,h,h1,h2=>by
  refine' zaY
  obtain⟨ys,hy⟩:∃ys,p.1= .agg ⟨ys⟩:=by
   revert hb
   cases p.1<;>intro hb<;>first|cases hb|(rename_i q;exact⟨q.toList,rfl⟩)
  have YC:gL cs ys=some b:=by rw[hy] at hb;exact hb
  have hs:∀w,(Op.equal kt (.agg ⟨cs⟩) x.key).run P w= .ok b w:=λw=>by rw[hk,hy];exact(hE.eqs kt cs hq ys b YC w).1
  cases b with
  |true=>
   rw[gw] at h3;have:=ir h3;subst this;refine⟨some (i,x.val),λw=>?_,rP.here hb (by rw[hk,Cp hb]) UE⟩;unfold Instr.findAsking;simp only[Sem.run_bind,hs,Result.andThen_ok,if_true,Sem.run_pure]
  |false=>
   rw[eG] at h3;obtain⟨r',h4,h5⟩:=vW hE hq es xs (i+1) h3 Rq UF;refine⟨r',λw=>?_,rP.step hb h5⟩;unfold Instr.findAsking;simp only[Sem.run_bind,hs,Result.andThen_ok,jH,oV,h4]
theorem sO (hE:cS E P){kt:TypeId}{d:TypeDesc}{k:Value}(hu:P.underlying kt=some d)(hk:xP E kt d k=true){es:List (Value×Value)}{xs:List MapEntry}{r:Option Value}(h:rI k es=some r)(h1:LR A ρ (es.map (·.1)) (xs.map (·.key)))(h2:LR A ρ (es.map (·.2)) (xs.map (·.val))):
  ∃r',(∀w,(Instr.findKey kt k xs).run P w= .ok r' w)/\rP A ρ k es xs 0 r r':=by
 have go:((∃j,d= .int j)/\(∃j n,k= .int j n)\/(d= .string/\∃z,k= .string ⟨⟨z⟩⟩))->∃r',(∀w,(Instr.findKey kt k xs).run P w= .ok r' w)/\rP A ρ k es xs 0 r r':=λhd=>by
  obtain⟨r',h3,h4⟩:=Cq hd es xs 0 h h1 h2;refine⟨r',λw=>?_,h4⟩;unfold Instr.findKey;simp only[Sem.run_bind,run_underlying hu,Result.andThen_ok,h3,Sem.run_pure]
 rcases sN hk with hd|hd|⟨hd,cs,rfl,hq⟩
 .exact go (.inl hd)
 .exact go (.inr hd)
 .obtain⟨r',h3,h4⟩:=vW hE hq es xs 0 h h1 h2;refine⟨r',λw=>?_,h4⟩;unfold Instr.findKey;simp only[Sem.run_bind,run_underlying hu,Result.andThen_ok];cases xs with
  |nil=>
   have:=h3 w;unfold Instr.findNow;simpa[Instr.findAsking] using this
  |cons x xs=>
   have:Instr.findNow d (.agg ⟨cs⟩) (x::xs) 0=none:=by
    unfold Instr.findNow;rcases hd with⟨fs,rfl⟩|⟨n,e,rfl⟩<;>rfl
   rw[this];exact h3 w
theorem run_checkKey (hE:cS E P)(b:Bool){t:TypeId}{d:TypeDesc}{k:Value}(hu:P.underlying t=some d)(hk:xP E t d k=true)(w:World):(Instr.checkKey b 10000 t k).run P w= .ok () w:=by
 rcases sN hk with⟨⟨j0,rfl⟩,j,n,rfl⟩|⟨rfl,z,rfl⟩|⟨hd,cs,rfl,hq⟩
 .show(Instr.checkKey b (9999+1) t _).run P w=_;unfold Instr.checkKey;simp only[Sem.run_bind,run_underlying hu,Result.andThen_ok];rfl
 .show(Instr.checkKey b (9999+1) t _).run P w=_;unfold Instr.checkKey;simp only[Sem.run_bind,run_underlying hu,Result.andThen_ok];rfl
 .exact hE.keys t cs hq b w
theorem Cr:∀(xs:aQ)(ks:List Nat),ij xs ks=true->∀n,(xs.zip xs).all (λ(x,y)=>Instr.sameBits n x y)=true
 |[],_,_,n=>rfl
 |v::xs,[],h,n=>by cases h
 |v::xs,k::ks,h,n=>by
  obtain⟨h1,h2,h3⟩:=eN h;have ih:=Cr xs ks h3 n;have hk:k=0\/k=1\/k=2:=by omega
  have:Instr.sameBits n v v=true:=by
   rcases hk with h|h|h
   .obtain⟨m,rfl⟩:=kV (h1.trans h);simp[Instr.sameBits]
   .obtain⟨m,rfl⟩:=u5 (h1.trans h);simp[Instr.sameBits,bytes_beq]
   .obtain⟨m,rfl⟩:=wE (h1.trans h);simp[Instr.sameBits]
  simpa[this] using ih
theorem H7 {kt:TypeId}{d:TypeDesc}{k:Value}(hk:xP E kt d k=true)(w:World):(Instr.keyThatStays k k).run P w= .ok k w:=by
 have h:Instr.sameBits 10000 k k=true:=by
  rcases sN hk with⟨_,j,n,rfl⟩|⟨_,z,rfl⟩|⟨_,cs,rfl,hq⟩
  .simp[Instr.sameBits]
  .simp[Instr.sameBits,bytes_beq]
  .obtain⟨ks,_,h2⟩:=ug kt cs _ hq;have:=Cr cs ks h2 9999;show Instr.sameBits (9999+1) (.agg ⟨cs⟩) (.agg ⟨cs⟩)=true;unfold Instr.sameBits;simp only[beq_self_eq_true,xE];exact this
 unfold Instr.keyThatStays;simp only[h,if_true,Sem.run_pure]
theorem rQ {o:gh}{es:List (Value×Value)}(h:mapOf o=some es):o= .map es:=by
 cases o with
 |cells c e w=>cases h
 |map Zs=>have:=ir h;subst this;rfl
 |lA z p=>cases h
 |tC m=>cases h
 |xL o c=>cases h
theorem Nq (hE:cS E P){t:TypeId}{ok:Bool}(h:xR E s t x y ok=some (v,s')):az s s'/\∀X A ρ w x' y',oN P X A ρ s s' w->VR A ρ x x'->VR A ρ y y'->cA P X A ρ s s' w v (Instr.lookup t x' y' ok):=by
 obtain⟨d,hd,h1⟩:=aw h;clear h;split at h1
 .rename_i kt e b;obtain⟨kd,UG,h2⟩:=aw h1;obtain⟨Ka,h3⟩:=bg h2;obtain⟨z,hz,h4⟩:=aw h3;obtain⟨o,ho,h5⟩:=aw h4;obtain⟨es,sP,h6⟩:=aw h5;obtain⟨r,hr,h7⟩:=aw h6;have:=rQ sP;subst this;have hu:=dW hE hd;have TS:=dW hE UG;have hs':s'=s.aR b:=by
   split at h7
   .have:=aA h7;simp only[cx] at this;exact this.2.symm▸rfl
   .have:=aA h7;simp only[cx] at this;exact this.2.symm▸rfl
  refine⟨by rw[hs'];exact az.aR s b,λX A ρ w x' y' hp hx hy=>?_⟩;obtain⟨hA,xo,EC,xs,ck,rfl,sC,tF⟩:=hp.st.fy b _ (hp.cM b (by rw[hs'];exact gy s b)) ho;have Be:y'=y:=by rw[<-hy.self,qH Ka]
  subst Be;rw[hx.F2];obtain⟨r',hfk0,nW⟩:=sO hE TS Ka hr sC tF;have fb:(getObj (ρ b).1).run P w= .ok (.map ⟨xs⟩ ck) w:=by
   simp[getObj,Sem.run,EC]
  have Zt:(Instr.findKey kt y' (⟨xs⟩:Array MapEntry).toList).run P w= .ok r' w:=hfk0 w;split at h7
  .rename_i u;obtain⟨j,v2,rfl,UH,_⟩:=nW;have:=aA h7;simp only[cx] at this;obtain⟨rfl,rfl⟩:=this;refine cA.same hp (by simp) (by simp) (v':=if ok then .tuple #[v2,.bool true] else v2) ?_ ?_
   .unfold Instr.lookup;simp only[Sem.run_bind,run_underlying hu,Result.andThen_ok,fb,Sem.run_pure,run_checkKey hE _ TS Ka,Zt]
   .cases ok with
    |true=>exact VR.tuple (LR.cons UH (LR.cons (VR.bool _) LR.nil))
    |false=>exact UH
  .obtain⟨nW,_⟩:=nW;subst nW;have:=aA h7;simp only[cx] at this;obtain⟨rfl,rfl⟩:=this;refine cA.same hp (by simp) (by simp) (v':=if ok then .tuple #[z,.bool false] else z) ?_ ?_
   .unfold Instr.lookup;simp only[Sem.run_bind,run_underlying hu,Result.andThen_ok,fb,Sem.run_pure,run_checkKey hE _ TS Ka,Zt,jX hE hz]
   .have hzz:VR A ρ z z:=VR.ground (mb hE hz);cases ok with
    |true=>exact VR.tuple (LR.cons hzz (LR.cons (VR.bool _) LR.nil))
    |false=>exact hzz
 .cases h1
theorem LR.setAt {l l':aQ}(h:LR A ρ l l')(hv:VR A ρ v v')(j:Nat):LR A ρ (l.set j v) (l'.set j v'):=λeF e=>by
 rw[List.map_set,h eF e,hv eF e]
theorem mf {α β:Type}(f:α->β):∀(l:List α)(j:Nat),(l.eraseIdx j).map f=(l.map f).eraseIdx j
 |[],j=>by simp
 |x::l,0=>by simp
 |x::l,j+1=>by simp[mf f l j]
theorem modify_eq_set {α:Type}(f:α->α):∀(l:List α)(j:Nat)(x:α),l[j]?=some x->l.modify j f=l.set j (f x)
 |[],j,x,h=>by simp at h
 |y::l,0,x,h=>by simp at h;subst h;simp
 |y::l,j+1,x,h=>by simp at h;simp[modify_eq_set f l j x h]
theorem LR.PK {l l':aQ}(h:LR A ρ l l')(j:Nat):LR A ρ (l.eraseIdx j) (l'.eraseIdx j):=λeF e=>by
 rw[mf,h eF e]
theorem Good.x6 {b:Nat}{o o':gh}{x x':Obj}(hp:oN P X A ρ s (s.put b (some o')) w)(ho:s.heap.get b=some o)(hx:w.heap[(ρ b).1]?=some x)(hnc:∀c e f,x≠ .cells c e f)(hr:Ci P A ρ (ρ b) o' x'):
  (setObj (ρ b).1 x').run P w= .ok () {w with heap:=w.heap.setIfInBounds (ρ b).1 x'}/\Good P X A ρ s (s.put b (some o')) w {w with heap:=w.heap.setIfInBounds (ρ b).1 x'} ρ:=by
 refine⟨by cases x<;>first|(exact absurd rfl (hnc _ _ _))|(simp[setObj,Sem.run,hx]),?_⟩;have dA:=(xD.1 hx).1;refine Good.aZ (o:=o) (o':=o') (x':=x') hp.st hp.ec (hp.cM b (fe s b _)) ho (λc=>by simp) (by simp) (iU s b _) ?_ hr ?_
 .simp[dA]
 .refine⟨rfl,rfl,rfl,by simp,λr hr gx=>?_⟩;simp only[x_96];rw[if_neg (λe=>gx e.symm)]
theorem EV (hE:cS E P){t:TypeId}{u:Value}(h:sE E s t x y u=some (v,s')):az s s'/\v= .tuple ⟨[]⟩/\∀X A ρ w x' y' u',oN P X A ρ s s' w->VR A ρ x x'->VR A ρ y y'->VR A ρ u u'->∃w' eF,(Instr.mapUpdate t x' y' u').run P w= .ok () w'/\Good P X A ρ s s' w w' eF:=by
 obtain⟨d,hd,h1⟩:=aw h;clear h;split at h1
 .rename_i kt e b;obtain⟨kd,UG,h2⟩:=aw h1;obtain⟨Ka,h3⟩:=bg h2;obtain⟨o,ho,h5⟩:=aw h3;obtain⟨es,sP,h6⟩:=aw h5;obtain⟨r,hr,h7⟩:=aw h6;have:=rQ sP;subst this;have hu:=dW hE hd;have TS:=dW hE UG;have vX:s.heap.get b≠none:=by rw[show s.heap.get b=some (.map es) from ho];simp
  split at h7
  .obtain⟨vY,UI,h8⟩:=aw h7;have:=aA h8;simp only[cx] at this;obtain⟨rfl,rfl⟩:=this;refine⟨az.put s b _ vX,rfl,λX A ρ w x' y' u' hp hx hy J3=>?_⟩;obtain⟨hA,xo,EC,xs,ck,rfl,sC,tF⟩:=hp.st.fy b _ (hp.cM b (fe s b _)) ho;have Be:y'=y:=by rw[<-hy.self,qH Ka]
   subst Be;rw[hx.F2];obtain⟨r',Zt,j,v2,rfl,UH,hkey,Zu,oo⟩:=sO hE TS Ka hr sC tF;have hes2:vY=es.set j (y',u):=ir (UI.symm.trans (oo u));subst hes2;have fb:(getObj (ρ b).1).run P w= .ok (.map ⟨xs⟩ ck) w:=by
    simp[getObj,Sem.run,EC]
   obtain⟨x0,Rs,UJ⟩:=Option.map_eq_some_iff.1 hkey;have YF:=(tL.1 Rs).1;obtain⟨dK,qI⟩:=Good.x6 (x':=.map ⟨xs.set j {x0 with key:=y',val:=u'}⟩ ck) hp ho EC (by simp) (by
    refine⟨xs.set j {x0 with key:=y',val:=u'},ck,rfl,?_,?_⟩
    .rw[List.map_set,List.map_set];exact sC.setAt hy j
    .rw[List.map_set,List.map_set];exact tF.setAt J3 j)
   refine⟨_,ρ,?_,qI⟩;unfold Instr.mapUpdate;have hmod:(⟨xs⟩:Array MapEntry).modify (0+j) (λe=>{e with key:=y',val:=u'})=⟨xs.set j {x0 with key:=y',val:=u'}⟩:=by
    apply vD;rw[Array.toList_modify,ni];simp only;rw[modify_eq_set _ _ _ _ Rs]
   have hold:(((⟨xs⟩:Array MapEntry)[0+j]?).map (·.key)).getD y'=y':=by
    rw[ni];simp only[JC,hkey,pH]
   simp only[Sem.run_bind,run_underlying hu,Result.andThen_ok,fb,run_checkKey hE _ TS Ka,Zt,hold,H7 Ka,hmod,dK]
  .have:=aA h7;simp only[cx] at this;obtain⟨rfl,rfl⟩:=this;refine⟨az.put s b _ vX,rfl,λX A ρ w x' y' u' hp hx hy J3=>?_⟩;obtain⟨hA,xo,EC,xs,ck,rfl,sC,tF⟩:=hp.st.fy b _ (hp.cM b (fe s b _)) ho;have Be:y'=y:=by rw[<-hy.self,qH Ka]
   subst Be;rw[hx.F2];obtain⟨r',Zt,nW,_⟩:=sO hE TS Ka hr sC tF;subst nW;have fb:(getObj (ρ b).1).run P w= .ok (.map ⟨xs⟩ ck) w:=by
    simp[getObj,Sem.run,EC]
   obtain⟨dK,qI⟩:=Good.x6 (x':=.map ((⟨xs⟩:Array MapEntry).push {key:=y',val:=u',born:=ck}) (ck+1)) hp ho EC (by simp) (by
    refine⟨xs++[{key:=y',val:=u',born:=ck}],ck+1,by simp,?_,?_⟩
    .rw[Jw,Jw];exact sC.append (LR.cons hy LR.nil)
    .rw[Jw,Jw];exact tF.append (LR.cons J3 LR.nil))
   refine⟨_,ρ,?_,qI⟩;unfold Instr.mapUpdate;simp only[Sem.run_bind,run_underlying hu,Result.andThen_ok,fb,run_checkKey hE _ TS Ka,Zt,dK]
 .cases h1
end
section
variable {E:dy}{P:Program}{X A:Nat->Prop}{ρ:fP}{s s':St}{w w':World}{v v' x y x' y':Value}
theorem Zv (h:YZ x y s=some (v,s')):s'=s/\∀A ρ x' y' ts ty,VR A ρ x x'->VR A ρ y y'->∃v',(∀w,(Builtin.min_ ts ty #[x',y']).run P w= .ok v' w)/\VR A ρ v v':=by
 unfold YZ at h;split at h
 .rename_i k a k' b;obtain⟨hk,h2⟩:=bg h;have:=aA h2;simp only[cx] at this;obtain⟨rfl,rfl⟩:=this;refine⟨rfl,λA ρ x' y' ts ty hx hy=>⟨_,λw=>?_,VR.int _ _⟩⟩;rw[hx.ma,hy.ma];simp only[Builtin.min_,List.foldlM,Builtin.min2];simp[ek,rh]
 .cases h
theorem Zw (hE:cS E P){t ty:TypeId}(h:capV E t x s=some (v,s')):s'=s/\∀A ρ x' ts,VR A ρ x x'->ts[0]?=some t->∃v',(∀w,(Builtin.cap_ ts ty #[x']).run P w= .ok v' w)/\VR A ρ v v':=by
 obtain⟨d,hd,h1⟩:=aw h;clear h;split at h1
 .rename_i e a n c;obtain⟨hc,h2⟩:=bg h1;have tM:c<eL:=qq hc;have:=aA h2;simp only[cx] at this;obtain⟨rfl,rfl⟩:=this;refine⟨rfl,λA ρ x' ts hx hts=>⟨.int .i64 (.ofNat c),λw=>?_,VR.int _ _⟩⟩;have rv:∃a',x'= .slice a' n c:=by
   cases a with
   |none=>exact⟨none,hx.iV⟩
   |some a=>obtain⟨a',rv⟩:=hx.sJ;exact⟨some a',by rw[rv,fA tM]⟩
  obtain⟨a',rfl⟩:=rv;simp[Builtin.cap_,hts,run_underlying (dW hE hd),goInt]
 .cases h1
theorem Nr (hE:cS E P){t ty:TypeId}{b:Nat}(h:Bt E s t b=some (v,s')):az s s'/\∀X A ρ w x' ts,oN P X A ρ s s' w->VR A ρ (.map (some b)) x'->ts[0]?=some t->cA P X A ρ s s' w v (Builtin.len_ ts ty #[x']):=by
 obtain⟨d,hd,h1⟩:=aw h;clear h;split at h1
 .obtain⟨o,ho,h2⟩:=aw h1;obtain⟨es,sP,h3⟩:=aw h2;have:=rQ sP;subst this;have:=aA h3;simp only[cx] at this;obtain⟨rfl,rfl⟩:=this;refine⟨az.aR s b,λX A ρ w x' ts hp hx hts=>?_⟩;obtain⟨hA,xo,EC,xs,ck,rfl,sC,tF⟩:=hp.st.fy b _ (hp.cM b (gy s b)) ho;have cX:xs.length=es.length:=by have:=sC.length;simp at this;omega
  refine cA.same hp (by simp) (by simp) (v':=.int .i64 (.ofNat es.length)) ?_ (by rw[dm];exact VR.int _ _);rw[hx.F2];have fb:(getObj (ρ b).1).run P w= .ok (.map ⟨xs⟩ ck) w:=by
   simp[getObj,Sem.run,EC]
  simp[Builtin.len_,hts,run_underlying (dW hE hd),fb,goInt,cX]
 .cases h1
theorem Bf {α:Type}(l:List α)(j:Nat):(⟨l⟩:Array α).eraseIdxIfInBounds j=⟨l.eraseIdx j⟩:=by
 unfold Array.eraseIdxIfInBounds;split
 .apply vD;simp
 .rename_i h;rw[List.eraseIdx_of_length_le (by simpa using h)]
theorem Ns (hE:cS E P){ts:List TypeId}(h:Px E s ts x y=some (v,s')):az s s'/\∀X A ρ w x' y' ty,oN P X A ρ s s' w->VR A ρ x x'->VR A ρ y y'->cA P X A ρ s s' w v (Builtin.delete_ ⟨ts⟩ ty #[x',y']):=by
 obtain⟨t,ht,h0⟩:=aw h;obtain⟨d,hd,h1⟩:=aw h0;clear h h0;rw[dQ] at ht;split at h1
 .rename_i kt e b;obtain⟨kd,UG,h2⟩:=aw h1;obtain⟨Ka,h3⟩:=bg h2;obtain⟨o,ho,h5⟩:=aw h3;obtain⟨es,sP,h6⟩:=aw h5;obtain⟨vY,UI,h7⟩:=aw h6;have:=rQ sP;subst this;have hu:=dW hE hd;have TS:=dW hE UG;have:=aA h7;simp only[cx] at this;obtain⟨rfl,rfl⟩:=this;refine⟨az.put s b _ (by rw[show s.heap.get b=some (.map es) from ho];simp),λX A ρ w x' y' ty hp hx hy=>?_⟩;obtain⟨hA,xo,EC,xs,ck,rfl,sC,tF⟩:=hp.st.fy b _ (hp.cM b (fe s b _)) ho;have Be:y'=y:=by rw[<-hy.self,qH Ka]
  subst Be;rw[hx.F2];have fb:(getObj (ρ b).1).run P w= .ok (.map ⟨xs⟩ ck) w:=by
   simp[getObj,Sem.run,EC]
  obtain⟨r,hr⟩:∃r,rI y' es=some r:=by
   have key:∀(l l2:List (Value×Value)),Ra y' l=some l2->∃r,rI y' l=some r:=by
    intro l;induction l with
    |nil=>intro _ _;exact⟨none,rfl⟩
    |cons p l ih=>
     intro l2 h;rw[va] at h;obtain⟨b,hb,h9⟩:=aw h;rw[wF,hb];cases b with
     |true=>exact⟨some p.2,rfl⟩
     |false=>
      rw[eG] at h9;obtain⟨r,hr,_⟩:=aw h9;exact ih _ hr
   exact key _ _ UI
  obtain⟨r',Zt,nW⟩:=sO hE TS Ka hr sC tF;have htt:(⟨ts⟩:Array TypeId)[0]?=some t:=by simpa using ht
  cases r with
  |none=>
   obtain⟨rfl,Zu⟩:=nW;have:vY=es:=ir (UI.symm.trans Zu);subst this;obtain⟨dK,qI⟩:=Good.x6 (x':=.map ⟨xs⟩ ck) hp ho EC (by simp) ⟨xs,ck,rfl,sC,tF⟩;refine⟨_,_,ρ,?_,VR.undef,qI⟩;unfold Builtin.delete_;simp[htt,run_underlying hu,fb,run_checkKey hE _ TS Ka,Zt,dK]
  |some u=>
   obtain⟨j,v2,rfl,UH,hkey,Zu,oo⟩:=nW;have:vY=es.eraseIdx j:=ir (UI.symm.trans Zu);subst this;obtain⟨dK,qI⟩:=Good.x6 (x':=.map ⟨xs.eraseIdx j⟩ ck) hp ho EC (by simp) (by
    refine⟨xs.eraseIdx j,ck,rfl,?_,?_⟩
    .rw[mf,mf];exact sC.PK j
    .rw[mf,mf];exact tF.PK j)
   refine⟨_,_,ρ,?_,VR.undef,qI⟩;unfold Builtin.delete_;simp[htt,run_underlying hu,fb,run_checkKey hE _ TS Ka,Zt,dK,Bf]
 .cases h1
theorem Rt (hE:cS E P){t:TypeId}(h:HQ E s t x=some (v,s')):az s s'/\∀X A ρ w x',oN P X A ρ s s' w->VR A ρ x x'->cA P X A ρ s s' w v (Instr.range t x'):=by
 obtain⟨d,hd,h1⟩:=aw h;clear h;have hu:=dW hE hd;split at h1
 .rename_i z;have:=aA h1;simp only[cx] at this;obtain⟨rfl,rfl⟩:=this;refine⟨az.jt s _,λX A ρ w x' hp hx=>?_⟩;refine⟨.pointer (some ⟨w.heap.size,0,none⟩),w.alloc (.stringIter ⟨⟨z⟩⟩ 0),ρ.at s.next (w.heap.size,0),?_,?_,?_⟩
  .rw[hx.uc];unfold Instr.range;simp only[Sem.run_bind,run_underlying hu,Result.andThen_ok,Sem.run_pure];rfl
  .have:=VR.ptr (A:=dn A s.next (s.new (.lA z 0)).next) (ρ:=ρ.at s.next (w.heap.size,0)) (b:=s.next) (o:=0) (s:=none) (.inr ⟨cy _,by simp⟩);simpa using this
  .refine Good.alloc (o:=.lA z 0) (x:=.stringIter ⟨⟨z⟩⟩ 0) hp.st hp.ec hp.lt (λc=>by simp) (by simp) (jY s _) (cy _) (heap_alloc_new w _) ?_ (Fr.alloc w _);rfl
 .rename_i kt e b;obtain⟨o,ho,h2⟩:=aw h1;obtain⟨es,sP,h3⟩:=aw h2;have:=rQ sP;subst this;have:=aA h3;simp only[cx] at this;obtain⟨rfl,rfl⟩:=this;refine⟨(az.aR s b).trans (az.jt _ _),λX A ρ w x' hp hx=>?_⟩;have kD:In ((s.aR b).new (.tC b)).cM b:=(az.jt (s.aR b) (.tC b)).cM b (gy s b);obtain⟨hA,xo,EC,xs,ck,rfl,sC,tF⟩:=hp.st.fy b _ (hp.cM b kD) ho;have fb:(getObj (ρ b).1).run P w= .ok (.map ⟨xs⟩ ck) w:=by
   simp[getObj,Sem.run,EC]
  have hbn:b≠s.next:=by have:=hp.lt b hA;omega
  refine⟨.pointer (some ⟨w.heap.size,0,none⟩),w.alloc (.mapIter (some (ρ b).1) ck #[] ck),ρ.at s.next (w.heap.size,0),?_,?_,?_⟩
  .rw[hx.F2];unfold Instr.range;simp only[Sem.run_bind,run_underlying hu,Result.andThen_ok,Sem.run_pure,fb];rfl
  .have:=VR.ptr (A:=dn A s.next ((s.aR b).new (.tC b)).next) (ρ:=ρ.at s.next (w.heap.size,0)) (b:=s.next) (o:=0) (s:=none) (.inr ⟨cy _,by simp⟩);simpa using this
  .refine Good.alloc (o:=.tC b) (x:=.mapIter (some (ρ b).1) ck #[] ck) hp.st hp.ec hp.lt (λc=>by simp) (by simp) (by have:=jY (s.aR b) (.tC b);simpa using this) (cy _) (heap_alloc_new w _) ?_ (Fr.alloc w _);exact⟨hA,ck,ck,rfl⟩
 .cases h1
theorem H8 (z:List UInt8)(p:Nat)(c:UInt8)(h:z[p]?=some c)(hc:c.toNat<128):Utf8.decode ⟨⟨z⟩⟩ p=(c.toNat,1):=by
 unfold Utf8.decode;have hp:p<z.length:=(tL.1 h).1;have h0:((⟨⟨z⟩⟩:ByteArray).get! (p+0)).toNat=c.toNat:=by
  have:(⟨⟨z⟩⟩:ByteArray).get! (p+0)=c:=by
   show(⟨z⟩:Array UInt8)[p+0]! =c;rw[wo];simp[getElem!_def,h]
  rw[this]
 simp only[h0];rw[if_pos af]
theorem UK (hE:cS E P){str:Bool}(h:JT s x str=some (v,s')):az s s'/\∀X A ρ w x' ty,oN P X A ρ s s' w->VR A ρ x x'->cA P X A ρ s s' w v (Instr.next x' str ty):=by
 unfold JT at h;split at h
 .rename_i b;obtain⟨o,ho,h1⟩:=aw h;clear h;have Ay:s.heap.get b=some o:=ho;split at h1
  .rename_i z p;obtain⟨UL,h2⟩:=bg h1;subst UL;unfold FK at h2;split at h2
   .rename_i hz;rw[dQ] at hz;have:=aA h2;simp only[cx] at this;obtain⟨rfl,rfl⟩:=this;refine⟨az.aR s b,λX A ρ w x' ty hp hx=>?_⟩;obtain⟨hA,xo,EC,H9⟩:=hp.st.fy b _ (hp.cM b (gy s b)) ho;have H9:xo= .stringIter ⟨⟨z⟩⟩ p:=H9;subst H9;have fb:(getObj (ρ b).1).run P w= .ok (.stringIter ⟨⟨z⟩⟩ p) w:=by
     simp[getObj,Sem.run,EC]
    refine cA.same hp (by simp) (by simp) (v':=.tuple #[.bool false]) ?_ (VR.tuple (LR.cons (VR.bool _) LR.nil));rw[hx.nt];have iI:¬p<(⟨⟨z⟩⟩:ByteArray).size:=by
     have h3:(⟨⟨z⟩⟩:ByteArray).size=z.length:=rfl;have:=List.getElem?_eq_none_iff.1 hz;omega
    unfold Instr.next
    simp only[Sem.run_bind,fb,Result.andThen_ok,if_neg iI,Sem.run_pure]
   .rename_i c hz;rw[dQ] at hz;obtain⟨hc,h3⟩:=bg h2;have tM:c.toNat<128:=qq hc;have:=aA h3;simp only[cx] at this;obtain⟨rfl,rfl⟩:=this;refine⟨az.put s b _ (by rw[Ay];simp),λX A ρ w x' ty hp hx=>?_⟩;obtain⟨hA,xo,EC,H9⟩:=hp.st.fy b _ (hp.cM b (fe s b _)) ho;have H9:xo= .stringIter ⟨⟨z⟩⟩ p:=H9;subst H9;have fb:(getObj (ρ b).1).run P w= .ok (.stringIter ⟨⟨z⟩⟩ p) w:=by
     simp[getObj,Sem.run,EC]
    obtain⟨dK,qI⟩:=Good.x6 (x':=.stringIter ⟨⟨z⟩⟩ (p+1)) hp ho EC (by simp) (show Ci P A ρ (ρ b) (.lA z (Nat.succ p)) _ from rfl);refine⟨.tuple #[.bool true,.int .i64 (.ofNat p),.int .i32 (.ofNat c.toNat)],_,ρ,?_,VR.tuple (LR.cons (VR.bool _) (LR.cons (VR.int _ _) (LR.cons (VR.int _ _) LR.nil))),qI⟩;rw[hx.nt];have iI:p<(⟨⟨z⟩⟩:ByteArray).size:=(tL.1 hz).1;unfold Instr.next
    simp only[Sem.run_bind,fb,Result.andThen_ok,if_pos iI,H8 z p c hz tM,dK,Sem.run_pure];rfl
  .rename_i m;obtain⟨UL,h2⟩:=bg h1;have UL:str=false:=by simpa using UL
   subst UL;obtain⟨o2,Nt,h3⟩:=aw h2;obtain⟨es,sP,h4⟩:=aw h3;have:=rQ sP;subst this;split at h4
   .have:=aA h4;simp only[cx] at this;obtain⟨rfl,rfl⟩:=this;refine⟨(az.aR s b).trans (az.aR _ m),λX A ρ w x' ty hp hx=>?_⟩;have kD:In ((s.aR b).aR m).cM b:=(az.aR (s.aR b) m).cM b (gy s b);obtain⟨hA,xo,EC,hAm,since,dq,rfl⟩:=hp.st.fy b _ (hp.cM b kD) ho;obtain⟨hA2,xo2,H9,xs,ck,rfl,sC,tF⟩:=hp.st.fy m _ (hp.cM m (gy (s.aR b) m)) Nt;have Rh:xs=[]:=by
     have:=sC.length;cases xs with
     |nil=>rfl
     |cons a l=>simp at this
    subst Rh;have fb:(getObj (ρ b).1).run P w= .ok (.mapIter (some (ρ m).1) since #[] dq) w:=by
     simp[getObj,Sem.run,EC]
    have hget2:(getObj (ρ m).1).run P w= .ok (.map #[] ck) w:=by
     simp[getObj,Sem.run,H9]
    refine cA.same hp (by simp) (by simp) (v':=.tuple #[.bool false]) ?_ (VR.tuple (LR.cons (VR.bool _) LR.nil));rw[hx.nt];unfold Instr.next
    simp[fb,hget2,Question.forced]
   .cases h4
  .cases h1
 .cases h
end
section
variable {E:dy}{P:Program}{call:dJ}{X A:Nat->Prop}{ρ:fP}{s s':St}{w w':World}{v v' x y x' y':Value}{o:Oper}{ev:Operand->Value}
abbrev pN (P:Program)(X A:Nat->Prop)(ρ:fP)(s s':St)(w:World)(v v':Value)(w':World):Prop:=∃eF,VR (dn A s.next s'.next) eF v v'/\Good P X A ρ s s' w w' eF
def lU (P:Program)(f:FuncId)(args:Array Value)(w:World)(R:Value->World->Prop):Prop:=
 (∃v w',(callFunc f args).run P w= .ok (.value v) w'/\R v w')\/(∃g as_ w',(callFunc f args).run P w= .ok (.enter g as_) w'/\Calls P g as_ w' λe w''=>∃v,e= .returned v/\R v w'')
def dP (P:Program)(call:dJ):Prop:=∀f args s v s',call f args s=some (v,s')->az s s'/\∀X A ρ w gH,oN P X A ρ s s' w->Gl A ρ->LR A ρ args gH->lU P f ⟨gH⟩ w λv' w'=>pN P X A ρ s s' w v v' w'
def OpOk (P:Program)(o:Oper)(ev:Operand->Value)(s s':St)(v:Value):Prop:=
 az s s'/\∀X A ρ w (a:Act)(Q:Exit->Act->World->Prop),oN P X A ρ s s' w->Gl A ρ->(∀x∈o.op.operands,VR A ρ (ev x) (a.eval x))->o.wp P a w (λa' w'=>∃v',a'=a.put o.dst v'/\pN P X A ρ s s' w v v' w') Q
theorem cT {a:Act}{Q:Exit->Act->World->Prop}{m:Sem Value}(he:execOp a.eval o=(do pure (.value (<-m))))(h:cA P X A ρ s s' w v m):o.wp P a w (λa' w'=>∃v',a'=a.put o.dst v'/\pN P X A ρ s s' w v v' w') Q:=by
 obtain⟨v',w',eF,h1,h2,h3⟩:=h;unfold Oper.wp;rw[he];simp only[Sem.run_bind,h1,Result.andThen_ok,Sem.run_pure,Oper.upon];exact⟨v',rfl,eF,h2,h3⟩
theorem PL {a:Act}{Q:Exit->Act->World->Prop}{m:Sem Unit}(he:execOp a.eval o=(do m;pure .skip))(hv:v= .tuple ⟨[]⟩)(h:∃w' eF,m.run P w= .ok () w'/\Good P X A ρ s s' w w' eF):o.wp P a w (λa' w'=>∃v',a'=a.put o.dst v'/\pN P X A ρ s s' w v v' w') Q:=by
 obtain⟨w',eF,h1,h3⟩:=h;unfold Oper.wp;rw[he];simp only[Sem.run_bind,h1,Result.andThen_ok,Sem.run_pure,Oper.upon];exact⟨undef,rfl,eF,by rw[hv];exact VR.undef,h3⟩
theorem wp_pure {a:Act}{Q:Exit->Act->World->Prop}(he:(execOp a.eval o).run P w= .ok (.value v') w)(hp:oN P X A ρ s s w)(hv:VR A ρ v v'):o.wp P a w (λa' w'=>∃v',a'=a.put o.dst v'/\pN P X A ρ s s w v v' w') Q:=by
 unfold Oper.wp;rw[he];exact⟨v',rfl,ρ,hv.mono (λi hi=>.inl hi) (λ_ _=>rfl),Good.refl hp.st hp.ec⟩
theorem VR.PM {t:TypeId}{x:Value}(h:VR A ρ (.iface t x) v'):∃x',v'= .iface t x'/\VR A ρ x x':=by
 refine⟨bZ ρ x,by rw[<-h.self];simp[bZ],λeF e=>?_⟩;have h1:=h eF e;have h2:=h.self;rw[<-h2] at h1;simpa[bZ] using h1
theorem VR.iface {t:TypeId}{x x':Value}(h:VR A ρ x x'):VR A ρ (.iface t x) (.iface t x'):=λeF e=>by
 have:=h eF e;simp[bZ,this]
theorem Ia {lo:Option Operand}{a:Act}(h:∀x,lo=some x->VR A ρ (ev x) (a.eval x)):Ng A ρ (dz ev lo) (lo.map a.eval):=by
 cases lo with
 |none=>simp[dz,Ng]
 |some x=>exact h x rfl
theorem BE {l:List Operand}{a:Act}(h:∀x∈l,VR A ρ (ev x) (a.eval x)):LR A ρ (wy ev l) (l.map a.eval):=by
 rw[qD];induction l with
 |nil=>exact LR.nil
 |cons x xs ih=>exact LR.cons (h x (by simp)) (ih λy hy=>h y (by simp[hy]))
theorem Ru (hC:dP P call){f:Value}{args:aQ}(h:wA call f args s=some (v,s')):az s s'/\∀X A ρ w f' gH,oN P X A ρ s s' w->Gl A ρ->VR A ρ f f'->LR A ρ args gH->
  ∃g first cap,f'= .func (.func g) ⟨first⟩ ⟨cap⟩/\lU P g ⟨first++(gH++cap)⟩ w λv' w'=>pN P X A ρ s s' w v v' w':=by
 unfold wA at h;split at h
 .rename_i g first cap
  obtain⟨h1,h2⟩:=hC _ _ _ _ _ h;refine⟨h1,λX A ρ w f' gH hp gK hf ha=>?_⟩;obtain⟨first',Cj,rfl,sC,tF⟩:=hf.Ch;exact⟨g,first',Cj,rfl,h2 X A ρ w _ hp gK (sC.append (ha.append tF))⟩
 .cases h
theorem Rv (hE:cS E P)(hC:dP P call){c:Call}(h:Nc E call ev s c=some (v,s'))(dst:Option Tmp)(type:TypeId)(pos:String)(after:Array Edge)(guard:Option (Nat×Bool)):OpOk P ⟨dst,.call c,type,pos,after,guard⟩ ev s s' v:=by
 obtain⟨callee,args,argTypes⟩:=c;unfold Nc at h;cases callee with
 |invoke r m=>
  simp only at h;unfold Bu at h;split at h
  .rename_i t b hr;obtain⟨f,hf,h0⟩:=aw h;obtain⟨h1,h2⟩:=hC _ _ _ _ _ h0;refine⟨h1,λX A ρ w a Q hp gK hx=>?_⟩;have kv:∀x∈args.toList,VR A ρ (ev x) (a.eval x):=λx Zx=>hx x (by simp only[Op.operands,Call.operands,Ud];exact .inr (by simpa using Zx))
   have hrv:=hx r (by simp[Op.operands,Call.operands]);rw[hr] at hrv;obtain⟨q,hq,hqv⟩:=hrv.PM;have tV:∃b',q= .pointer (some b'):=by
    obtain⟨bb,bo,bs⟩:=b;exact⟨_,hqv.nt⟩
   obtain⟨b',rfl⟩:=tV;have vZ:=h2 X A ρ w _ hp gK (LR.cons hqv (BE kv));have he:(execOp a.eval ⟨dst,.call ⟨.invoke r m,args,argTypes⟩,type,pos,after,guard⟩).run P w=(callFunc f ⟨.pointer (some b')::args.toList.map a.eval⟩).run P w:=by
    simp only[execOp,resolve,hq,Sem.run_bind,Sem.run_pure,Result.andThen_ok,invoke];have:((#[Value.iface t (.pointer (some b'))]++args.map a.eval)[0]?:Option Value)=some (.iface t (.pointer (some b'))):=by rw[YU (by simp)];rfl
    simp only[this];rw[hE.meth t m f hf]
    congr 2
    apply vD;simp only[Array.toList_append,Array.toList_extract,List.size_toArray,dh,mD,Array.size_append,Array.size_map,Array.toList_map];simp[List.extract];exact q9 (by simp)
   unfold Oper.wp;rw[he];rcases vZ with⟨v',w',e1,e2⟩|⟨g',as_,w',e1,e2⟩
   .rw[e1];exact⟨v',rfl,e2⟩
   .rw[e1];simp only[Oper.upon];refine e2.mono λe w'' he=>?_
    obtain⟨v',rfl,hh⟩:=he;exact⟨v',rfl,hh⟩
  .cases h
 |value f=>
  simp only at h;obtain⟨h1,h2⟩:=Ru hC h;refine⟨h1,λX A ρ w a Q hp gK hx=>?_⟩;have kv:∀x∈args.toList,VR A ρ (ev x) (a.eval x):=λx Zx=>hx x (by simp only[Op.operands,Call.operands,Ud];exact .inr (by simpa using Zx))
  obtain⟨g,first,cap,hf,vZ⟩:=h2 X A ρ w _ _ hp gK (hx f (by simp[Op.operands,Call.operands])) (BE kv);have he:(execOp a.eval ⟨dst,.call ⟨.value f,args,argTypes⟩,type,pos,after,guard⟩).run P w=(callFunc g ⟨first++(args.toList.map a.eval++cap)⟩).run P w:=by
   simp only[execOp,resolve,hf,Deferred.ofValue,Sem.run_bind,Sem.run_pure,Result.andThen_ok,invoke]
   congr 2
   apply vD;simp
  unfold Oper.wp;rw[he];rcases vZ with⟨v',w',e1,e2⟩|⟨g',as_,w',e1,e2⟩
  .rw[e1];exact⟨v',rfl,e2⟩
  .rw[e1];simp only[Oper.upon];refine e2.mono λe w'' he=>?_
   obtain⟨v',rfl,hh⟩:=he;exact⟨v',rfl,hh⟩
 |builtin b=>
  simp only at h;have kv:∀(a:Act) A ρ,(∀x∈(Op.call ⟨.builtin b,args,argTypes⟩).operands,VR A ρ (ev x) (a.eval x))->∀x∈args.toList,VR A ρ (ev x) (a.eval x):=λa A ρ hx x Zx=>hx x (by simp only[Op.operands,Call.operands,Ud];exact .inr (by simpa using Zx))
  obtain⟨args⟩:=args;obtain⟨argTypes⟩:=argTypes;simp only at h kv;unfold xQ at h;split at h
  .rename_i x;unfold rJ at h;split at h
   .obtain⟨t,ht,h1⟩:=aw h;rw[dQ] at ht;split at h1
    .rename_i b hb;obtain⟨h2,h3⟩:=Nr hE h1 (ty:=type);refine⟨h2,λX A ρ w a Q hp gK hx=>cT (m:=Builtin.len_ ⟨argTypes⟩ type #[a.eval x]) (by simp[execOp,resolve,invoke,builtin]) (h3 X A ρ w _ ⟨argTypes⟩ hp ?_ (by simpa using ht))⟩;have:=kv a A ρ hx x (by simp);rw[hb] at this;exact this
    .obtain⟨u,hu,h2⟩:=aw h1;have:=aA h2;simp only[cx] at this;obtain⟨rfl,rfl⟩:=this;refine⟨az.refl _,λX A ρ w a Q hp gK hx=>?_⟩;obtain⟨v',h3,h4⟩:=Zm hE hu (ty:=type) A ρ _ ⟨argTypes⟩ (kv a A ρ hx x (by simp)) (by simpa using ht);exact cT (m:=Builtin.len_ ⟨argTypes⟩ type #[a.eval x]) (by simp[execOp,resolve,invoke,builtin]) (cA.pure hp (h3 w) h4)
   .obtain⟨t,ht,h1⟩:=aw h;rw[dQ] at ht;obtain⟨rfl,h3⟩:=Zw hE h1 (ty:=type);refine⟨az.refl _,λX A ρ w a Q hp gK hx=>?_⟩;obtain⟨v',h4,h5⟩:=h3 A ρ _ ⟨argTypes⟩ (kv a A ρ hx x (by simp)) (by simpa using ht);exact cT (m:=Builtin.cap_ ⟨argTypes⟩ type #[a.eval x]) (by simp[execOp,resolve,invoke,builtin]) (cA.pure hp (h4 w) h5)
   .obtain⟨h1,h2⟩:=ET (P:=P) h;exact⟨h1,λX A ρ w a Q hp gK hx=>cT (m:=Builtin.unsafeSliceData_ ⟨argTypes⟩ type #[a.eval x]) (by simp[execOp,resolve,invoke,builtin]) (h2 X A ρ w _ ⟨argTypes⟩ type hp (kv a A ρ hx x (by simp)))⟩
   .obtain⟨h1,h2⟩:=Ro hE h;exact⟨h1,λX A ρ w a Q hp gK hx=>cT (m:=Builtin.clear_ ⟨argTypes⟩ type #[a.eval x]) (by simp[execOp,resolve,invoke,builtin]) (h2 X A ρ w _ type hp (kv a A ρ hx x (by simp)))⟩
   .cases h
  .rename_i x y;unfold JU at h;split at h
   .obtain⟨h1,h2⟩:=Nn hE h;exact⟨h1,λX A ρ w a Q hp gK hx=>cT (m:=Builtin.append_ ⟨argTypes⟩ type #[a.eval x,a.eval y]) (by simp[execOp,resolve,invoke,builtin]) (h2 X A ρ w _ _ type hp (kv a A ρ hx x (by simp)) (kv a A ρ hx y (by simp)))⟩
   .obtain⟨rfl,h2⟩:=Zn (P:=P) h;refine⟨az.refl _,λX A ρ w a Q hp gK hx=>?_⟩;obtain⟨v',h3,h4⟩:=h2 A ρ _ _ ⟨argTypes⟩ type (kv a A ρ hx x (by simp)) (kv a A ρ hx y (by simp));exact cT (m:=Builtin.max_ ⟨argTypes⟩ type #[a.eval x,a.eval y]) (by simp[execOp,resolve,invoke,builtin]) (cA.pure hp (h3 w) h4)
   .obtain⟨rfl,h2⟩:=Zv (P:=P) h;refine⟨az.refl _,λX A ρ w a Q hp gK hx=>?_⟩;obtain⟨v',h3,h4⟩:=h2 A ρ _ _ ⟨argTypes⟩ type (kv a A ρ hx x (by simp)) (kv a A ρ hx y (by simp));exact cT (m:=Builtin.min_ ⟨argTypes⟩ type #[a.eval x,a.eval y]) (by simp[execOp,resolve,invoke,builtin]) (cA.pure hp (h3 w) h4)
   .obtain⟨h1,h2⟩:=Ns hE h;exact⟨h1,λX A ρ w a Q hp gK hx=>cT (m:=Builtin.delete_ ⟨argTypes⟩ type #[a.eval x,a.eval y]) (by simp[execOp,resolve,invoke,builtin]) (h2 X A ρ w _ _ type hp (kv a A ρ hx x (by simp)) (kv a A ρ hx y (by simp)))⟩
   .obtain⟨h1,h2⟩:=UA hE h;exact⟨h1,λX A ρ w a Q hp gK hx=>cT (m:=Builtin.copy_ ⟨argTypes⟩ type #[a.eval x,a.eval y]) (by simp[execOp,resolve,invoke,builtin]) (h2 X A ρ w _ _ type hp (kv a A ρ hx x (by simp)) (kv a A ρ hx y (by simp)))⟩
   .obtain⟨h1,h2⟩:=zG hE h;exact⟨h1,λX A ρ w a Q hp gK hx=>cT (m:=Builtin.unsafeString_ ⟨argTypes⟩ type #[a.eval x,a.eval y]) (by simp[execOp,resolve,invoke,builtin]) (h2 X A ρ w _ _ type hp (kv a A ρ hx x (by simp)) (kv a A ρ hx y (by simp)))⟩
   .cases h
  .cases h
end
section
variable {E:dy}{P:Program}{call:dJ}{X A:Nat->Prop}{ρ:fP}{s s':St}{w w':World}{v v' x y x' y':Value}{o:Oper}{ev:Operand->Value}
theorem Ib (hE:cS E P)(hC:dP P call)(h:EA E call ev s o.op=some (v,s')):OpOk P o ev s s' v:=by
 obtain⟨dst,op,type,pos,after,guard⟩:=o;cases op<;>simp only[EA,reduceCtorEq] at h
 case move x=>
  refine' zaN
 case assign x=>
  refine' zaN
 case pick c p q=>
  unfold Py at h;split at h
  .rename_i b hc;cases b with
   |true=>
    have:=aA h;simp only[cx] at this;obtain⟨rfl,rfl⟩:=this;refine⟨az.refl _,λX A ρ w a Q hp gK hx=>wp_pure ?_ hp (hx p (by simp[Op.operands]))⟩;have:=hx c (by simp[Op.operands]);rw[hc] at this;simp[execOp,this.sH,asBool]
   |false=>
    have:=aA h;simp only[cx] at this;obtain⟨rfl,rfl⟩:=this;refine⟨az.refl _,λX A ρ w a Q hp gK hx=>wp_pure ?_ hp (hx q (by simp[Op.operands]))⟩;have:=hx c (by simp[Op.operands]);rw[hc] at this;simp[execOp,this.sH,asBool]
  .cases h
 case alloc t=>
  obtain⟨h1,h2⟩:=Rf hE h;exact⟨h1,λX A ρ w a Q hp gK hx=>cT (m:=Instr.alloc t true (.tuple #[])) rfl (h2 X A ρ w hp)⟩
 case box t x=>
  obtain⟨h1,h2⟩:=PF (P:=P) h;refine⟨h1,λX A ρ w a Q hp gK hx=>cT (m:=Instr.box t (a.eval x)) rfl ?_⟩;have:=h2 X A ρ w _ hp (by rw[gP];exact(hx x (by simp[Op.operands])).cells);exact this
 case build t ps=>
  obtain⟨rfl,h2⟩:=Rm hE h;refine⟨az.refl _,λX A ρ w a Q hp gK hx=>?_⟩;obtain⟨v',h3,h4⟩:=h2 A ρ a.eval (λp hp=>hx p.2 (by simp only[Op.operands,List.mem_toArray,n9];exact⟨p,by simpa using hp,rfl⟩));refine cT (m:=Instr.build t (ps.map λx=>(x.1,a.eval x.2))) rfl (cA.pure hp ?_ h4);rw[<-h3 w];congr 2;apply vD;simp
 case buildSlice t n ps=>
  obtain⟨h1,h2⟩:=Cl hE h;refine⟨h1,λX A ρ w a Q hp gK hx=>cT (m:=Instr.buildSlice t n (ps.map λx=>(x.1,a.eval x.2))) rfl ?_⟩;have:=h2 X A ρ w a.eval hp (λp hp=>hx p.2 (by simp only[Op.operands,List.mem_toArray,n9];exact⟨p,by simpa using hp,rfl⟩));rw[show(ps.map λx=>(x.1,a.eval x.2))=(ps.toList.map λx=>(x.1,a.eval x.2)).toArray by apply vD;simp];exact this
 case load t x=>
  obtain⟨h1,h2⟩:=Zi hE h;exact⟨h1,λX A ρ w a Q hp gK hx=>cT (m:=Instr.loadAt t (a.eval x)) rfl (h2 X A ρ w _ hp (hx x (by simp[Op.operands])))⟩
 case store t x y=>
  obtain⟨h1,h2⟩:=Us hE h;refine⟨h1,λX A ρ w a Q hp gK hx=>?_⟩;obtain⟨h3,h4⟩:=h2 X A ρ w _ _ hp (hx x (by simp[Op.operands])) (hx y (by simp[Op.operands]));exact PL (m:=Instr.storeAt t (a.eval x) (a.eval y)) rfl h3 h4
 case makeInterface t x=>
  obtain⟨d,hd,h1⟩:=aw h;obtain⟨hc,h2⟩:=bg h1;have:=aA h2;simp only[cx] at this;obtain⟨rfl,rfl⟩:=this;refine⟨az.refl _,λX A ρ w a Q hp gK hx=>?_⟩;refine cT (m:=Instr.makeInterface t (a.eval x)) rfl (cA.pure hp (v':=.iface t (a.eval x)) ?_ (VR.iface (hx x (by simp[Op.operands]))));unfold Instr.makeInterface;simp only[Sem.run_bind,run_underlying (dW hE hd),Result.andThen_ok];cases d<;>first|rfl|cases hc
 case nilCheck x=>
  unfold FL at h;split at h
  .rename_i m t b c hev;obtain⟨f,hf,h0⟩:=aw h;have:=aA h0;simp only[cx] at this;obtain⟨rfl,rfl⟩:=this;refine⟨az.refl _,λX A ρ w a Q hp gK hx=>?_⟩;have hv:=hx x (by simp[Op.operands]);rw[hev] at hv;refine wp_pure (v':=a.eval x) ?_ hp hv;obtain⟨p',q',he,pr,_⟩:=hv.Ch;obtain⟨y,r,rfl,hy,hr⟩:=pr.js;have:r=[]:=mG (by simpa using hr.length);subst this;obtain⟨y',rfl,Be⟩:=hy.PM;obtain⟨bb,bo,bs⟩:=b;have tV:=Be.nt;subst tV;simp only[execOp,he];have h1:((⟨[Value.iface t (.pointer (some ⟨(ρ bb).1,bo,bs⟩))]⟩:Array Value)[0]?:Option Value)=some (.iface t (.pointer (some ⟨(ρ bb).1,bo,bs⟩))):=rfl;simp only[h1,Sem.run_bind];have h2:(program).run P w= .ok P w:=rfl;simp only[h2,Result.andThen_ok,hE.near t m f hf];rfl
  rename_i x' gx;clear gx;obtain⟨rfl,rfl,h2⟩:=Zo h;refine⟨az.refl _,λX A ρ w a Q hp gK hx=>?_⟩;have hv:=hx x (by simp[Op.operands]);rcases h2 with⟨q,hq⟩|⟨f,p,q,hq⟩
  .obtain⟨b,off,sp⟩:=q;rw[hq] at hv⊢;refine wp_pure (v':=a.eval x) ?_ hp hv;simp only[execOp,hv.nt,Sem.run_pure]
  .obtain⟨p⟩:=p;obtain⟨q⟩:=q;rw[hq] at hv⊢;obtain⟨p',q',he,_,_⟩:=hv.Ch;refine wp_pure (v':=a.eval x) ?_ hp hv;simp only[execOp,he,Sem.run_pure]
 case binOp op t x y yt=>
  obtain⟨u,hu,h1⟩:=aw h;have:=aA h1;simp only[cx] at this;obtain⟨rfl,rfl⟩:=this;refine⟨az.refl _,λX A ρ w a Q hp gK hx=>?_⟩;obtain⟨v',h2,h3⟩:=Zl hE hu (hx x (by simp[Op.operands])) (hx y (by simp[Op.operands])) w;exact cT (m:=do eqGuard op t x y (a.eval x) (a.eval y);binOp op t (a.eval x) (a.eval y)) rfl (cA.pure hp h2 h3)
 case unOp op t x=>
  obtain⟨rfl,h2⟩:=unV_ok (P:=P) h;refine⟨az.refl _,λX A ρ w a Q hp gK hx=>?_⟩;obtain⟨v',h3,h4⟩:=h2 A ρ _ (hx x (by simp[Op.operands]));exact cT (m:=Op.unary op (a.eval x)) rfl (cA.pure hp (h3 w) h4)
 case convert src d x=>
  obtain⟨h1,h2⟩:=UC hE h;exact⟨h1,λX A ρ w a Q hp gK hx=>cT (m:=convert src d (a.eval x)) rfl (h2 X A ρ w _ hp (hx x (by simp[Op.operands])))⟩
 case makeFunc fn f c=>
  have:=aA h;simp only[cx] at this;obtain⟨rfl,rfl⟩:=this;refine⟨az.refl _,λX A ρ w a Q hp gK hx=>?_⟩;refine wp_pure (v':=.func fn ⟨f.toList.map a.eval⟩ ⟨c.toList.map a.eval⟩) ?_ hp (VR.func (BE λx Zx=>hx x ?_) (BE λx Zx=>hx x ?_))
  .simp only[execOp,Instr.makeFunc,Sem.run_bind,Sem.run_pure,Result.andThen_ok]
   congr 3<;>(apply vD;simp)
  .simp only[Op.operands,Ud];exact .inl (by simpa using Zx)
  .simp only[Op.operands,Ud];exact .inr (by simpa using Zx)
 case makeMap t r=>
  cases r with
  |some r=>cases h
  |none=>
   have:=aA h;simp only[cx] at this;obtain⟨rfl,rfl⟩:=this;exact⟨az.jt s _,λX A ρ w a Q hp gK hx=>cT (m:=Instr.makeMap t none) rfl (Np t X A ρ w hp)⟩
 case makeSlice t l c=>
  obtain⟨h1,h2⟩:=ES hE h;exact⟨h1,λX A ρ w a Q hp gK hx=>cT (m:=Instr.makeSlice t (a.eval l) (a.eval c)) rfl (h2 X A ρ w _ _ hp (hx l (by simp[Op.operands])) (hx c (by simp[Op.operands])))⟩
 case slice t x lo hi mx=>
  obtain⟨h1,h2⟩:=Rl hE h;exact⟨h1,λX A ρ w a Q hp gK hx=>cT (m:=Instr.sliceAt t (a.eval x) (lo.map a.eval) (hi.map a.eval) (mx.map a.eval)) rfl (h2 X A ρ w _ _ _ _ hp (hx x (by simp[Op.operands])) (Ia λq hq=>hx q (by subst hq;simp[Op.operands])) (Ia λq hq=>hx q (by subst hq;simp[Op.operands])) (Ia λq hq=>hx q (by subst hq;simp[Op.operands])))⟩
 case fieldAddr t x i=>
  obtain⟨rfl,h2⟩:=EP hE h;refine⟨az.refl _,λX A ρ w a Q hp gK hx=>?_⟩;obtain⟨v',h3,h4⟩:=h2 A ρ _ (λ_ _ _=>trivial) (hx x (by simp[Op.operands]));exact cT (m:=Instr.fieldAt t (a.eval x) i) rfl (cA.pure hp (h3 w) h4)
 case field t x i=>
  obtain⟨rfl,h2⟩:=Rj hE h;refine⟨az.refl _,λX A ρ w a Q hp gK hx=>?_⟩;obtain⟨v',h3,h4⟩:=h2 A ρ _ (hx x (by simp[Op.operands]));exact cT (m:=Instr.field t (a.eval x) i) rfl (cA.pure hp (h3 w) h4)
 case indexAddr t x i=>
  obtain⟨rfl,h2⟩:=ER hE h;refine⟨az.refl _,λX A ρ w a Q hp gK hx=>?_⟩;obtain⟨v',h3,h4⟩:=h2 A ρ _ _ (hx x (by simp[Op.operands])) (hx i (by simp[Op.operands]));exact cT (m:=Instr.indexAt t (a.eval x) (a.eval i)) rfl (cA.pure hp (h3 w) h4)
 case index t x i=>
  obtain⟨rfl,h2⟩:=Ri hE h;refine⟨az.refl _,λX A ρ w a Q hp gK hx=>?_⟩;obtain⟨v',h3,h4⟩:=h2 A ρ _ _ (hx x (by simp[Op.operands])) (hx i (by simp[Op.operands]));exact cT (m:=Instr.index t (a.eval x) (a.eval i)) rfl (cA.pure hp (h3 w) h4)
 case lookup t m k ok=>
  obtain⟨h1,h2⟩:=Nq hE h;exact⟨h1,λX A ρ w a Q hp gK hx=>cT (m:=Instr.lookup t (a.eval m) (a.eval k) ok) rfl (h2 X A ρ w _ _ hp (hx m (by simp[Op.operands])) (hx k (by simp[Op.operands])))⟩
 case mapUpdate t m k u=>
  obtain⟨h1,h2,h3⟩:=EV hE h;exact⟨h1,λX A ρ w a Q hp gK hx=>PL (m:=Instr.mapUpdate t (a.eval m) (a.eval k) (a.eval u)) rfl h2 (h3 X A ρ w _ _ _ hp (hx m (by simp[Op.operands])) (hx k (by simp[Op.operands])) (hx u (by simp[Op.operands])))⟩
 case extract x i=>
  obtain⟨rfl,h2⟩:=J2 (P:=P) h;refine⟨az.refl _,λX A ρ w a Q hp gK hx=>?_⟩;obtain⟨v',h3,h4⟩:=h2 A ρ _ (hx x (by simp[Op.operands]));exact cT (m:=Instr.extract (a.eval x) i) rfl (cA.pure hp (h3 w) h4)
 case range t x=>
  obtain⟨h1,h2⟩:=Rt hE h;exact⟨h1,λX A ρ w a Q hp gK hx=>cT (m:=Instr.range t (a.eval x)) rfl (h2 X A ρ w _ hp (hx x (by simp[Op.operands])))⟩
 case next x str=>
  obtain⟨h1,h2⟩:=UK hE h;exact⟨h1,λX A ρ w a Q hp gK hx=>cT (m:=Instr.next (a.eval x) str type) rfl (h2 X A ρ w _ type hp (hx x (by simp[Op.operands])))⟩
 case call c=>exact Rv hE hC h dst type pos after guard
end
mutual
def kY:Value->Bool
 |.agg ⟨cs⟩=>sQ cs
 |.tuple ⟨cs⟩=>sQ cs
 |.func _ ⟨f⟩ ⟨c⟩=>sQ f&&sQ c
 |.iface _ v=>kY v
 |.pointer (some _)=>false
 |.slice (some _) _ _=>false
 |.map (some _)=>false
 |_=>true
def sQ:aQ->Bool
 |[]=>true
 |v::vs=>kY v&&sQ vs
end
mutual
theorem sR (ρ:fP):∀v,kY v=true->bZ ρ v=v
 |.agg ⟨cs⟩,h=>by rw[Up,pO ρ cs (by simpa[kY] using h)]
 |.tuple ⟨cs⟩,h=>by rw[Nf,pO ρ cs (by simpa[kY] using h)]
 |.func fn ⟨f⟩ ⟨c⟩,h=>by
  simp only[kY,cv] at h;rw[Rc,pO ρ f h.1,pO ρ c h.2]
 |.iface t v,h=>by
  have:=sR ρ v (by simpa[kY] using h);simp[bZ,this]
 |.pointer none,_=>by simp
 |.pointer (some _),h=>by simp[kY] at h
 |.slice none _ _,_=>by simp
 |.slice (some _) _ _,h=>by simp[kY] at h
 |.map none,_=>by simp[bZ]
 |.map (some _),h=>by simp[kY] at h
 |.bool _,_=>by simp
 |.int _ _,_=>by simp
 |.float _ _,_=>by simp[bZ]
 |.complex _ _ _,_=>by simp[bZ]
 |.string _,_=>by simp
 |.chan _,_=>by simp[bZ]
 |.nilFunc,_=>by simp
 |.nilIface,_=>by simp
theorem pO (ρ:fP):∀l:aQ,sQ l=true->l.map (bZ ρ)=l
 |[],_=>rfl
 |v::vs,h=>by
  simp only[sQ,cv] at h;rw[xC,sR ρ v h.1,pO ρ vs h.2]
end
def Ic (x:Operand):Bool:=match x with
 |.const v=>kY v
 |.global g=>Nat.ble (Nat.succ g) 16
 |_=>true
def uj (N:Nat)(o:Oper):Bool:=(match o.dst with
 |some d=>Nat.ble (Nat.succ d) N
 |none=>true)&&o.op.operands.toList.all Ic
section
variable {E:dy}{P:Program}{call:dJ}{X A B:Nat->Prop}{ρ Bv:fP}{s s':St}{w w':World}{v v' x y x' y':Value}{o:Oper}{ev:Operand->Value}{N:Nat}{tm jk:Tm}{a:Act}
theorem Gl.mono (h:Gl A ρ)(hA:∀i,A i->B i)(xx:∀i,A i->Bv i=ρ i):Gl B Bv:=λg hg=>⟨hA g (h g hg).1,by rw[xx g (h g hg).1];exact(h g hg).2⟩
def MV (A:Nat->Prop)(ρ:fP)(N:Nat)(tm:Tm)(a:Act):Prop:=a.tmps.size=N/\∀t,VR A ρ (lG (tm.get t)) (a.tmps.getD t undef)
theorem MV.mono (h:MV A ρ N tm a)(hA:∀i,A i->B i)(xx:∀i,A i->Bv i=ρ i):MV B Bv N tm a:=⟨h.1,λt=>(h.2 t).mono hA xx⟩
noncomputable def Tm.gT (tm:Tm)(d:Option Tmp)(v:Value):Tm:=match d with
 |some d=>tm.set (Nat.succ d) d (some v)
 |none=>tm
theorem Tm.put_eq {β:Type}(tm:Tm)(d:Option Tmp)(v:Value)(k:Tm->β):tm.put d v k=k (tm.gT d v):=by
 cases d<;>simp[Tm.put,Tm.gT]
theorem Kb (a:Act)(d t:Nat)(v:Value)(hd:d<a.tmps.size):(a.put (some d) v).tmps.getD t undef=if t=d then v else a.tmps.getD t undef:=by
 simp only[Act.put,Pm,x_96];by_cases h:d=t
 .subst h;simp[hd]
 .rw[if_neg h,if_neg (λe=>h e.symm)]
theorem MV.put {d:Option Tmp}{v v':Value}(h:MV A ρ N tm a)(hv:VR A ρ v v')(hd:∀t,d=some t->t<N):MV A ρ N (tm.gT d v) (a.put d v'):=by
 cases d with
 |none=>exact h
 |some d=>
  have hd:=hd d rfl;refine⟨by simp[Act.put,h.1],λt=>?_⟩;rw[Kb a d t v' (by rw[h.1];exact hd)];unfold Tm.gT;simp only[T.u1];by_cases ht:t=d
  .simp only[ht,if_true];exact hv
  .simp only[ht,oV];exact h.2 t
theorem BF {x:Operand}(ho:Ic x=true)(hg:Gl A ρ)(ht:∀t,x= .tmp t->VR A ρ (lG (tm.get t)) (a.tmps.getD t undef)):VR A ρ (aI tm x) (a.eval x):=by
 cases x with
 |tmp t=>exact ht t rfl
 |const v=>exact VR.ground λρ=>sR ρ v ho
 |global g=>
  have Yy:g<16:=qq ho;have:=VR.ptr (ρ:=ρ) (o:=0) (s:=none) (hg g Yy).1;rw[(hg g Yy).2] at this;exact this
 |func f=>exact VR.ground λρ=>by simp[aI]
theorem Rw (v:Option Value)(want:Bool):tZ v want=true↔v=some (.bool want):=by
 unfold tZ;split
 .rename_i b;rw[ek];cases b<;>cases want<;>simp
 .rename_i h;simp only[jH,false_iff];rintro rfl;exact h want rfl
theorem Ie {b:Bool}(h:bZ ρ v= .bool b):v= .bool b:=by
 cases v<;>try(simp[bZ] at h;done)
 .simpa using h
 .rename_i a;cases a<;>simp[bZ] at h
 .rename_i a l c;cases a with
  |none=>simp[bZ] at h
  |some a=>
   obtain⟨a',e⟩:=rL ρ a l c;rw[e] at h;cases h
 .rename_i a;cases a<;>simp[bZ] at h
theorem VR.UM {b:Bool}(h:VR A ρ v v')(hv:v'= .bool b):v= .bool b:=Ie (ρ:=ρ) (by rw[h.self,hv])
theorem zH {ax:List Oper}{o:Oper}(hs:a.tmps.size=N)(hN:∀p∈ax,∀d,p.dst=some d->d<N)
  (ht:∀j want,o.guard=some (j,want)->∀d,l7 ax j=some d->VR A ρ (lG (tm.get d)) (a.tmps.getD d undef)):Region.wanted o (yielded ⟨ax⟩ a.tmps)=gW ax tm o.guard:=by
 unfold Region.wanted gW;cases hgd:o.guard with
 |none=>rfl
 |some p=>
  obtain⟨j,want⟩:=p;simp only;have Zy:((⟨ax⟩:Array Oper)[j]?).bind (·.dst)=l7 ax j:=by
   unfold l7;rw[dQ];simp only[JC];cases ax[j]?<;>rfl
  unfold yielded;rw[Zy];cases hd:l7 ax j with
  |none=>simp[tZ]
  |some d=>
   have hv:=ht j want hgd d hd;have hdN:d<a.tmps.size:=by
    unfold l7 at hd;obtain⟨p,hp,hd'⟩:=aw hd;rw[dQ] at hp;rw[hs];exact hN p (JD hp) d hd'
   have fb:a.tmps[d]?=some (a.tmps.getD d undef):=by simp[hdN]
   simp only[An,cq,fb];generalize a.tmps.getD d undef=u at hv;rw[oL,Rw];constructor
   .intro h;have hu:u= .bool want:=by
     split at h
     .rename_i b hb;simp at hb h;rw[hb,h]
     .simp at h
    have:=hv.UM hu;cases hh:tm.get d with
    |none=>rw[hh] at this;cases this
    |some q=>rw[hh] at this;exact gb some this
   .intro h;rw[h] at hv;rw[hv.sH];simp
end
section
variable {E:dy}{P:Program}{call:dJ}{X A B:Nat->Prop}{ρ Bv:fP}{s s':St}{w w':World}{v v' x y x' y':Value}{o:Oper}{ev:Operand->Value}{N:Nat}{tm jk:Tm}{a:Act}
theorem dn.lt {n m:Nat}(hA:∀i,A i->i<n)(h:n<=m):∀i,dn A n m i->i<m:=by
 rintro i (h1|h1)
 .have:=hA i h1;omega
 .exact h1.2
theorem dn.self {n:Nat}{i:Nat}:dn A n n i↔A i:=by
 constructor
 .rintro(h|h)
  .exact h
  .omega
 .exact .inl
theorem dn.join {n m k:Nat}(h1:n<=m)(h2:m<=k){i:Nat}(h:dn (dn A n m) m k i):dn A n k i:=by
 rcases h with(h|h)|h
 .exact .inl h
 .exact .inr ⟨h.1,af⟩
 .exact .inr ⟨af,h.2⟩
theorem nJ {o:Oper}(h:uj N o=true):∀d,o.dst=some d->d<N:=by
 intro d hd;unfold uj at h;rw[hd] at h;simp only[cv] at h;exact qq h.1
theorem AA {o:Oper}(h:uj N o=true):∀x∈o.op.operands,Ic x=true:=by
 unfold uj at h;simp only[cv,iM] at h;intro x hx;exact h.2 x (by simpa using hx)
structure Left (P:Program)(X A:Nat->Prop)(ρ:fP)(N:Nat)(s s':St)(w:World)(a:Act)(jk:Tm)(a':Act)(w':World):Prop where
 defers:a'.defers=a.defers
 left:∃eF,MV (dn A s.next s'.next) eF N jk a'/\Good P X A ρ s s' w w' eF
theorem zI (ax:List Oper)(o:Oper)(l:List Oper)(tm:Tm)(s:St):JV E call ax (o::l) tm s=bo (gW ax tm o.guard) (ob (EA E call (aI tm) s o.op) λp=>match p with
        |(v,s)=>tm.put o.dst v λtm=>JV E call ax l tm s)
   (tm.put o.dst (.tuple ⟨[]⟩) λtm=>JV E call ax l tm s):=rfl
theorem uk (a:Act)(d:Option Tmp)(v:Value):(a.put d v).defers=a.defers:=by cases d<;>rfl
theorem Ig (hE:cS E P)(hC:dP P call)(ax:List Oper)(kv:∀o∈ax,uj N o=true):∀(l:List Oper)(k:Nat)(tm:Tm)(s:St){jk:Tm}{s':St},l=ax.drop k->JV E call ax l tm s=some (jk,s')->
  az s s'/\∀X A ρ w a Q,oN P X A ρ s s' w->Gl A ρ->MV A ρ N tm a->(∀a' w',Left P X A ρ N s s' w a jk a' w'->Q Exit.normal a' w')->wpOps P ⟨ax⟩ Q (List.range' k l.length) a w
 |[],k,tm,s,jk,s',hl,h=>by
  have:=ir h;simp only[cx] at this;obtain⟨rfl,rfl⟩:=this;refine⟨az.refl s,λX A ρ w a Q hp hg ht hQ=>?_⟩;exact hQ a w ⟨rfl,ρ,ht.mono (λi hi=>.inl hi) (λ_ _=>rfl),Good.refl hp.st hp.ec⟩
 |o::l,k,tm,s,jk,s',hl,h=>by
  have hk:ax[k]?=some o:=by
   have:=gb (·[0]?) hl;simpa using this.symm
  have ju:l=ax.drop (k+1):=by
   have:=gb (List.drop 1) hl;simpa[lZ,Nat.add_comm] using this
  have ho:o∈ax:=JD hk;have YG:=kv o ho;rw[zI] at h;have Zy:=nJ YG;cases hw:gW ax tm o.guard with
  |true=>
   rw[hw,gw] at h;obtain⟨⟨v,s1⟩,h1,h2⟩:=aw h;simp only[Tm.put_eq] at h2;obtain⟨Bc,mg⟩:=Ib hE hC h1;obtain⟨By,UN⟩:=Ig hE hC ax kv l (k+1) _ _ ju h2;refine⟨Bc.trans By,λX A ρ w a Q hp hg ht hQ=>?_⟩;rw[dh,rD];unfold wpOps;have hko:(⟨ax⟩:Array Oper)[k]?=some o:=by simpa using hk
   simp only[hko];rw[zH (A:=A) (ρ:=ρ) (tm:=tm) ht.1 (λp hp d hd=>nJ (kv p hp) d hd) (λj want _ d _=>ht.2 d),hw];simp only[if_true]
   left
   have Zr:oN P X A ρ s s1 w:=⟨hp.lt,hp.ec,λb hb=>hp.cM b (By.cM b hb),hp.st⟩;refine Oper.wp_mono (λa1 w1 Gb=>?_) (mg X A ρ w a Q Zr hg λx hx=>BF (AA YG x hx) hg λt _=>ht.2 t);obtain⟨v',rfl,Bb,hv,qI⟩:=Gb;have UO:∀i,A i->Bb i=ρ i:=λi hi=>qI.same i (by have:=hp.lt i hi;omega)
   have Zz:MV (dn A s.next s1.next) Bb N (tm.gT o.dst v) (a.put o.dst v'):=(ht.mono (λi hi=>.inl hi) UO).put hv Zy;refine UN X (dn A s.next s1.next) Bb w1 _ Q ⟨dn.lt hp.lt Bc.next,qI.ec,hp.cM,qI.state⟩ (hg.mono (λi hi=>.inl hi) UO) Zz λa2 w2 Gc=>hQ a2 w2 ?_
   obtain⟨hd,Bv,ht2,hgood2⟩:=Gc;refine⟨hd.trans (uk _ _ _),Bv,ht2.mono (λi hi=>dn.join Bc.next By.next hi) (λ_ _=>rfl),Good.trans hp.cM Bc By hp.lt qI hgood2⟩
  |false=>
   rw[hw,eG] at h;simp only[Tm.put_eq] at h;obtain⟨By,UN⟩:=Ig hE hC ax kv l (k+1) _ _ ju h;refine⟨By,λX A ρ w a Q hp hg ht hQ=>?_⟩;rw[dh,rD];unfold wpOps;have hko:(⟨ax⟩:Array Oper)[k]?=some o:=by simpa using hk
   simp only[hko];rw[zH (A:=A) (ρ:=ρ) (tm:=tm) ht.1 (λp hp d hd=>nJ (kv p hp) d hd) (λj want _ d _=>ht.2 d),hw];simp only[jH,oV];refine UN X A ρ w _ Q hp hg (ht.put VR.undef Zy) λa2 w2 Gc=>hQ a2 w2 ?_
   exact⟨Gc.1.trans (uk _ _ _),Gc.2⟩
end
def zJ (ax:Array Oper):Bool:=
 Region.noSelect ax&&(List.range ax.size).all λj=>match ax[j]? with
  |none=>true
  |some oj=>(match oj.guard with
    |none=>true
    |some (g,_)=>oj.after.any λe=>Region.binds .any e&&e.on== g)&&(oj.after.all λe=>!Region.binds .any e||decide (e.on<j))&&
   (List.range j).all λi=>match ax[i]? with
    |none=>true
    |some oi=>(oj.after.any λe=>Region.binds .any e&&e.on== i)||oi.apart ax oj
def gT (ax:Array Oper)(a0:Act)(has:Nat->Bool)(vals:Nat->Value):Nat->Act
 |0=>a0
 |k+1=>if has k then(gT ax a0 has vals k).put ((ax[k]?).bind (·.dst)) (vals k) else gT ax a0 has vals k
theorem UP (a:Act)(d:Option Tmp)(v:Value):(a.put d v).tmps.size=a.tmps.size:=by cases d<;>simp[Act.put]
theorem oq (ax:Array Oper)(a0:Act)(has:Nat->Bool)(vals:Nat->Value)(k:Nat):(gT ax a0 has vals k).tmps.size=a0.tmps.size:=by
 induction k with
 |zero=>rfl
 |succ k ih=>unfold gT;split<;>simp[UP,ih]
theorem Ge (ax:Array Oper)(a0:Act){has has':Nat->Bool}{vals vals':Nat->Value}(k:Nat)(h:∀j,j<k->has j=has' j)(hv:∀j,j<k->has j=true->vals j=vals' j):gT ax a0 has vals k=gT ax a0 has' vals' k:=by
 induction k with
 |zero=>rfl
 |succ k ih=>
  unfold gT;rw[ih (λj hj=>h j af) (λj hj=>hv j af),<-h k af];split
  .rename_i hk;rw[hv k af hk]
  .rfl
theorem ZA (ax:Array Oper)(a0:Act){has:Nat->Bool}{vals:Nat->Value}{i:Nat}(v:Value)(hi:has i=false)(n:Nat)(hn:i<n)
  (hd:∀j,i<j->j<n->has j=true->∀d,(ax[i]?).bind (·.dst)=some d->(ax[j]?).bind (·.dst)≠some d):
  gT ax a0 (λj=>if j=i then true else has j) (λj=>if j=i then v else vals j) n=(gT ax a0 has vals n).put ((ax[i]?).bind (·.dst)) v:=by
 induction n with
 |zero=>omega
 |succ n ih=>
  unfold gT;rcases kU i n with h|h
  .rw[ih h (λj h1 h2=>hd j h1 af)];have gx:n≠i:=by omega
   simp only[gx,oV];split
   .rename_i hk;rw[Act.put_comm _ _ _ (hd n h af hk)]
   .rfl
  .have:n=i:=by omega
   subst this;simp only[if_true,hi,jH,oV];rw[Ge ax a0 n (has':=has) (vals':=vals) (λj hj=>by
      have:j≠n:=by omega
      simp[this]) (λj hj _=>by
           have:j≠n:=by omega
           simp[this])]
theorem EW {a b:Act}(d:Option Tmp)(v:Value)(x:Operand)(hs:a.tmps.size=b.tmps.size)(h:a.eval x=b.eval x):(a.put d v).eval x=(b.put d v).eval x:=by
 cases d with
 |none=>exact h
 |some d=>
  cases x with
  |tmp t=>
   simp only[Act.eval,Act.put,Pm,x_96] at h⊢;by_cases qJ:d=t
   .subst qJ;simp only[if_true,hs]
   .simp only[if_neg qJ];exact h
  |_=>rfl
theorem UQ (ax:Array Oper)(a0:Act){has:Nat->Bool}{vals:Nat->Value}(i:Nat)(x:Operand)(n:Nat)
  (h1:∀j,j<i->has j=false->∀d,(ax[j]?).bind (·.dst)=some d->x≠ .tmp d)
  (h2:∀j,i<=j->has j=true->∀d,(ax[j]?).bind (·.dst)=some d->x≠ .tmp d):
  (gT ax a0 has vals n).eval x=(gT ax a0 (λ_=>true) vals (min n i)).eval x:=by
 induction n with
 |zero=>simp[gT]
 |succ n ih=>
  rcases kU n i with h|h
  .rw[Ba af] at ih;rw[Ba af];unfold gT;simp only[if_true];by_cases hh:has n=true
   .rw[if_pos hh];exact EW _ _ _ (by rw[oq,oq]) ih
   .rw[if_neg hh,Act.eval_put (h1 n h (by simpa using hh))];exact ih
  .rw[Nat.min_eq_right af] at ih;rw[Nat.min_eq_right af]
   conv=>lhs;unfold gT
   by_cases hh:has n=true
   .rw[if_pos hh,Act.eval_put (h2 n h hh)];exact ih
   .rw[if_neg hh];exact ih
theorem x7 {a b:Act}{d:Option Tmp}{v v':Value}(hs:a.tmps.size=b.tmps.size)(h:b.put d v=b.put d v'):a.put d v=a.put d v':=by
 cases d with
 |none=>rfl
 |some d=>
  simp only[Act.put] at h⊢;by_cases hd:d<b.tmps.size
  .have h3:=gb (λc=>c.tmps[d]?) h;simp[hd] at h3;rw[h3]
  .have e:∀u:Value,a.tmps.setIfInBounds d u=a.tmps:=λu=>Array.setIfInBounds_eq_of_size_le (by rw[hs];exact Nat.le_of_not_lt hd)
   rw[e,e]
theorem wp_at {P:Program}{o:Oper}{a b:Act}{u:World}{R:Value->World->Prop}{Q:Exit->Act->World->Prop}(hs:a.tmps.size=b.tmps.size)(he:execOp a.eval o=execOp b.eval o)
  (h:o.wp P b u (λb' w'=>∃v,b'=b.put o.dst v/\R v w') (λ_ _ _=>False)):o.wp P a u (λa' w'=>∃v,a'=a.put o.dst v/\R v w') Q:=by
 unfold Oper.wp at *
 rw[he];generalize(execOp b.eval o).run P u=r at *
 cases r with
 |ok n w'=>
  cases n with
  |value v=>obtain⟨v',h1,h2⟩:=h;exact⟨v',x7 hs h1,h2⟩
  |skip=>obtain⟨v',h1,h2⟩:=h;exact⟨v',x7 hs h1,h2⟩
  |defer d=>
   obtain⟨v',h1,_⟩:=h;have:=gb (λa=>a.defers.length) h1;cases hd:o.dst<;>simp[Act.put,hd] at this
  |enter f args=>
   refine Calls.mono h λe w'' he=>?_
   cases e with
   |returned v=>obtain⟨v',h1,h2⟩:=he;exact⟨v',x7 hs h1,h2⟩
   |panicked c=>exact he.elim
   |outgrown=>obtain⟨_,_,hf⟩:=he;exact hf.elim
  |row f args=>exact Rows.mono h λv w'' ⟨v',h1,h2⟩=>⟨v',x7 hs h1,h2⟩
  |_=>exact h.elim
 |halt x w'=>
  cases x with
  |panic v=>exact h.elim
  |_=>exact h.elim
theorem Gf {α:Type}{p q:α->Bool}:∀{L:List α},(∀x,q x=true->p x=true)->(∃x∈L,p x=true/\q x=false)->L.countP q<L.countP p
 |[],_,⟨x,hx,_⟩=>by simp at hx
 |y::L,h,⟨x,hx,hp,hq⟩=>by
  have hle:L.countP q<=L.countP p:=List.countP_mono_left λx _=>h x
  simp only[jI];rcases bV.1 hx with rfl|hx
  .simp[hp,hq];omega
  .have:=Gf (L:=L) h ⟨x,hx,hp,hq⟩;by_cases hy:q y=true
   .simp[hy,h y hy];omega
   .simp[hy];split<;>omega
theorem AB {ax:Array Oper}(h:zJ ax=true):Region.noSelect ax=true/\∀j oj,ax[j]?=some oj->
  (∀e∈oj.after,Region.binds .any e=true->e.on<j)/\
  (∀i oi,i<j->ax[i]?=some oi->(∃e∈oj.after,Region.binds .any e=true/\e.on=i)\/oi.apart ax oj=true)/\
  (∀g b,oj.guard=some (g,b)->∃e∈oj.after,Region.binds .any e=true/\e.on=g):=by
 unfold zJ at h;rw[cv] at h;refine⟨h.1,λj oj hj=>?_⟩;have dA:j<ax.size:=(xD.1 hj).1;have h2:=(iM.1 h.2) j (mH.2 dA);simp only[hj,cv] at h2;obtain⟨⟨hg,ha⟩,hw⟩:=h2;refine⟨λe he hb=>?_,λi oi qp hi=>?_,λg b hgb=>?_⟩
 .have:=Array.all_eq_true_iff_forall_mem.1 ha e he;simpa[hb] using this
 .have:=(iM.1 hw) i (mH.2 qp);simp only[hi,mC] at this;rcases this with h|h
  .obtain⟨e,he,hb⟩:=Array.any_eq_true'.1 h;simp only[cv,zv] at hb;exact .inl ⟨e,he,hb.1,hb.2⟩
  .exact .inr h
 .rw[hgb] at hg;obtain⟨e,he,hb⟩:=Array.any_eq_true'.1 hg;simp only[cv,zv] at hb;exact⟨e,he,hb.1,hb.2⟩
theorem Kc {a b:Array Value}{d:Nat}(hs:a.size=b.size)(h:a.getD d undef=b.getD d undef):a[d]?=b[d]?:=by
 rcases kU d a.size with h1|h1
 .have h2:d<b.size:=by omega
  rw[Pn h1,Pn h2];simpa[h1,h2] using h
 .rw[Array.getElem?_eq_none h1,Array.getElem?_eq_none af]
def sS (ax:Array Oper)(L:Nat->Bool):Prop:=∀j oj,ax[j]?=some oj->L j=true->∀e∈oj.after,Region.binds .any e=true->L e.on=true
def gI {α:Type}(L:Nat->α)(i:Nat)(x:α):Nat->α:=λj=>if j=i then x else L j
section
variable {P:Program}{ax:Array Oper}{Q:Exit->Act->World->Prop}{a0:Act}
theorem Rx (fZ:zJ ax=true)(Inv:(Nat->Bool)->(Nat->Value)->World->Prop)
  (o7:∀(L:Nat->Bool)(vals:Nat->Value)(w:World)(i:Nat)(o:Oper),ax[i]?=some o->L i=false->(∀e∈o.after,Region.binds .any e=true->L e.on=true)->sS ax L->(∀j,L j=true->j<ax.size)->Inv L vals w->
    (Region.wanted o (yielded ax (gT ax a0 (λ_=>true) vals i).tmps)=true->o.wp P (gT ax a0 (λ_=>true) vals i) w (λa' w'=>∃v,a'=(gT ax a0 (λ_=>true) vals i).put o.dst v/\Inv (gI L i true) (gI vals i v) w') (λ_ _ _=>False))/\
    (Region.wanted o (yielded ax (gT ax a0 (λ_=>true) vals i).tmps)=false->Inv (gI L i true) (gI vals i undef) w))
  (hend:∀(L:Nat->Bool)(vals:Nat->Value)(w:World),(∀i,i<ax.size->L i=true)->Inv L vals w->Q .normal (gT ax a0 (λ_=>true) vals ax.size) w):
  ∀(fuel:Nat)(cb:Array Bool)(vals:Nat->Value)(u:World),cb.size=ax.size->sS ax (λi=>cb.getD i false)->Inv (λi=>cb.getD i false) vals u->
   (List.range ax.size).countP (λi=>!cb.getD i false)<=fuel->
   wpAny P .any ax Q fuel cb (gT ax a0 (λi=>cb.getD i false) vals ax.size) u:=by
 obtain⟨tW,Cs⟩:=AB fZ;have done:∀(cb:Array Bool)(vals:Nat->Value)(u:World),Inv (λi=>cb.getD i false) vals u->(∀i,i<ax.size->cb.getD i false=true)->
                                     Q .normal (gT ax a0 (λi=>cb.getD i false) vals ax.size) u:=λcb vals u hI bP=>by
  rw[Ge ax a0 (has':=λ_=>true) (vals':=vals) ax.size (λj hj=>bP j hj) (λ_ _ _=>rfl)];exact hend _ vals u bP hI
 have Nu:∀(cb:Array Bool)(i:Nat),i<cb.size->cb.getD i true=cb.getD i false:=λcb i hi=>by simp[hi]
 have YB:∀(cb:Array Bool),cb.size=ax.size->∀k,cb.getD k false=true->k<ax.size:=λcb hs k hk=>by
  rcases kU k cb.size with h|h
  .omega
  .simp[Array.getElem?_eq_none h] at hk
 intro fuel;induction fuel with
 |zero=>
  intro cb vals u iI tU hI hc;have bP:∀i,i<ax.size->cb.getD i false=true:=λi hi=>by
   have h0:(List.range ax.size).countP (λi=>!cb.getD i false)=0:=by omega
   have:=Ao.1 h0 i (mH.2 hi);simpa using this
  refine⟨?_,done cb vals u hI bP⟩;cases hr:Region.ready .any ax cb with
  |nil=>rfl
  |cons x xs=>
   have hx:x∈Region.ready .any ax cb:=by rw[hr];simp
   obtain⟨h0,o,ho,_⟩:=mem_ready.1 hx;have dA:x<ax.size:=(xD.1 ho).1;have h1:=bP x dA;rw[Nu cb x af] at h0;rw[h0] at h1;cases h1
 |succ fuel ih=>
  intro cb vals u iI tU hI hc;refine⟨λhr=>done cb vals u hI ?_,λi hi=>?_⟩
  .intro i;induction i using Nat.strongRecOn with
   |ind i ihi=>
    intro dA;cases hl:cb.getD i false with
    |true=>rfl
    |false=>
     have hm:i∈Region.ready .any ax cb:=by
      rw[mem_ready];refine⟨by rw[Nu cb i af];exact hl,ax[i],Pn dA,λe he YH=>?_⟩;have h1:=(Cs i _ (Pn dA)).1 e he YH;exact ihi e.on h1 af
     rw[hr] at hm;cases hm
  .obtain⟨h0,o,ho,um⟩:=mem_ready.1 hi;have dA:i<ax.size:=(xD.1 ho).1;have Kd:cb.getD i false=false:=by rw[<-Nu cb i af];exact h0
   obtain⟨hbefore,hwait,hguard⟩:=Cs i o ho;have ji:=o7 (λi=>cb.getD i false) vals u i o ho Kd um tU (YB cb iI) hI;have hsel:=Region.noSelect_spec tW;have Ke:∀d,d∈o.looksAt ax->(gT ax a0 (λi=>cb.getD i false) vals ax.size).eval (.tmp d)=(gT ax a0 (λ_=>true) vals i).eval (.tmp d):=λd0 hd0=>by
    have key:=UQ ax a0 (has:=λi=>cb.getD i false) (vals:=vals) i (.tmp d0) ax.size ?_ ?_
    .rw[Nat.min_eq_right af] at key;exact key
    .intro j hj hju d hd H3;cases x8:ax[j]? with
     |none=>simp[x8] at hd
     |some oj=>
      simp only[x8,An] at hd;rcases hwait j oj hj x8 with⟨e,he,YH,TU⟩|Jr
      .have:=um e he YH;rw[TU] at this;rw[this] at hju;cases hju
      .refine(Oper.apart_spec Jr).1 d hd ?_;cases H3
       exact hd0
    .intro j hj hju d hd H3;have gx:j≠i:=λe=>by rw[e,Kd] at hju;cases hju
     cases x8:ax[j]? with
     |none=>simp[x8] at hd
     |some oj=>
      simp only[x8,An] at hd;rcases(Cs j oj x8).2.1 i o af ho with⟨e,he,YH,TU⟩|Jr
      .have:cb.getD e.on false=true:=tU j oj x8 hju e he YH;rw[TU,Kd] at this;cases this
      .refine(Oper.apart_spec Jr).2.2 d hd ?_;cases H3
       exact hd0
   have he:execOp (gT ax a0 (λi=>cb.getD i false) vals ax.size).eval o=execOp (gT ax a0 (λ_=>true) vals i).eval o:=by
    refine execOp_congr o (λcs b=>hsel i o cs b ho) λx hx=>?_
    cases x with
    |tmp t=>exact Ke t (di _ (List.mem_filterMap.2 ⟨.tmp t,by simpa using hx,rfl⟩))
    |_=>rfl
   have UR:Region.wanted o (yielded ax (gT ax a0 (λi=>cb.getD i false) vals ax.size).tmps)=Region.wanted o (yielded ax (gT ax a0 (λ_=>true) vals i).tmps):=by
    unfold Region.wanted;cases hg:o.guard with
    |none=>rfl
    |some p=>
     obtain⟨g,b⟩:=p;simp only
     congr 1
     unfold yielded;cases hd:(ax[g]?).bind (·.dst) with
     |none=>rfl
     |some d=>
      have h1:=Ke d (by
       unfold Oper.looksAt;refine dH _ ?_;rw[hg];simp only[hd];simp)
      simp only[An];have hsz2:(gT ax a0 (λi=>cb.getD i false) vals ax.size).tmps.size=(gT ax a0 (λ_=>true) vals i).tmps.size:=by rw[oq,oq]
      have h2:(gT ax a0 (λi=>cb.getD i false) vals ax.size).tmps[d]?=(gT ax a0 (λ_=>true) vals i).tmps[d]?:=by
       exact Kc hsz2 h1
      rw[h2]
   have fb:∀j,(cb.setIfInBounds i true).getD j false=if j=i then true else cb.getD j false:=λj=>by
    by_cases v7:j=i
    .subst v7;simp[iI,dA]
    .simp only[v7,oV];exact getD_set_ne false (Ne.symm v7)
   have hfun:gI (λj=>cb.getD j false) i true=λj=>(cb.setIfInBounds i true).getD j false:=funext λj=>(fb j).symm
   have ZB:∀v,gT ax a0 (λj=>(cb.setIfInBounds i true).getD j false) (gI vals i v) ax.size=(gT ax a0 (λi=>cb.getD i false) vals ax.size).put o.dst v:=λv=>by
    have hli:=ZA ax a0 (has:=λi=>cb.getD i false) (vals:=vals) (i:=i) v Kd ax.size dA (λj qp hjn YF d hd=>by
     simp only[ho,An] at hd;cases x8:ax[j]? with
     |none=>simp
     |some oj=>
      simp only[An];rcases(Cs j oj x8).2.1 i o qp ho with⟨e,he,YH,TU⟩|Jr
      .have:cb.getD e.on false=true:=tU j oj x8 YF e he YH;rw[TU,Kd] at this;cases this
      .exact(Oper.apart_spec Jr).2.1 d hd)
    simp only[ho,An] at hli;rw[<-hli,<-hfun];rfl
   have hcl2:sS ax (λj=>(cb.setIfInBounds i true).getD j false):=λj oj x8 hj e he YH=>by
    show(cb.setIfInBounds i true).getD e.on false=true;rw[fb];by_cases TU:e.on=i
    .simp[TU]
    .rw[if_neg TU];by_cases v7:j=i
     .subst v7;rw[ho] at x8;cases x8;exact um e he YH
     .have Nv:(cb.setIfInBounds i true).getD j false=true:=hj;rw[fb,if_neg v7] at Nv;exact tU j oj x8 Nv e he YH
   have Ih:(List.range ax.size).countP (λj=>!(cb.setIfInBounds i true).getD j false)<=fuel:=by
    have:=Gf (p:=λi=>!cb.getD i false) (q:=λj=>!(cb.setIfInBounds i true).getD j false) (L:=List.range ax.size) (λx hx=>by
     rw[fb] at hx;by_cases hxi:x=i
     .simp[hxi] at hx
     .simpa[hxi] using hx) ⟨i,mH.2 dA,by simp only[Kd];rfl,by simp only[fb,if_true];rfl⟩
    omega
   unfold wpOp;simp only[ho];rw[UR];by_cases hw:Region.wanted o (yielded ax (gT ax a0 (λ_=>true) vals i).tmps)=true
   .rw[if_pos hw];refine .inl ?_;refine Oper.wp_mono (λa' w' ⟨v,ha,hI'⟩=>?_) (wp_at (Q:=Q) (by rw[oq,oq]) he (ji.1 hw));subst ha;rw[<-ZB v];rw[hfun] at hI';exact ih _ _ w' (by simpa using iI) hcl2 hI' Ih
   .rw[if_neg hw];rw[<-ZB undef];have hI':=ji.2 (by simpa using hw);rw[hfun] at hI';exact ih _ _ u (by simpa using iI) hcl2 hI' Ih
theorem EX {id:Nat}{W:World}(hm:P.follows .mixedOrders=true)(fZ:zJ ax=true)(Inv:(Nat->Bool)->(Nat->Value)->World->Prop)
  (o7:∀(L:Nat->Bool)(vals:Nat->Value)(w:World)(i:Nat)(o:Oper),ax[i]?=some o->L i=false->(∀e∈o.after,Region.binds .any e=true->L e.on=true)->sS ax L->(∀j,L j=true->j<ax.size)->Inv L vals w->
    (Region.wanted o (yielded ax (gT ax a0 (λ_=>true) vals i).tmps)=true->o.wp P (gT ax a0 (λ_=>true) vals i) w (λa' w'=>∃v,a'=(gT ax a0 (λ_=>true) vals i).put o.dst v/\Inv (gI L i true) (gI vals i v) w') (λ_ _ _=>False))/\
    (Region.wanted o (yielded ax (gT ax a0 (λ_=>true) vals i).tmps)=false->Inv (gI L i true) (gI vals i undef) w))
  (hend:∀(L:Nat->Bool)(vals:Nat->Value)(w:World),(∀i,i<ax.size->L i=true)->Inv L vals w->Q .normal (gT ax a0 (λ_=>true) vals ax.size) w)
  (h0:Inv (λ_=>false) (λ_=>undef) W.drew):(Code.region id ax true).wp P Q a0 W:=by
 refine wp_region_any hm ?_;have FZ:∀i,(Array.replicate ax.size false).getD i false=false:=λi=>by by_cases h:i<ax.size<;>simp[h]
 have hf:(λi=>(Array.replicate ax.size false).getD i false)=λ_=>false:=funext FZ
 have:=Rx fZ Inv o7 hend ax.size (Array.replicate ax.size false) (λ_=>undef) W.drew (by simp) (by rw[hf];intro j oj _ h;cases h) (by rw[hf];exact h0) (by
  refine ku (Ft) (by simp))
 have hlz:∀k,gT ax a0 (λi=>(Array.replicate ax.size false).getD i false) (λ_=>undef) k=a0:=λk=>by
  induction k with
  |zero=>rfl
  |succ k ih=>
   unfold gT;rw[if_neg (by rw[FZ];decide),ih]
 rw[hlz] at this;exact this
end
section
variable {ax:List Oper}
theorem Ct (cM:Array Nat):∀(es:List Edge)(m:Nat)(i:Nat),(es.foldl (λs e=>if Region.binds .any e then s||| 2^ e.on||| cM.getD e.on 0 else s) m).testBit i=true->
  m.testBit i=true\/∃e∈es,Region.binds .any e=true/\(i=e.on\/(cM.getD e.on 0).testBit i=true)
 |[],m,i,h=>.inl h
 |e::es,m,i,h=>by
  rw[vF] at h;rcases Ct cM es _ i h with h1|⟨e',he,hb,h2⟩
  .split at h1
   .rename_i hb;simp only[Nat.testBit_or,mC] at h1;rcases h1 with(h1|h1)|h1
    .exact .inl h1
    .rw[Nat.testBit_two_pow] at h1;exact .inr ⟨e,by simp,hb,.inl (vM h1).symm⟩
    .exact .inr ⟨e,by simp,hb,.inr h1⟩
   .exact .inl h1
  .exact .inr ⟨e',by simp[he],hb,h2⟩
def ZC (ax:List Oper)(j k:Nat):Prop:=∀L:Nat->Bool,sS ⟨ax⟩ L->(∀oj,ax[j]?=some oj->∀e∈oj.after,Region.binds .any e=true->L e.on=true)->L k=true
theorem AD (dA:∀j oj,ax[j]?=some oj->∀e∈oj.after,Region.binds .any e=true->e.on<j)(L:Nat->Bool)(hL:sS ⟨ax⟩ L):∀(l:List Oper)(cM:Array Nat),(∃pre,ax=pre++l/\pre.length=cM.size)->
  (∀j oj,j<cM.size->ax[j]?=some oj->(∀e∈oj.after,Region.binds .any e=true->L e.on=true)->∀i,(cM.getD j 0).testBit i=true->L i=true)->
  ∀j oj,ax[j]?=some oj->(∀e∈oj.after,Region.binds .any e=true->L e.on=true)->∀i,((l.foldl (λcM o=>cM.push (o.after.foldl (λs e=>if Region.binds .any e then s||| 2^ e.on||| cM.getD e.on 0 else s) 0)) cM).getD j 0).testBit i=true->L i=true
 |[],cM,⟨pre,h1,h2⟩,kD,j,oj,hj,ha,i,hi=>by
  simp only[iH] at h1;subst h1;have EM:j<cM.size:=by rw[<-h2];exact(tL.1 hj).1
  exact kD j oj EM hj ha i hi
 |o::l,cM,⟨pre,h1,h2⟩,kD,j,oj,hj,ha,i,hi=>by
  rw[vF] at hi;refine AD dA L hL l _ ⟨pre++[o],by rw[h1];simp,by simp[h2]⟩ (λj' MW YI hoj' ha' i' fG=>?_) j oj hj ha i hi;have ho:ax[cM.size]?=some o:=by rw[h1,<-h2];simp
  rcases kU j' cM.size with EM|Ze
  .have:(cM.push (o.after.foldl (λs e=>if Region.binds .any e then s||| 2^ e.on||| cM.getD e.on 0 else s) 0)).getD j' 0=cM.getD j' 0:=by
    simp[Array.getElem?_push,Nat.ne_of_lt EM]
   rw[this] at fG;exact kD j' MW EM hoj' ha' i' fG
  .have Nv:j'=cM.size:=by simp at YI;omega
   subst Nv;rw[ho] at hoj';cases hoj';have:(cM.push (o.after.foldl (λs e=>if Region.binds .any e then s||| 2^ e.on||| cM.getD e.on 0 else s) 0)).getD cM.size 0=o.after.foldl (λs e=>if Region.binds .any e then s||| 2^ e.on||| cM.getD e.on 0 else s) 0:=by
    simp
   rw[this,<-Array.foldl_toList] at fG;rcases Ct cM _ _ _ fG with h3|⟨e,he,hb,h3⟩
   .simp at h3
   .have he':e∈o.after:=by simpa using he
    rcases h3 with rfl|h3
    .exact ha' e he' hb
    .have TU:=dA _ _ ho e he' hb;have hoe:∃oe,ax[e.on]?=some oe:=by
      have:e.on<ax.length:=by rw[h1];simp;omega
      exact⟨ax[e.on],bk this⟩
     obtain⟨oe,hoe⟩:=hoe;exact kD e.on oe TU hoe (λe2 UI TV=>hL e.on oe (by simpa using hoe) (ha' e he' hb) e2 UI TV) i' h3
theorem wG (dA:∀j oj,ax[j]?=some oj->∀e∈oj.after,Region.binds .any e=true->e.on<j){j i:Nat}{oj:Oper}(hj:ax[j]?=some oj)(h:((Region.before ⟨ax⟩).getD j 0).testBit i=true):ZC ax j i:=by
 intro L hL ha;refine AD dA L hL ax #[] ⟨[],rfl,rfl⟩ (λj oj h=>by simp at h) j oj hj (ha oj hj) i ?_;have:(Region.before ⟨ax⟩)=ax.foldl (λcM o=>cM.push (o.after.foldl (λs e=>if Region.binds .any e then s||| 2^ e.on||| cM.getD e.on 0 else s) 0)) #[]:=by
  unfold Region.before;rw[<-Array.foldl_toList]
 rw[this] at h;exact h
theorem Gg {j k i:Nat}(hk:ZC ax j k)(hi:ZC ax k i):ZC ax j i:=λL hL ha=>
 hi L hL λok fZ e he hb=>hL k ok (by simpa using fZ) (hk L hL ha) e he hb
theorem Nw {j:Nat}{oj:Oper}(hj:ax[j]?=some oj){e:Edge}(he:e∈oj.after)(hb:Region.binds .any e=true):ZC ax j e.on:=λL _ ha=>ha oj hj e he hb
theorem US (dA:∀j oj,ax[j]?=some oj->∀e∈oj.after,Region.binds .any e=true->e.on<j){j k:Nat}(h:ZC ax j k):k<j:=by
 have:=h (λi=>decide (i<j)) (λi oi hoi hi e he hb=>by
  have h1:=dA i oi (by simpa using hoi) e he hb;simp at hi⊢;omega) (λoj hj e he hb=>by simpa using dA j oj hj e he hb)
 simpa using this
end
section
variable {E:dy}{P:Program}{call:dJ}
structure o8 (E:dy)(call:dJ)(ax:List Oper)(j n:Nat)(TM:Nat->Tm)(S:Nat->St)(V:Nat->Value)(S':Nat->St):Prop where
 step:∀i o,j<=i->i<n->ax[i]?=some o->TM (i+1)=(TM i).gT o.dst (V i)/\S (i+1)=eE (S' i)/\
  ((gW ax (TM i) o.guard=true/\EA E call (aI (TM i)) (S i) o.op=some (V i,S' i))\/(gW ax (TM i) o.guard=false/\V i= .tuple ⟨[]⟩/\S' i=S i))
 clear:∀i,j<=i->i<=n->(S i).cM=0/\(S i).wr=0
 apart:∀i k,j<=i->i<k->k<n->((Region.before ⟨ax⟩).getD k 0).testBit i=true\/((∀b,¬(In (S' i).wr b/\In (S' k).cM b))/\(∀b,¬(In (S' i).cM b/\In (S' k).wr b)))
theorem Gh {a b:Nat}(h:Nat.beq (Nat.land a b) 0=true)(i:Nat):¬(In a i/\In b i):=by
 have h1:(a&&& b)=0:=oM h;rintro⟨h2,h3⟩;have:(a&&& b).testBit i=true:=by rw[Nat.testBit_and,h2,h3];rfl
 rw[h1] at this;simp at this
theorem Gi {b a r:Nat}:∀{l:List Seen},zC b a r l=true->∀x∈l,b.testBit x.i=true\/((∀c,¬(In x.wr c/\In a c))/\(∀c,¬(In x.cM c/\In r c)))
 |[],_,x,hx=>by cases hx
 |y::l,h,x,hx=>by
  have h':bo (bo (Nat.beq (Nat.land y.wr a) 0) (Nat.beq (Nat.land y.cM r) 0) false||Nat.testBit b y.i) (zC b a r l) false=true:=h;rw[ek] at h';split at h'
  .rename_i hc;rcases bV.1 hx with rfl|hx
   .rw[mC,ek] at hc;rcases hc with hc|hc
    .split at hc
     .rename_i h1;exact .inr ⟨Gh h1,Gh hc⟩
     .cases hc
    .exact .inl hc
   .exact Gi h' x hx
  .cases h'
theorem wH (ax:List Oper)(o:Oper)(l:List Oper)(j:Nat)(tm:Tm)(s:St)(seen:List Seen):ub E call ax (o::l) j tm s seen=bo (gW ax tm o.guard) (ob (EA E call (aI tm) (eE s) o.op) λp=>match p with
        |(v,s')=>ua ax j s s' seen λs seen=>tm.put o.dst v λtm=>ub E call ax l (Nat.succ j) tm s seen)
   (tm.put o.dst (.tuple ⟨[]⟩) λtm=>ub E call ax l (Nat.succ j) tm s seen):=rfl
theorem jw (s:St):eE s=⟨s.heap,s.next,0,0⟩:=by cases s;rfl
theorem qK (b:Nat):¬In 0 b:=by simp[In]
def Runs (E:dy)(call:dJ)(ax:List Oper)(j n:Nat)(tm:Tm)(s:St)(seen:List Seen)(jk:Tm)(s':St):Prop:=
    ∃TM S V S',o8 E call ax j (n) TM S V S'/\TM j=tm/\S j=eE s/\TM (n)=jk/\S (n)=eE s'/\
     (∀i,j<=i->i<n->(∀b,In (S' i).cM b->In s'.cM b)/\(∀b,In (S' i).wr b->In s'.wr b))/\(∀b,In s.cM b->In s'.cM b)/\(∀b,In s.wr b->In s'.wr b)/\
     (∀b,In s'.cM b->In s.cM b\/∃i,j<=i/\i<n/\In (S' i).cM b)/\(∀b,In s'.wr b->In s.wr b\/∃i,j<=i/\i<n/\In (S' i).wr b)/\
     (∀i,j<=i->i<n->∀x∈seen,((Region.before ⟨ax⟩).getD i 0).testBit x.i=true\/((∀b,¬(In x.wr b/\In (S' i).cM b))/\(∀b,¬(In x.cM b/\In (S' i).wr b))))
theorem Cu (hE:cS E P)(hC:dP P call)(ax:List Oper):∀(l:List Oper)(j:Nat)(tm:Tm)(s:St)(seen:List Seen){jk:Tm}{s':St},l=ax.drop j->ub E call ax l j tm s seen=some (jk,s')->
  Runs E call ax j (j+l.length) tm s seen jk s'
 |[],j,tm,s,seen,jk,s',hl,h=>by
  have:=ir h;simp only[cx] at this;obtain⟨rfl,rfl⟩:=this;refine⟨λ_=>tm,λ_=>eE s,λ_=>undef,λ_=>eE s,⟨λi o h1 h2=>by simp at h2;omega,λi h1 h2=>by rw[jw];exact⟨rfl,rfl⟩,λi k h1 h2 h3=>by simp at h3;omega⟩,rfl,rfl,rfl,rfl,λi h1 h2=>by simp at h2;omega,λ_ h=>h,λ_ h=>h,λ_ h=>.inl h,λ_ h=>.inl h,λi h1 h2=>by simp at h2;omega⟩
 |o::l,j,tm,s,seen,jk,s',hl,h=>by
  have hk:ax[j]?=some o:=by
   have:=gb (·[0]?) hl;simpa using this.symm
  have ju:l=ax.drop (j+1):=by
   have:=gb (List.drop 1) hl;simpa[lZ,Nat.add_comm] using this
  rw[wH] at h;have glue:∀(v:Value)(s1:St)(s2:St)(Kf:List Seen),ub E call ax l (j+1) (tm.gT o.dst v) s2 Kf=some (jk,s')->eE s2=eE s1->
                       ((gW ax tm o.guard=true/\EA E call (aI tm) (eE s) o.op=some (v,s1))\/(gW ax tm o.guard=false/\v= .tuple ⟨[]⟩/\s1=eE s))->
                       (∀b,In s1.cM b->In s2.cM b)->(∀b,In s1.wr b->In s2.wr b)->(∀b,In s.cM b->In s2.cM b)->(∀b,In s.wr b->In s2.wr b)->(∀b,In s2.cM b->In s.cM b\/In s1.cM b)->(∀b,In s2.wr b->In s.wr b\/In s1.wr b)->
                       (∀x∈seen,x∈Kf)->((∃x∈Kf,x.i=j/\x.cM=s1.cM/\x.wr=s1.wr)\/((∀b,¬In s1.cM b)/\∀b,¬In s1.wr b))->
                       (∀x∈seen,((Region.before ⟨ax⟩).getD j 0).testBit x.i=true\/((∀b,¬(In x.wr b/\In s1.cM b))/\(∀b,¬(In x.cM b/\In s1.wr b))))->Runs E call ax j (j+(o::l).length) tm s seen jk s':=by
   intro v s1 s2 Kf hd hc o7 ha1 MX ha2 Rn ha3 hw3 PN Cv hbef;obtain⟨TM,S,V,S',dR,e1,e2,e3,e4,jO,hA,hW,hA2,hW2,hsn⟩:=Cu hE hC ax l (j+1) (tm.gT o.dst v) s2 Kf ju hd;have cX:j+(o::l).length=j+1+l.length:=by simp;omega
   rw[cX];refine⟨λi=>if i=j then tm else TM i,λi=>if i=j then eE s else S i,λi=>if i=j then v else V i,λi=>if i=j then s1 else S' i,⟨λi oi h1 h2 hoi=>?_,λi h1 h2=>?_,λi k h1 h2 h3=>?_⟩,?_,?_,?_,?_,λi h1 h2=>?_,λb hb=>hA b (ha2 b hb),λb hb=>hW b (Rn b hb),λb hb=>?_,λb hb=>?_,λi h1 h2 x hx=>?_⟩
   .by_cases qp:i=j
    .subst qp;rw[hk] at hoi;cases hoi;simp only[if_true,show ¬i+1=i by omega,oV];refine⟨e1,?_,?_⟩
     .rw[e2];exact hc
     .exact o7
    .simp only[qp,oV,show ¬i+1=j by omega];exact dR.step i oi af h2 hoi
   .by_cases qp:i=j
    .subst qp;rw[if_pos rfl,jw];exact⟨rfl,rfl⟩
    .simp only[qp,oV];exact dR.clear i af h2
   .have Ry:¬k=j:=by omega
    simp only[Ry,oV];by_cases qp:i=j
    .subst qp;simp only[if_true];rcases Cv with⟨x,hx,hxi,hxa,hxw⟩|⟨q1,q2⟩
     .have:=hsn k af h3 x hx;rw[hxi,hxa,hxw] at this;exact this
     .exact .inr ⟨λb hb=>q2 b hb.1,λb hb=>q1 b hb.1⟩
    .simp only[qp,oV];exact dR.apart i k af h2 h3
   .simp
   .simp
   .simp only[show ¬j+1+l.length=j by omega,oV];exact e3
   .simp only[show ¬j+1+l.length=j by omega,oV];exact e4
   .by_cases qp:i=j
    .simp only[qp,if_true];exact⟨λb hb=>hA b (ha1 b hb),λb hb=>hW b (MX b hb)⟩
    .simp only[qp,oV];exact jO i af h2
   .rcases hA2 b hb with h4|⟨i,h5,h6,h7⟩
    .rcases ha3 b h4 with h4|h4
     .exact .inl h4
     .exact .inr ⟨j,cy _,af,by simpa using h4⟩
    .exact .inr ⟨i,af,h6,by simpa[show ¬i=j by omega] using h7⟩
   .rcases hW2 b hb with h4|⟨i,h5,h6,h7⟩
    .rcases hw3 b h4 with h4|h4
     .exact .inl h4
     .exact .inr ⟨j,cy _,af,by simpa using h4⟩
    .exact .inr ⟨i,af,h6,by simpa[show ¬i=j by omega] using h7⟩
   .by_cases qp:i=j
    .subst qp;simp only[if_true];exact hbef x hx
    .simp only[qp,oV];exact hsn i af h2 x (PN x hx)
  cases hw:gW ax tm o.guard with
  |true=>
   rw[hw,gw] at h;obtain⟨⟨v,s1⟩,h1,h2⟩:=aw h;obtain⟨Bc,_⟩:=Ib (o:=o) hE hC h1;have hsub1:∀b,In s1.wr b->In s1.cM b:=Bc.sub (λb hb=>by rw[jw] at hb;exact absurd hb (qK b));obtain⟨h0,n0,a0,r0⟩:=s;obtain⟨hh,nn,aa,rr⟩:=s1;simp only[ua,Tm.put_eq] at h2;cases hz:Nat.beq aa 0 with
   |true=>
    rw[hz,gw] at h2;have haa:aa=0:=oM hz;subst haa;have Rp:∀b,¬In rr b:=λb hb=>qK b (hsub1 b hb)
    exact glue v ⟨hh,nn,0,rr⟩ ⟨hh,nn,a0,r0⟩ seen h2 rfl (.inl ⟨hw,h1⟩) (λb hb=>absurd hb (qK b)) (λb hb=>absurd hb (Rp b)) (λb hb=>hb) (λb hb=>hb) (λb hb=>.inl hb) (λb hb=>.inl hb) (λx hx=>hx) (.inr ⟨qK,Rp⟩) (λx hx=>.inr ⟨λb hb=>qK b hb.2,λb hb=>Rp b hb.2⟩)
   |false=>
    rw[hz,eG] at h2;obtain⟨h3,h4⟩:=HV h2;simp only[PB] at h4;refine glue v ⟨hh,nn,aa,rr⟩ ⟨hh,nn,a0||| aa,r0||| rr⟩ (⟨j,aa,rr⟩::seen) h4 rfl (.inl ⟨hw,h1⟩) (λb hb=>(rb _ _ _).2 (.inr hb)) (λb hb=>(rb _ _ _).2 (.inr hb)) (λb hb=>(rb _ _ _).2 (.inl hb)) (λb hb=>(rb _ _ _).2 (.inl hb)) (λb hb=>(rb _ _ _).1 hb) (λb hb=>(rb _ _ _).1 hb) (λx hx=>lE _ hx) (.inl ⟨⟨j,aa,rr⟩,by simp,rfl,rfl,rfl⟩) (Gi h3)
  |false=>
   rw[hw,eG] at h;simp only[Tm.put_eq] at h;have hca:∀b,¬In (eE s).cM b:=λb=>by rw[jw];exact qK b
   have hcw:∀b,¬In (eE s).wr b:=λb=>by rw[jw];exact qK b
   exact glue _ (eE s) s seen h (by simp[jw]) (.inr ⟨hw,rfl,rfl⟩) (λb hb=>absurd hb (hca b)) (λb hb=>absurd hb (hcw b)) (λb hb=>hb) (λb hb=>hb) (λb hb=>.inl hb) (λb hb=>.inl hb) (λx hx=>hx) (.inr ⟨hca,hcw⟩) (λx hx=>.inr ⟨λb hb=>hca b hb.2,λb hb=>hcw b hb.2⟩)
end
end Go.Ev
