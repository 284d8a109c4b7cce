/- Lemmas of the proof. No conditions. -/
import Derived.Control
import Derived.KernelRfl
import Derived.Lib.Builder
import Derived.Laws.CopyRow
import Derived.Laws.Rows
import Derived.Laws.Tables
import Derived.Lib.SmallJoins
import Derived.Great.FillDense
import Derived.Laws.MakeOwn
import Derived.Laws.BytesString
import Derived.Lib.UnsafeStr
import Derived.Orders
set_option maxRecDepth 100000
set_option maxHeartbeats 4000000
set_option linter.all false
open Bool renaming false->U,true->J
open Option renaming none->O,some->C
open List renaming length->Y
open Go.Value renaming slice->H,bool->M,int->I
open Nat (beq ble mul)
open Go.Result (andThen_ok)
open Go.Sem (run_bind)
open Go.Region (binds)
open List (replicate)
open Int (toNat)
open Go.Builtin (firstCells)
open Go.Instr (checkKey)
namespace Go
variable{P:Prop}
def zad (h:P:=by
 have h1:mul (Nat.sub cap cl) sz=(cap-cl)*sz:=rfl;have h2:Nat.add o (mul len sz)=o+len*sz:=rfl;cases wd with
 |true=>obtain⟨r7,r8,r9,r10⟩:=r5 rfl;rw[pw hE wm] at r8 r9;refine acx (c:=sz) ?_ r9;rw[mO,<-r8];omega
 |false=>have h3:sz=1:=nN hw;have h4:=(r6 rfl).2;rw[h3,sh] at h1 h2;rw[h3] at ho cg;simp only[Nat.mul_eq,sh] at ho cg h1 h2;omega
 all_goals obtain h:=_;exact h):P:=h
def zaL (h:P:=by have Rh:=grownCap_ge w len cap e;have hle:=grownCap_le_maxLen w len cap e (by unfold maxLen;omega);refine⟨_,_,ρ.at s.next (w.heap.size,grownCap w len cap e,0),hm,?_,?_⟩;all_goals obtain h:=_;exact h):P:=h
def zaM (h:P:=by
 obtain⟨h0,h⟩:=adq h;rw[kl] at h0;simp only[o4] at h;subst h;have h1:b≠0:=by simpa using h0
 exact⟨by simp[binOp,Op.intDiv,kF,h1],λρ=>by simp⟩;all_goals obtain h:=_;exact h):P:=h
def zaN (h:P:=by cases aF h;exact⟨ay.refl _,λX A ρ w a Q hp ma hx=>wp_pure rfl hp (hx x (by simp[Op.operands]))⟩;all_goals obtain h:=_;exact h):P:=h
def zaR (h:P:=by
 obtain⟨x,xs,rfl,hu,hu2,hus,ae5⟩:=LR.split h1 h2;rw[OT] at h;obtain⟨b,hb,h3⟩:=aG h;have hk:x.key=p.1:=by rw[<-hu.self,IH hb]
 all_goals obtain h:=_;exact h):P:=h
end Go
namespace Go
abbrev aP:=Option Addr
abbrev aV:=List Value
def aa {P:Prop}(h:P:=by omega):P:=h
def bV {P:Prop}(h:P:=by kernel_rfl):P:=h
def aq {P:Prop}(h:P:=by simp):P:=h
def cx {P:Prop}(h:P:=by decide):P:=h
def aT {P:Prop}(h:P:=by assumption):P:=h
abbrev xA:=@Nat.le_of_ble_eq_true
abbrev dB:=@List.length_append
abbrev ep:=@Bool.and_eq_true
abbrev eX:=@List.getD_eq_getElem?_getD
abbrev im:=@List.mem_append_left
abbrev gv:=@decide_eq_true_eq
abbrev fG:=@Nat.le_refl
abbrev fS:=@List.length_cons
abbrev cA:=@List.mem_cons
abbrev cu:=@Prod.mk.injEq
abbrev c8:=@List.getElem?_eq_getElem
abbrev cG:=@List.mem_append
abbrev dI:=@List.mem_cons_of_mem
abbrev dt:=@List.mem_append_right
abbrev de:=@List.length_take
abbrev dQ:=@Nat.ble_eq_true_of_le
abbrev dM:=@Option.some.inj
abbrev ed:=@List.mem_cons_self
abbrev fH:=@List.length_map
abbrev fT:=@List.append_nil
abbrev fq:=@List.length_drop
abbrev jk:=@List.cons_append
abbrev gI:=@List.mem_singleton
abbrev gZ:=@decide_eq_true
abbrev kG:=@List.nil_append
abbrev ib:=@if_false
abbrev iD:=@List.append_assoc
abbrev iO:=@if_true
abbrev jR:=@Nat.le_trans
abbrev jl:=@Nat.zero_le
abbrev jc:=@Nat.lt_or_ge
abbrev jm:=@List.length_nil
abbrev jG:=@List.eq_nil_of_length_eq_zero
abbrev qj:=@List.mem_map
abbrev km:=@Bool.or_eq_true
abbrev jS:=@Bool.false_eq_true
abbrev kX:=@decide_eq_false
abbrev kz:=@Nat.zero_add
abbrev kY:=@Nat.beq_refl
abbrev lF:=@List.map_cons
abbrev lG:=@List.take_length
abbrev kZ:=@List.mem_flatMap
abbrev mV:=@List.length_set
abbrev k6:=@List.not_mem_nil
abbrev k7:=@or_false
abbrev lH:=@Nat.beq_eq
abbrev mW:=@decide_eq_false_iff_not
abbrev lI:=@Option.getD_some
abbrev mO:=@Nat.add_mul
abbrev mm:=@Nat.ble_eq
abbrev mP:=@List.getElem?_map
abbrev mQ:=@List.getElem?_eq_none
abbrev mR:=@List.flatMap_cons
abbrev si:=@List.getElem_of_mem
abbrev nN:=@Nat.eq_of_beq_eq_true
abbrev sh:=@Nat.mul_one
abbrev o5:=@List.all_eq_true
abbrev tF:=@List.countP_cons
abbrev qQ:=@List.pairwise_cons
abbrev qR:=@List.map_append
abbrev o4:=@Option.some.injEq
abbrev o6:=@Bool.eq_iff_iff
abbrev sj:=@Option.isSome_iff_exists
abbrev o7:=@List.sublist_append_right
abbrev px:=@Int.toNat_natCast
abbrev vC:=@List.take_append_drop
abbrev qS:=@List.getElem?_eq_some_iff
abbrev za:=@List.take_of_length_le
abbrev ra:=@Bool.not_eq_true'
abbrev sk:=@List.length_replicate
abbrev vD:=@List.nodup_append
abbrev re:=@List.drop_length
abbrev tG:=@Nat.eq_zero_or_pos
abbrev xC:=@List.drop_eq_nil_of_le
abbrev tw:=@List.getElem?_append_left
abbrev tz:=@UInt8.toNat_inj
abbrev tA:=@and_true
abbrev tC:=@Option.map_some
abbrev tH:=@Nat.min_eq_left
abbrev wo:=@Bool.true_and
abbrev wq:=@List.length_pos_iff
abbrev tI:=@Int.eq_ofNat_of_zero_le
abbrev B3:=@Bool.false_ne_true
abbrev tJ:=@Array.getElem?_eq_some_iff
abbrev B4:=@List.mem_range
abbrev tK:=@Bool.not_eq_true
abbrev tL:=@List.perm_append_comm_assoc
abbrev B5:=@List.getElem_mem
abbrev vF:=@Nat.lt_of_lt_of_le
abbrev vG:=@Nat.sub_self
abbrev vH:=@List.flatMap_nil
abbrev vI:=@List.Perm.append_left
abbrev vJ:=@List.length_singleton
abbrev wu:=@Nat.add_zero
abbrev wv:=@List.getElem?_append_right
abbrev xD:=@Array.ext'
abbrev xE:=@List.foldl_cons
abbrev wx:=@List.drop_drop
abbrev B6:=@Classical.byContradiction
abbrev qm:=@Nat.pow_succ
abbrev qo:=@List.map_congr_left
abbrev rh:=@Bool.and_eq_false_iff
abbrev qp:=@List.singleton_append
abbrev ri:=@List.filter_append
abbrev rj:=@beq_iff_eq
abbrev Ac:=@List.countP_eq_zero
abbrev rk:=@Nat.le_of_lt
abbrev tM:=@List.nodup_cons
abbrev Gm:=@List.pairwise_iff_getElem
abbrev s9:=@false_or
abbrev ta:=@List.nodup_nil
abbrev xF:=@List.drop_eq_getElem_cons
abbrev Ad:=@List.mem_filter
abbrev vM:=@List.getD_cons_succ
abbrev tN:=@List.countP_pos_iff
abbrev tO:=@Bool.false_and
abbrev tP:=@List.take_append_of_le_length
abbrev tQ:=@true_and
abbrev xG:=@Nat.mod_lt
abbrev tR:=@List.mapM_cons
abbrev tS:=@not_false_eq_true
abbrev Ae:=@List.findIdx?_eq_some_iff_getElem
abbrev vN:=@List.filter_cons
abbrev tT:=@decide_eq_decide
abbrev Af:=@List.pairwise_map
abbrev vO:=@Bool.not_false
abbrev vP:=@Int.natCast_nonneg
abbrev vQ:=@List.range'_succ
abbrev vR:=@of_decide_eq_true
abbrev xH:=@List.flatMap_append
abbrev vS:=@List.take_add_one
abbrev Ag:=@List.countP_append
abbrev xI:=@List.getElem?_take
abbrev xJ:=@Nat.mod_eq_of_lt
abbrev Ah:=@List.drop_zero
abbrev Ai:=@Nat.mul_le_mul_right
abbrev xK:=@Bool.not_eq_false
abbrev xL:=@List.takeWhile_cons
abbrev xM:=@Int.le_refl
abbrev V1:=@List.filter_sublist
abbrev Aj:=@Nat.lt_irrefl
abbrev xN:=@List.range_succ
abbrev Gn:=@List.nodup_iff_pairwise_ne
abbrev xO:=@List.sum_cons
abbrev Ak:=@Option.ne_none_iff_exists'
abbrev Al:=@List.drop_append_of_le_length
abbrev Am:=@Nat.zero_mul
abbrev An:=@List.mem_of_mem_take
abbrev Ao:=@Option.bind_some
abbrev V2:=@List.take_append
abbrev Ap:=@List.drop_left
abbrev Aq:=@Bool.and_self
abbrev Ar:=@Int.toNat_of_nonneg
abbrev As:=@List.getD_cons_zero
abbrev B7:=@Nat.succ_le_iff
abbrev B8:=@Bool.not_true
abbrev Gp:=@List.map_map
abbrev B9:=@List.take_zero
abbrev Ca:=@List.take_left
abbrev Cb:=@Nat.add_comm
abbrev Cc:=@Array.getElem?_modify
abbrev Cd:=@List.mem_of_getElem?
abbrev Ce:=@List.countP_le_length
abbrev Ri:=@Nat.lt_trichotomy
abbrev Cf:=@List.map_id
abbrev Cg:=@List.getElem?_drop
abbrev Ch:=@Bool.not_eq_false'
abbrev Ci:=@Bool.or_eq_false_iff
abbrev Cj:=@List.any_eq_true
abbrev Ck:=@List.Perm.append_right
abbrev KH:=@List.pairwise_singleton
abbrev Cl:=@Nat.le_add_right
abbrev Gq:=@List.map_drop
abbrev KI:=@List.drop_append
abbrev Gs:=@UInt8.lt_iff_toNat_lt
abbrev Gt:=@List.ext_getElem?
abbrev Gu:=@List.getElem?_range
abbrev Gv:=@Nat.le_mul_of_pos_right
abbrev Gx:=@List.getElem?_toArray
abbrev KJ:=@List.map_set
abbrev Gy:=@Option.map_eq_some_iff
abbrev Gz:=@List.forIn_cons
abbrev GA:=@List.findIdx?_cons
abbrev GB:=@List.Sublist.refl
abbrev KK:=@Bool.or_true
abbrev GC:=@Bool.not_eq_eq_eq_not
abbrev GD:=@List.all_append
abbrev GF:=@Bool.or_eq_true_iff
abbrev KL:=@List.map_nil
abbrev GG:=@Nat.mul_assoc
abbrev GH:=@Nat.mul_comm
abbrev ae6:=@Nat.max_eq_left
abbrev V3:=@List.length_pos_of_mem
abbrev acy:=@List.countP_congr
abbrev KM:=@List.Pairwise.nil
abbrev GI:=@List.flatten_cons
abbrev GJ:=@Bool.and_false
abbrev GK:=@List.sum_append
abbrev Rj:=@List.take_succ_cons
abbrev KN:=@List.take_take
abbrev KP:=@Array.getElem?_eq_none
abbrev KQ:=@List.Sublist.append
abbrev KR:=@Bool.and_true
abbrev Rk:=@List.replicate_succ
abbrev KS:=@Int.tdiv_eq_ediv_of_nonneg
abbrev KT:=@List.all_eq_false
abbrev V4:=@List.findIdx?_eq_none_iff
abbrev Cm:=@List.perm_append_comm
abbrev V5:=@List.mem_or_eq_of_mem_set
abbrev KU:=@List.cons.inj
abbrev KV:=@List.takeWhile_prefix
abbrev KW:=@List.length_filter_le
abbrev KX:=@List.countP_eq_length_filter
abbrev V6:=@List.length_range
abbrev Rl:=@BitVec.ofInt_natCast
abbrev Rm:=@BitVec.toNat_ofNat
abbrev acx:=@Nat.le_of_mul_le_mul_right
abbrev Rn:=@List.getElem?_cons_succ
abbrev Ro:=@Array.getD_eq_getD_getElem?
abbrev Rp:=@Array.getElem?_eq_getElem
abbrev Rq:=@Array.getElem?_append_left
abbrev Rr:=@Nat.pow_le_pow_right
abbrev Rs:=@List.getElem_replicate
abbrev acz:=@List.countP_singleton
abbrev Rt:=@List.filter_congr
abbrev Ru:=@List.dropLast_concat_getLast
abbrev Rv:=@List.findIdx?_isSome
abbrev Rw:=@List.length_reverse
abbrev Rx:=@List.mem_of_find?_eq_some
def af.{u}{c:Prop}[h:Decidable c](k:¬c){α:Sort u}{t e:α}:ite c t e=e:=if_neg k
def ai.{u}{c:Prop}[h:Decidable c](k:c){α:Sort u}{t e:α}:ite c t e=t:=if_pos k
end Go
namespace Go.Ev
open Go
section
inductive T (α:Type) where
 |nil
 |node (v:Option α) (l r:T α)
noncomputable section
def bo {α:Type}(b:Bool)(x y:α):α:=Bool.rec y x b
def ob {α β:Type}(o:Option α)(k:α->Option β):Option β:=Option.rec O k o
def dq {β:Type}(b:Bool)(k:Option β):Option β:=Bool.rec O k b
def T.get {α:Type}(t:T α):Nat->Option α:=
 T.rec (λ_=>O) (λv _ _ gl gr n=>bo (beq n (nat_lit 0)) v (bo (beq (Nat.mod n (nat_lit 2)) (nat_lit 1)) (gl (Nat.div n (nat_lit 2))) (gr (Nat.pred (Nat.div n (nat_lit 2)))))) t
def T.now {α β:Type}(t:T α)(k:T α->β):β:=T.rec (k .nil) (λv l r _ _=>k (.node v l r)) t
def T.ae7 {α:Type}(ih:T α->Nat->T α)(v:Option α)(l r:T α)(n:Nat)(x:Option α):T α:=
 bo (beq n (nat_lit 0)) (.node x l r) (bo (beq (Nat.mod n (nat_lit 2)) (nat_lit 1)) ((ih l (Nat.div n (nat_lit 2))).now λl=>.node v l r) ((ih r (Nat.pred (Nat.div n (nat_lit 2)))).now λr=>.node v l r))
def T.set {α:Type}(d:Nat)(t:T α)(n:Nat)(x:Option α):T α:=
 Nat.rec (λt _=>t) (λ_ ih t n=>T.rec (T.ae7 ih O .nil .nil n x) (λv l r _ _=>T.ae7 ih v l r n x) t) d t n
def wy {β:Type}(n:Nat)(k:Nat->β):β:=Nat.rec (k (nat_lit 0)) (λm _=>k (Nat.succ m)) n
def adr {β:Type}(n:Int)(k:Int->β):β:=Int.rec (λm=>wy m λm=>k (.ofNat m)) (λm=>wy m λm=>k (.negSucc m)) n
def ae8 {β:Type}(b:Bool)(k:Bool->β):β:=Bool.rec (k U) (k J) b
def Z9 {β:Type}(a:aP)(k:aP->β):β:=match a with
 |none=>k O
 |C ⟨b,o,s⟩=>wy b λb=>wy o λo=>k (C ⟨b,o,s⟩)
def ads {β:Type}(a:aP)(l c:Nat)(k:Value->β):β:=Z9 a λa=>wy l λl=>wy c λc=>k (.slice a l c)
def V7 {β:Type}(v:Value)(k:Value->β):β:=match v with
 |.bool b=>ae8 b λb=>k (.bool b)
 |.int j n=>adr n λn=>k (.int j n)
 |.pointer a=>Z9 a λa=>k (.pointer a)
 |.slice a l c=>ads a l c k
 |.agg ⟨cs⟩=>k (.agg ⟨cs⟩)
 |.tuple ⟨cs⟩=>k (.tuple ⟨cs⟩)
 |.string ⟨⟨cs⟩⟩=>k (.string ⟨⟨cs⟩⟩)
 |v=>k v
inductive fa where
 |cells (c:aV) (elem:TypeId) (cv:Bool)
 |map (es:List (Value×Value))
 |ji (z:List UInt8) (p:Nat)
 |rl (m:Nat)
 |mX (ws:List (Nat×aV))
 |jo (c:aV) (elem:TypeId)
structure St where
 heap:T fa
 next:Nat
 cC:Nat
 wr:Nat
def cl:Nat:=9223372036854775808
def bit (b:Nat):Nat:=Nat.shiftLeft (nat_lit 1) b
def St.look (s:St)(b:Nat):Option fa:=s.heap.get b
def St.aL (s:St)(b:Nat):St:=match s with
 |⟨h,n,a,r⟩=>wy (Nat.lor a (bit b)) λa=>⟨h,n,a,r⟩
def St.put (s:St)(b:Nat)(o:Option fa):St:=match s with
 |⟨h,n,a,r⟩=>(h.set (Nat.succ b) b o).now λh=>wy (Nat.lor a (bit b)) λa=>wy (Nat.lor r (bit b)) λr=>⟨h,n,a,r⟩
def St.new (s:St)(o:fa):St:=match s with
 |⟨h,n,a,r⟩=>(h.set (Nat.succ n) n (C o)).now λh=>wy (Nat.lor a (bit n)) λa=>wy (Nat.lor r (bit n)) λr=>wy (Nat.succ n) λn=>⟨h,n,a,r⟩
def cellsOf (o:fa):Option (aV×TypeId×Bool):=match o with
 |.cells c e w=>C (c,e,w)
 |_=>O
def mapOf (o:fa):Option (List (Value×Value)):=match o with
 |.map es=>C es
 |_=>O
def St.row {β:Type}(s:St)(b:Nat)(k:aV->TypeId->Bool->St->Option β):Option β:=
 ob (s.look b) λo=>match o with
  |.cells c e w=>k c e w (s.aL b)
  |_=>O
def St.jo {β:Type}(s:St)(b:Nat)(k:aV->TypeId->St->Option β):Option β:=
 ob (s.look b) λo=>match o with
  |.jo c e=>k c e (s.aL b)
  |_=>O
def Au:List (Nat×aV)->Nat->Option (Nat×aV)
 |[],_=>O
 |p::l,off=>bo (ble p.1 off&&ble (Nat.succ (Nat.sub off p.1)) (Y p.2)) (C p) (Au l off)
def St.KY {β:Type}(s:St)(b off:Nat)(k:aV->Nat->St->Option β):Option β:=
 ob (s.look b) λo=>match o with
  |.cells c _ _=>k c off (s.aL b)
  |.mX ws=>ob (Au ws off) λp=>k p.2 (Nat.sub off p.1) (s.aL b)
  |_=>O
structure hJ where
 fn:T Func
 ty:T TypeInfo
 Cn:TypeId
 eqs:List (TypeId×List Nat)
 V8:List (TypeId×String×FuncId)
variable (E:hJ)
def Co (t:TypeId)(m:String)(l:List (TypeId×String×FuncId)):Option FuncId:=List.rec O (λp _ ih=>bo (beq p.1 t&&decide (p.2.1=m)) (C p.2.2) ih) l
def ae9 (i:TypeInfo):Option TypeDesc:=match i.desc with
 |.named _ u=>ob (E.ty.get u) λi=>C i.desc
 |d=>C d
def iE (t:TypeId):Option TypeDesc:=ob (E.ty.get t) (ae9 E)
def size (t:TypeId):Option Nat:=ob (E.ty.get t) λi=>C i.size
def wz (d:TypeDesc):Bool:=match d with
 |.struct _=>J
 |.array .. =>J
 |_=>U
def zero (t:TypeId):Option Value:=ob (E.ty.get t) (·.zero)
def gE (n:Nat):aV->Option (aV):=
 Nat.rec (λ_=>C []) (λ_ ih l=>match l with
  |[]=>O
  |x::xs=>ob (ih xs) λr=>C (x::r)) n
def fJ (n:Nat):aV->aV:=Nat.rec (λl=>l) (λ_ ih l=>match l with
    |[]=>[]
    |_::xs=>ih xs) n
def kH (vs:aV):aV->Option (aV):=
 List.rec (λl=>C l) (λv _ ih l=>match l with
  |[]=>O
  |_::xs=>ob (ih xs) λr=>C (v::r)) vs
def fK (n:Nat)(vs:aV):aV->Option (aV):=
 Nat.rec (kH vs) (λ_ ih l=>match l with
  |[]=>O
  |x::xs=>ob (ih xs) λr=>C (x::r)) n
def flat (v:Value):Bool:=match v with
 |.agg _=>U
 |.tuple _=>U
 |_=>J
def kr (l:aV):Bool:=List.rec J (λv _ ih=>bo (flat v) ih U) l
def dJ {α:Type}(l:List α):Nat:=List.rec (nat_lit 0) (λ_ _ ih=>Nat.succ ih) l
def jH {α:Type}(l:List α):Nat->Option α:=List.rec (λ_=>O) (λx _ ih n=>Nat.rec (C x) (λm _=>ih m) n) l
def cT (v:Value):aV:=match v with
 |.agg ⟨cs⟩=>cs
 |v=>[v]
def tc (s:St)(t:TypeId)(b off:Nat):Option (Value×St):=
 s.KY b off λc off s=>ob (iE E t) λd=>bo (wz d)
   (ob (size E t) λn=>ob (gE n (fJ off c)) λcs=>C (.agg ⟨cs⟩,s))
   (ob (jH c off) λv=>C (v,s))
def py (s:St)(t:TypeId)(b off:Nat)(v:Value):Option (Value×St):=
 s.row b λc e w s=>ob (size E t) λn=>dq (beq (dJ (cT v)) n)<| dq (kr (cT v))<|
   ob (fK off (cT v) c) λcs=>C (.tuple ⟨[]⟩,s.put b (C (.cells cs e w)))
def Ry (s:St)(t:TypeId)(b off:Nat):Option (Value×St):=
 s.jo b λc _ s=>ob (iE E t) λd=>bo (wz d) O (ob (jH c off) λv=>C (v,s))
def tU (s:St)(t:TypeId)(a:Value):Option (Value×St):=match a with
 |.pointer (C ⟨b,o,O⟩)=>tc E s t b o
 |.pointer (C ⟨b,o,C 0⟩)=>Ry E s t b o
 |_=>O
def VO {β:Type}(v:Value)(k:Nat->Nat->Option β):Option β:=match v with
 |.pointer (C ⟨b,o,O⟩)=>k b o
 |_=>O
def VP (x y:Int):Bool:=match x,y with
 |.ofNat a,.ofNat b=>ble (Nat.succ a) b
 |.ofNat _,.negSucc _=>U
 |.negSucc _,.ofNat _=>J
 |.negSucc a,.negSucc b=>ble (Nat.succ b) a
def xP (x y:Int):Bool:=match x,y with
 |.ofNat a,.ofNat b=>beq a b
 |.negSucc a,.negSucc b=>beq a b
 |_,_=>U
def half (k:IntKind):Nat:=match k with
 |.i8=>128|.u8=>128
 |.i16=>32768|.u16=>32768
 |.i32=>2147483648|.u32=>2147483648
 |.i64=>9223372036854775808|.u64=>9223372036854775808
def pz (k:IntKind)(n:Int):Int:=match n with
 |.ofNat m=>bo (ble (Nat.succ m) (half k)) (.ofNat m) (k.wrap (.ofNat m))
 |.negSucc m=>k.wrap (.negSucc m)
def acA (k:IntKind):Nat:=match k with
 |.i8=>nat_lit 0|.u8=>nat_lit 1|.i16=>nat_lit 2|.u16=>nat_lit 3|.i32=>nat_lit 4|.u32=>nat_lit 5|.i64=>nat_lit 6|.u64=>nat_lit 7
def pA (k j:IntKind):Bool:=beq (acA k) (acA j)
def gP (x:List UInt8):List UInt8->Bool:=List.rec (λy=>match y with
    |[]=>J
    |_::_=>U) (λa _ ih y=>match y with
    |[]=>U
    |b::y=>bo (beq a.toNat b.toNat) (ih y) U) x
def oo (x:List UInt8):List UInt8->Bool:=List.rec (λy=>match y with
    |[]=>U
    |_::_=>J) (λa _ ih y=>match y with
    |[]=>U
    |b::y=>bo (ble (Nat.succ a.toNat) b.toNat) J (bo (beq a.toNat b.toNat) (ih y) U)) x
def V9 (d:TypeDesc)(x y:Value):Option Bool:=match d,x,y with
 |.bool,.bool a,.bool b=>C (a== b)
 |.pointer _,.pointer O,.pointer b=>C (Option.isNone b)
 |.pointer _,.pointer (C _),.pointer O=>C U
 |.pointer t,.pointer (C ⟨b,o,O⟩),.pointer (C ⟨b',o',O⟩)=>ob (size E t) λ_=>dq (beq b b'&&beq o o') (C J)
 |.slice _,.slice O _ _,.slice b _ _=>C (Option.isNone b)
 |.slice _,.slice (C _) _ _,.slice O _ _=>C U
 |.func ..,.nilFunc,.nilFunc=>C J
 |.func ..,.nilFunc,.func .. =>C U
 |.func ..,.func ..,.nilFunc=>C U
 |_,_,_=>O
def aD {β:Type}(v:Value)(s:β):Option (Value×β):=C (v,s)
def afa (k:IntKind)(a b:Int):Option Value:=match k,a,b with
 |.u8,.ofNat a,.ofNat b=>dq (ble (Nat.succ a) (nat_lit 256)&&ble (Nat.succ b) (nat_lit 256)) (C (.int .u8 (.ofNat (Nat.xor a b))))
 |.i64,.ofNat a,.ofNat b=>dq (ble (Nat.succ a) (nat_lit 4611686018427387904)&&ble (Nat.succ b) (nat_lit 4611686018427387904)) (C (.int .i64 (.ofNat (Nat.xor a b))))
 |_,_,_=>O
def KZ (op:BinOp)(k:IntKind)(a b:Int):Option Value:=match op with
 |.add=>C (.int k (pz k (Int.add a b)))
 |.sub=>C (.int k (pz k (Int.sub a b)))
 |.mul=>C (.int k (pz k (Int.mul a b)))
 |.quo=>bo (xP b (.ofNat (nat_lit 0))) O (C (.int k (pz k (a.tdiv b))))
 |.rem=>bo (xP b (.ofNat (nat_lit 0))) O (C (.int k (a.tmod b)))
 |.eql=>C (.bool (xP a b))
 |.neq=>C (.bool !(xP a b))
 |.lss=>C (.bool (VP a b))
 |.leq=>C (.bool !(VP b a))
 |.gtr=>C (.bool (VP b a))
 |.geq=>C (.bool !(VP a b))
 |.xor=>afa k a b
 |_=>O
def Wa (op:BinOp)(a b:List UInt8):Option Value:=match op with
 |.add=>dq (ble (Nat.add (dJ a) (dJ b)) (nat_lit 1000000000)) (C (.string ⟨⟨a++b⟩⟩))
 |.eql=>C (.bool (gP a b))
 |.neq=>C (.bool !(gP a b))
 |.lss=>C (.bool (oo a b))
 |.geq=>C (.bool !(oo a b))
 |.gtr=>C (.bool !(bo (oo a b) J (gP a b)))
 |.leq=>C (.bool (bo (oo a b) J (gP a b)))
 |_=>O
def xQ (op:BinOp)(r:Option Bool):Option Value:=match op with
 |.eql=>ob r λb=>C (.bool b)
 |.neq=>ob r λb=>C (.bool !b)
 |_=>O
def lJ (x y:Value):Option Bool:=match x,y with
 |.int .i64 a,.int .i64 b=>C (xP a b)
 |.string ⟨⟨a⟩⟩,.string ⟨⟨b⟩⟩=>C (gP a b)
 |.bool a,.bool b=>C (bo a b (!b))
 |_,_=>O
def gi (xs:aV):aV->Option Bool:=List.rec (λys=>match ys with
    |[]=>C J
    |_::_=>O) (λx _ ih ys=>match ys with
    |[]=>O
    |y::ys=>ob (lJ x y) λe=>ob (ih ys) λr=>C (bo e r U)) xs
def xR (v:Value):Nat:=match v with
 |.int .i64 _=>nat_lit 0
 |.string _=>nat_lit 1
 |.bool _=>nat_lit 2
 |_=>nat_lit 3
def fA (xs:aV):List Nat->Bool:=List.rec (λks=>match ks with
    |[]=>J
    |_::_=>U) (λv _ ih ks=>match ks with
    |[]=>U
    |k::ks=>bo (beq (xR v) k) (bo (ble k (nat_lit 2)) (ih ks) U) U) xs
def xS (t:TypeId)(xs:aV)(l:List (TypeId×List Nat)):Bool:=List.rec U (λp _ ih=>bo (bo (beq t p.1) (fA xs p.2) U) J ih) l
def isC (x:Operand):Bool:=match x with
 |.const _=>J
 |_=>U
def isIface (d:TypeDesc):Bool:=match d with
 |.interface _=>J
 |_=>U
def Cp (a b:Nat):Nat:=bo (ble a b) a b
def GL (k:IntKind):Nat:=match k with
 |.i8=>nat_lit 8|.u8=>nat_lit 8|.i16=>nat_lit 16|.u16=>nat_lit 16|.i32=>nat_lit 32|.u32=>nat_lit 32|.i64=>nat_lit 64|.u64=>nat_lit 64
def adt (op:BinOp):Bool:=match op with
 |.shl=>J
 |.shr=>J
 |_=>U
def shV (op:BinOp)(k:IntKind)(a b:Int):Option Value:=match op,a,b with
 |.shr,.ofNat a,.ofNat b=>C (.int k (.ofNat (Nat.shiftRight a (Cp b (GL k)))))
 |.shl,.ofNat a,.ofNat b=>C (.int k (pz k (.ofNat (Nat.shiftLeft a (Cp b (GL k))))))
 |_,_,_=>O
def SZ (op:BinOp)(t:TypeId)(c:Bool)(x y:Value):Option Value:=match x,y with
 |.int k a,.int e b=>bo (adt op) (shV op k a b) (bo (pA k e) (KZ op k a b) O)
 |.string ⟨⟨a⟩⟩,.string ⟨⟨b⟩⟩=>Wa op a b
 |.nilIface,.nilIface=>dq c<| ob (iE E t) λd=>dq (isIface d)<| xQ op (C J)
 |.agg ⟨xs⟩,.agg ⟨ys⟩=>dq (xS t xs E.eqs)<| xQ op (gi xs ys)
 |x,y=>ob (iE E t) λd=>xQ op (V9 E d x y)
def mY (v:Value)(y:Nat):Option Nat:=match v with
 |.int _ (.ofNat i)=>bo (ble i y) (C i) O
 |_=>O
def hiV (len m:Nat)(hi a:Option Value):Option Nat:=match hi,a with
 |C v,_=>mY v m
 |O,O=>C len
 |O,C _=>O
def K0 (v:Option Value)(y z:Nat):Option Nat:=match v with
 |some v=>mY v y
 |none=>C z
def bounds {β:Type}(len cap:Nat)(lo hi a:Option Value)(k:Nat->Nat->Nat->Option β):Option β:=
 ob (K0 a cap cap) λm=>ob (hiV len m hi a) λh=>ob (K0 lo h (nat_lit 0)) λl=>k l h m
def Wb {α:Type}(n:Nat):List α->List α:=Nat.rec (λ_=>[]) (λ_ ih l=>match l with
    |[]=>[]
    |x::xs=>x::ih xs) n
def Wc {α:Type}(n:Nat):List α->List α:=Nat.rec (λl=>l) (λ_ ih l=>match l with
    |[]=>[]
    |_::xs=>ih xs) n
def oZ (a:aP)(n:Nat):aP:=match a with
 |none=>O
 |C ⟨b,o,s⟩=>bo (beq n (nat_lit 0)) (C ⟨b,o,s⟩) (C ⟨b,Nat.add o n,O⟩)
def adu {α:Type}(o:Option α):Bool:=match o with
 |none=>J
 |some _=>U
def Cq (z:List UInt8)(lo hi a:Option Value):Option Value:=
 dq (adu a)<| bounds (dJ z) (dJ z) lo hi O λl h _=>C (.string ⟨⟨Wb (Nat.sub h l) (Wc l z)⟩⟩)
def cQ (sz:Nat)(a:aP)(len cap:Nat)(lo hi b:Option Value):Option Value:=
 bounds len cap lo hi b λl h m=>C (.slice (bo (beq m l) a (oZ a (mul l sz))) (Nat.sub h l) (Nat.sub m l))
def iF (elem:TypeId)(sz:Nat)(a:aP)(len cap:Nat)(lo hi d:Option Value)(s:St):Option (Value×St):=match a with
 |C ⟨b,o,O⟩=>s.row b λc e w s=>dq (bo w J (beq sz (nat_lit 1))&&beq e elem&&beq o (mul (Nat.sub cap cl) sz)&&ble (Nat.add o (mul len sz)) (dJ c))<| match d with
  |none=>bounds len len lo hi O λl h _=>bo (beq l (nat_lit 0)||ble (Nat.succ l) h) (aD (.slice (C ⟨b,Nat.add o (mul l sz),O⟩) (Nat.sub h l) (Nat.add cap l)) s) (aD (.slice (C ⟨b,Nat.add o (mul l sz),C (Nat.succ (Nat.succ o))⟩) (nat_lit 0) (Nat.add cap l)) s)
  |some d=>dq (ble (Nat.succ len) cl)<| ob (cQ sz (C ⟨b,o,O⟩) len len lo hi (C d)) λv=>aD v s
 |_=>O
def nO (lo hi a:Option Value):Bool:=match lo,hi,a with
 |O,C (.int _ (.ofNat 0)),O=>J
 |_,_,_=>U
def pj (a:aP)(cap:Nat)(s:St):Option (Value×St):=match a with
 |C ⟨b,o,O⟩=>aD (.slice (C ⟨b,o,O⟩) (nat_lit 0) cap) s
 |_=>O
def II (a:aP):Bool:=match a with
 |C ⟨_,_,C _⟩=>U
 |_=>J
def rm (elem:TypeId)(sz:Nat)(a:aP)(len cap:Nat)(lo hi d:Option Value)(s:St):Option (Value×St):=match a,lo,hi,d with
 |C ⟨b,o,C 0⟩,C (.int _ (.ofNat 1)),O,O=>s.jo b λc e s=>dq (beq sz (nat_lit 1)&&beq e elem&&ble (nat_lit 1) len&&ble cl cap&&beq o (Nat.sub cap cl)&&ble (Nat.add o len) (dJ c))<|
  bo (ble (nat_lit 2) len) (aD (.slice (C ⟨b,Nat.succ o,C (nat_lit 0)⟩) (Nat.pred len) (Nat.succ cap)) s) (aD (.slice (C ⟨b,Nat.succ o,C (nat_lit 1)⟩) (nat_lit 0) (Nat.succ cap)) s)
 |_,_,_,_=>O
def fX (s:St)(t:TypeId)(x:Value)(lo hi c:Option Value):Option (Value×St):=
 ob (iE E t) λd=>match d,x with
  |.string,.string ⟨⟨z⟩⟩=>ob (Cq z lo hi c) λv=>aD v s
  |.slice elem,.slice a len cap=>bo (II a) (ob (size E elem) λsz=>bo (ble cl cap) (bo (nO lo hi c) (pj a cap s) (iF elem sz a len cap lo hi c s)) (ob (cQ sz a len cap lo hi c) λv=>aD v s)) (ob (size E elem) λsz=>rm elem sz a len cap lo hi c s)
  |.array n elem,.pointer (C ⟨b,o,O⟩)=>ob (size E elem) λsz=>dq (ble (Nat.succ n) cl)<| ob (cQ sz (C ⟨b,o,O⟩) n n lo hi c) λv=>aD v s
  |_,_=>O
def strCells (l:List UInt8):aV:=List.rec [] (λc _ ih=>.int .u8 (.ofNat c.toNat)::ih) l
def Ft {β:Type}(s:St)(sz:Nat)(x:Value)(k:Nat->aV->St->Option β):Option β:=match x with
 |.string ⟨⟨z⟩⟩=>dq (beq sz (nat_lit 1))<| k (dJ z) (strCells z) s
 |.slice O n _=>dq (beq n (nat_lit 0))<| k (nat_lit 0) [] s
 |.slice (C ⟨b,o,O⟩) n _=>s.row b λc _ _ s=>ob (gE (mul n sz) (fJ o c)) λcs=>k n cs s
 |.slice (C ⟨_,_,C _⟩) n _=>dq (beq n (nat_lit 0))<| k (nat_lit 0) [] s
 |_=>O
def isInt (d:TypeDesc):Bool:=match d with
 |.int _=>J
 |_=>U
def elemOf {β:Type}(t:Option TypeId)(k:TypeId->Option β):Option β:=ob t λt=>ob (iE E t) λd=>match d with
 |.slice e=>k e
 |_=>O
def bA (s:St)(len:Nat):Value:=.slice (C ⟨s.next,nat_lit 0,O⟩) len cl
def iZ (elem:TypeId)(sz:Nat)(base:aP)(len cap n:Nat)(new:aV)(s:St):Option (Value×St):=match base with
 |none=>dq (beq len (nat_lit 0)&&beq cap (nat_lit 0))<| bo (beq n (nat_lit 0)) (aD (.slice O (nat_lit 0) (nat_lit 0)) s)<| aD (bA s n) (s.new (.cells new elem J))
 |C ⟨b,o,O⟩=>s.row b λc e w s=>bo (ble cl cap)
  (dq (w&&beq e elem&&beq cap cl&&beq o (nat_lit 0))<| bo (beq (dJ c) (mul len sz)) (bo (beq n (nat_lit 0)) (aD (.slice (C ⟨b,o,O⟩) len cap) s)<|
    (λs:St=>aD (bA s (Nat.add len n)) (s.new (.cells (c++new) elem J))) (s.put b O))<|
    ob (gE (mul len sz) c) λold=>(λs:St=>aD (bA s (Nat.add len n)) (s.new (.cells (old++new) elem J))) (s.put b O))
  (bo (ble (Nat.add len n) cap)
    (bo (beq n (nat_lit 0)) (aD (.slice (C ⟨b,o,O⟩) len cap) s)<|
      ob (fK (Nat.add o (mul len sz)) new c) λcs=>aD (.slice (C ⟨b,o,O⟩) (Nat.add len n) cap) (s.put b (C (.cells cs e w))))
    (ob (gE (mul len sz) (fJ o c)) λold=>aD (bA s (Nat.add len n)) (s.new (.cells (old++new) elem J))))
 |_=>O
def gQ (s:St)(len:Nat):Value:=.slice (C ⟨s.next,nat_lit 0,C (nat_lit 0)⟩) len cl
def S0 (base:aP)(cap:Nat):Bool:=match base with
 |C ⟨_,o,O⟩=>ble cl cap&&!(beq o (nat_lit 0))
 |C ⟨_,_,C 0⟩=>J
 |_=>U
def iU (elem:TypeId)(sz:Nat)(base:aP)(len cap n:Nat)(new:aV)(s:St):Option (Value×St):=match base with
 |C ⟨b,o,O⟩=>s.row b λc e w s=>dq (w&&beq e elem&&ble cl cap&&beq o (mul (Nat.sub cap cl) sz)&&ble (nat_lit 1) n&&ble (nat_lit 1) len)<|
  ob (gE (mul len sz) (fJ o c)) λold=>(λs:St=>aD (gQ s (Nat.add len n)) (s.new (.jo (old++new) elem))) (s.put b O)
 |C ⟨b,o,C 0⟩=>s.jo b λc e s=>dq (beq e elem&&ble cl cap&&beq o (mul (Nat.sub cap cl) sz)&&ble (nat_lit 1) n&&ble (nat_lit 1) len)<|
  ob (gE (mul len sz) (fJ o c)) λold=>(λs:St=>aD (gQ s (Nat.add len n)) (s.new (.jo (old++new) elem))) (s.put b O)
 |_=>O
def u6 (s:St)(argTypes:List TypeId)(b x:Value):Option (Value×St):=
 elemOf E (jH argTypes (nat_lit 0)) λelem=>ob (jH argTypes (nat_lit 1)) λc=>ob (iE E c) λa=>dq (!isInt a)<| ob (E.ty.get elem) λi=>ob i.zero λz=>
  dq (ble (nat_lit 1) i.size&&ble i.bytes (nat_lit 1000000)&&beq (dJ (cT z)) i.size)<|
  Ft s i.size x λn new s=>dq (beq (dJ new) (mul n i.size))<| dq (kr new)<| match b with
   |.slice base len cap=>dq (ble (Nat.add len n) (nat_lit 1000000))<| bo (S0 base cap) (iU elem i.size base len cap n new s) (iZ elem i.size base len cap n new s)
   |_=>O
def xT (l:aV):Option (List UInt8):=List.rec (C []) (λv _ ih=>match v with
    |.int .u8 (.ofNat k)=>dq (ble (Nat.succ k) (nat_lit 256))<| ob ih λr=>C (UInt8.ofNat k::r)
    |_=>O) l
def isByte (d:TypeDesc):Bool:=match d with
 |.int .u8=>J
 |_=>U
def OU (s:St)(a:aP)(n:Nat):Option (Value×St):=match a with
 |none=>aD (.string ⟨⟨[]⟩⟩) s
 |C ⟨b,o,O⟩=>s.row b λc _ _ s=>ob (gE n (fJ o c)) λl=>ob (xT l) λbs=>aD (.string ⟨⟨bs⟩⟩) s
 |C ⟨_,_,C _⟩=>dq (beq n (nat_lit 0))<| aD (.string ⟨⟨[]⟩⟩) s
def qq (s:St)(src dst:TypeId)(x:Value):Option (Value×St):=
 ob (iE E src) λh=>ob (iE E dst) λdd=>match h,dd,x with
 |.int _,.int k,.int _ n=>aD (.int k (pz k n)) s
 |.slice e,.string,.slice a n _=>ob (iE E e) λd=>dq (isByte d)<| OU s a n
 |.pointer t,.unsafePointer,.pointer (C ⟨b,0,O⟩)=>s.row b λc _ w s=>ob (size E t) λsz=>dq (!w&&ble (nat_lit 1) (dJ c)&&ble (nat_lit 1) sz)<| aD (.pointer (C ⟨b,0,O⟩)) s
 |.unsafePointer,.pointer u,.pointer (C ⟨b,0,O⟩)=>s.row b λc e w s=>ob (size E u) λ_=>dq (!w&&beq (dJ c) (nat_lit 2)&&beq e E.Cn&&beq u E.Cn)<| aD (.pointer (C ⟨b,0,O⟩)) s
 |.string,.slice e,.string ⟨⟨z⟩⟩=>ob (iE E e) λd=>dq (isByte d)<| ob (size E e) λsz=>dq (beq sz (nat_lit 1)&&ble (dJ z) (nat_lit 1000000))<| aD (bA s (dJ z)) (s.new (.cells (strCells z) e U))
 |.slice _,.slice e,.slice (C ⟨b,o,O⟩) n c=>ob (iE E e) λd=>dq (isByte d&&beq src dst)<| s.row b λcs f _ s=>ob (size E f) λsz=>ob (iE E f) λg=>dq (isByte g&&beq sz (nat_lit 1))<| aD (.slice (C ⟨b,o,O⟩) n c) (s.put b (C (.cells cs f U)))
 |_,_,_=>O
def S2 (t:TypeId)(x:Value):Option Value:=ob (iE E t) λd=>match d,x with
 |.string,.string ⟨⟨z⟩⟩=>C (.int .i64 (.ofNat (dJ z)))
 |.slice _,.slice _ n _=>C (.int .i64 (.ofNat n))
 |_,_=>O
def places (fs:List Field):Option (List (Nat×Nat)):=List.rec (C []) (λf _ ih=>ob (size E f.type) λsz=>ob ih λr=>C ((f.offset,sz)::r)) fs
def sl (ev:Operand->Value)(l:List (Nat×Operand)):List (Nat×Value):=List.rec [] (λp _ ih=>(p.1,ev p.2)::ih) l
def rn (bT:Nat->Option (Nat×Nat))(l:List (Nat×Value)):aV->Option (aV):=
 List.rec (λcells=>C cells) (λp _ ih cells=>ob (bT p.1) λq=>dq (beq (dJ (cT p.2)) q.2)<| ob (fK q.1 (cT p.2) cells) λcs=>ih cs) l
def vK (zs:aV)(n:Nat):aV:=Nat.rec [] (λ_ ih=>zs++ih) n
def oB (sz:Nat)(i:Nat):Option (Nat×Nat):=C (mul i sz,sz)
def ku (x y:Value):Option Bool:=match x,y with
 |.agg ⟨xs⟩,.agg ⟨ys⟩=>gi xs ys
 |.int k a,.int c b=>dq (pA k c)<| C (xP a b)
 |.string ⟨⟨a⟩⟩,.string ⟨⟨b⟩⟩=>C (gP a b)
 |_,_=>O
def tV (k:Value)(l:List (Value×Value)):Option (Option Value):=
 List.rec (C O) (λp _ ih=>ob (ku k p.1) λb=>bo b (C (C p.2)) ih) l
def wA (kt:TypeId)(d:TypeDesc)(k:Value):Bool:=match d,k with
 |.struct _,.agg ⟨cs⟩=>xS kt cs E.eqs
 |.array _ _,.agg ⟨cs⟩=>xS kt cs E.eqs
 |.int _,.int _ _=>J
 |.string,.string _=>J
 |_,_=>U
def aaa (k:Value)(l:List (Value×Value)):Option (List (Value×Value)):=
 List.rec (C []) (λp r ih=>ob (ku k p.1) λb=>bo b (C r) (ob ih λr=>C (p::r))) l
def OV (k v:Value)(l:List (Value×Value)):Option (List (Value×Value)):=
 List.rec (C []) (λp r ih=>ob (ku k p.1) λb=>bo b (C ((k,v)::r)) (ob ih λr=>C (p::r))) l
def Bw (s:St)(t:TypeId)(b:Nat):Option (Value×St):=ob (iE E t) λd=>match d with
 |.map _ _=>ob (s.look b) λo=>ob (mapOf o) λes=>aD (.int .i64 (.ofNat (dJ es))) (s.aL b)
 |_=>O
def IJ (s:St)(t:TypeId)(x:Value):Option (Value×St):=ob (iE E t) λd=>match d,x with
 |.string,.string ⟨⟨z⟩⟩=>aD (.pointer (C ⟨s.next,nat_lit 0,O⟩)) (s.new (.ji z (nat_lit 0)))
 |.map _ _,.map (C b)=>ob (s.look b) λo=>ob (mapOf o) λ_=>(λs:St=>aD (.pointer (C ⟨s.next,nat_lit 0,O⟩)) (s.new (.rl b))) (s.aL b)
 |_,_=>O
def Av (s:St)(b:Nat)(z:List UInt8)(p:Nat):Option (Value×St):=match jH z p with
 |none=>aD (.tuple ⟨[.bool U]⟩) (s.aL b)
 |some c=>bo (ble (Nat.succ c.toNat) (nat_lit 128)) (aD (.tuple ⟨[.bool J,.int .i64 (.ofNat p),.int .i32 (.ofNat c.toNat)]⟩) (s.put b (C (.ji z (Nat.succ p)))))
  (aD (.tuple ⟨[.bool J,.int .i64 (.ofNat p),.int .i32 (.ofNat (Utf8.decode ⟨⟨z⟩⟩ p).1)]⟩) (s.put b (C (.ji z (Nat.add p (Utf8.decode ⟨⟨z⟩⟩ p).2)))))
def afb (s:St)(b m:Nat):Option (Value×St):=ob (s.look m) λo=>ob (mapOf o) λes=>match es with
 |[]=>aD (.tuple ⟨[.bool U]⟩) ((s.aL b).aL m)
 |_::_=>O
def GM (s:St)(x:Value)(str:Bool):Option (Value×St):=match x with
 |.pointer (C ⟨b,0,O⟩)=>ob (s.look b) λo=>match o with
  |.ji z p=>dq str<| Av s b z p
  |.rl m=>dq (!str)<| afb s b m
  |_=>O
 |_=>O
def aab (x y:Value)(s:St):Option (Value×St):=match x,y with
 |.int k a,.int c b=>dq (pA k c)<| aD (.int k (bo (VP b a) b a)) s
 |_,_=>O
def aac (x y:Value)(s:St):Option (Value×St):=match x,y with
 |.int k a,.int c b=>dq (pA k c)<| aD (.int k (bo (VP a b) b a)) s
 |_,_=>O
def pB (x:Value)(s:St):Option (Value×St):=match x with
 |.slice (C ⟨b,0,O⟩) _ cap=>dq (beq cap cl)<| s.row b λc _ w s=>dq (w&&ble (nat_lit 1) (dJ c))<| aD (.pointer (C ⟨b,0,O⟩)) s
 |.slice O _ _=>aD (.pointer O) s
 |_=>O
def zc (sz:Nat)(b o n k:Nat)(new:aV)(s:St):Option (Value×St):=
 dq (kr new)<| ob (gE (mul (Cp k n) sz) new) λnew=>s.row b λc e w s=>ob (fK o new c) λcs=>aD (.int .i64 (.ofNat (Cp k n))) (s.put b (C (.cells cs e w)))
def copyV (s:St)(argTypes:List TypeId)(x y:Value):Option (Value×St):=match x with
 |.slice (C ⟨b,o,O⟩) n _=>elemOf E (jH argTypes (nat_lit 0)) λe=>ob (size E e) λsz=>Ft s sz y λk new s=>zc sz b o n k new s
 |_=>O
def lQ (g:List TypeId)(x y:Value)(s:St):Option (Value×St):=match g,x,y with
 |[f,_],.pointer (C ⟨b,0,O⟩),.int .i64 (.ofNat n)=>s.row b λc e _ s=>ob (iE E f) λd=>match d with
  |.pointer a=>ob (size E a) λsz=>dq (beq e a&&beq sz (nat_lit 1)&&ble (nat_lit 1) n&&ble n (nat_lit 1000000))<| ob (gE n c) λl=>ob (xT l) λbs=>aD (.string ⟨⟨bs⟩⟩) (s.put b O)
  |_=>O
 |[_,_],.pointer O,.int .i64 (.ofNat 0)=>aD (.string ⟨⟨[]⟩⟩) s
 |_,_,_=>O
def tW (s:St)(b:Builtin)(argTypes:List TypeId)(x:Value):Option (Value×St):=match b with
 |.len=>ob (jH argTypes (nat_lit 0)) λt=>match x with
  |.map (C b)=>Bw E s t b
  |x=>ob (S2 E t x) λv=>aD v s
 |.unsafeSliceData=>pB x s
 |_=>O
def K1 (s:St)(b:Builtin)(argTypes:List TypeId)(x y:Value):Option (Value×St):=match b with
 |.append=>u6 E s argTypes x y
 |.max=>aac x y s
 |.min=>aab x y s
 |.copy=>copyV E s argTypes x y
 |.unsafeString=>lQ E argTypes x y s
 |_=>O
def Bi {α β:Type}(f:α->β)(l:List α):List β:=List.rec [] (λx _ ih=>f x::ih) l
def xU (ev:Operand->Value)(s:St)(b:Builtin)(argTypes:List TypeId)(args:List Operand):Option (Value×St):=match args with
 |[x]=>tW E s b argTypes (ev x)
 |[x,y]=>K1 E s b argTypes (ev x) (ev y)
 |_=>O
def Rz (c:Value)(a b:Value)(s:St):Option (Value×St):=match c with
 |.bool c=>bo c (aD a s) (aD b s)
 |_=>O
def S3 (s:St)(l:aV)(t:TypeId):Option (Value×St):=aD (.pointer (C ⟨s.next,nat_lit 0,O⟩)) (s.new (.cells l t U))
def IK (s:St)(t:TypeId):Option (Value×St):=ob (zero E t) λz=>S3 s (cT z) t
def IL (ev:Operand->Value)(s:St)(t:TypeId)(parts:List (Nat×Operand)):Option (Value×St):=
 ob (zero E t) λz=>ob (iE E t) λd=>match d with
  |.struct ⟨fs⟩=>ob (places E fs) λpl=>ob (rn (jH pl) (sl ev parts) (cT z)) λcs=>aD (.agg ⟨cs⟩) s
  |.array _ e=>ob (size E e) λsz=>ob (rn (oB sz) (sl ev parts) (cT z)) λcs=>aD (.agg ⟨cs⟩) s
  |_=>O
def tX (ev:Operand->Value)(s:St)(t:TypeId)(n:Nat)(parts:List (Nat×Operand)):Option (Value×St):=
 elemOf E (C t) λe=>ob (size E e) λsz=>ob (zero E e) λz=>dq (beq (dJ (cT z)) sz&&ble (nat_lit 1) sz&&ble (mul n sz) (nat_lit 16777216))<|
  ob (rn (oB sz) (sl ev parts) (vK (cT z) n)) λcs=>aD (.slice (C ⟨s.next,nat_lit 0,O⟩) n n) (s.new (.cells cs e U))
def adv (x:Value)(s:St):Option (Value×St):=match x with
 |.pointer (C a)=>aD (.pointer (C a)) s
 |.func (.func f) a b=>aD (.func (.func f) a b) s
 |_=>O
def K2 (x:Value)(s:St):Option (Value×St):=match x with
 |.func (.method m) ⟨[.iface t (.pointer (C a))]⟩ c=>ob (Co t m E.V8) λ_=>aD (.func (.method m) ⟨[.iface t (.pointer (C a))]⟩ c) s
 |x=>adv x s
def adw (t:TypeId)(x:Value)(s:St):Option (Value×St):=ob (iE E t) λd=>dq (!isIface d)<| aD (.iface t x) s
def unV (op:UnOp)(x:Value)(s:St):Option (Value×St):=match op,x with
 |.not,.bool b=>aD (.bool !b) s
 |_,_=>O
def u7 (s:St)(t:TypeId)(m k:Value)(ok:Bool):Option (Value×St):=
 ob (iE E t) λd=>match d,m with
  |.map kt e,.map (C b)=>ob (iE E kt) λkd=>dq (wA E kt kd k)<| ob (zero E e) λz=>ob (s.look b) λo=>ob (mapOf o) λes=>ob (tV k es) λr=>match r with
   |some v=>aD (bo ok (.tuple ⟨[v,.bool J]⟩) v) (s.aL b)
   |none=>aD (bo ok (.tuple ⟨[z,.bool U]⟩) z) (s.aL b)
  |_,_=>O
def sq (s:St)(t:TypeId)(m k v:Value):Option (Value×St):=
 ob (iE E t) λd=>match d,m with
  |.map kt _,.map (C b)=>ob (iE E kt) λkd=>dq (wA E kt kd k)<| ob (s.look b) λo=>ob (mapOf o) λes=>ob (tV k es) λr=>match r with
   |some _=>ob (OV k v es) λes=>aD (.tuple ⟨[]⟩) (s.put b (C (.map es)))
   |none=>aD (.tuple ⟨[]⟩) (s.put b (C (.map (es++[(k,v)]))))
  |_,_=>O
def wB (s:St)(t:TypeId)(l c:Value):Option (Value×St):=
 elemOf E (C t) λe=>ob (E.ty.get e) λi=>ob i.zero λz=>match l,c with
  |.int _ (.ofNat l),.int _ (.ofNat c)=>dq (ble l c&&ble c (nat_lit 1000000)&&ble i.bytes (nat_lit 1000000)&&beq (dJ (cT z)) i.size&&ble (nat_lit 1) i.size)<|
   aD (.slice (C ⟨s.next,nat_lit 0,O⟩) l c) (s.new (.cells (vK (cT z) c) e U))
  |_,_=>O
def dN (ev:Operand->Value)(x:Option Operand):Option Value:=match x with
 |none=>O
 |some x=>C (ev x)
def nP (s:St)(t:TypeId)(x:Value)(i:Nat):Option (Value×St):=
 ob (iE E t) λd=>match d with
  |.struct ⟨fs⟩=>ob (jH fs i) λf=>ob (size E f.type) λsz=>dq (ble (nat_lit 1) sz)<| VO x λb o=>aD (.pointer (C ⟨b,Nat.add o f.offset,O⟩)) s
  |_=>O
def IM (s:St)(t:TypeId)(x:Value)(i:Nat):Option (Value×St):=
 ob (iE E t) λd=>match d,x with
  |.struct ⟨fs⟩,.agg ⟨cs⟩=>ob (jH fs i) λf=>ob (iE E f.type) λa=>dq (!wz a)<| ob (jH cs f.offset) λv=>aD v s
  |_,_=>O
def hS (s:St)(t:TypeId)(x i:Value):Option (Value×St):=
 ob (iE E t) λd=>match d,x,i with
  |.array n e,.pointer (C ⟨b,o,O⟩),.int _ (.ofNat i)=>dq (ble (Nat.succ i) n)<| ob (size E e) λsz=>aD (.pointer (C ⟨b,Nat.add o (mul i sz),O⟩)) s
  |.slice e,.slice (C ⟨b,o,C 0⟩) n _,.int _ (.ofNat i)=>dq (ble (Nat.succ i) n)<| ob (size E e) λsz=>aD (.pointer (C ⟨b,Nat.add o (mul i sz),C (nat_lit 0)⟩)) s
  |.slice e,.slice (C ⟨b,o,O⟩) n _,.int _ (.ofNat i)=>dq (ble (Nat.succ i) n)<| ob (size E e) λsz=>aD (.pointer (C ⟨b,Nat.add o (mul i sz),O⟩)) s
  |_,_,_=>O
def IN (s:St)(t:TypeId)(x i:Value):Option (Value×St):=
 ob (iE E t) λd=>match d,x,i with
  |.string,.string ⟨⟨z⟩⟩,.int _ (.ofNat i)=>ob (jH z i) λc=>aD (.int .u8 (.ofNat c.toNat)) s
  |_,_,_=>O
def xV (s:St)(x:Value)(i:Nat):Option (Value×St):=match x with
 |.tuple ⟨vs⟩=>ob (jH vs i) λv=>aD v s
 |_=>O
abbrev gw:=FuncId->aV->St->Option (Value×St)
def zd (call:gw)(f:Value)(args:aV)(s:St):Option (Value×St):=match f with
 |.func (.func g) ⟨first⟩ ⟨cap⟩=>call g (first++(args++cap)) s
 |_=>O
def OW (call:gw)(ev:Operand->Value)(s:St)(c:Call):Option (Value×St):=match c.callee with
 |.value f=>zd call (ev f) (Bi ev c.args.toList) s
 |.builtin b=>xU E ev s b c.argTypes.toList c.args.toList
 |.invoke _ _=>O
def IP (call:gw)(ev:Operand->Value)(s:St)(o:Op):Option (Value×St):=match o with
 |.move x=>aD (ev x) s
 |.assign x=>aD (ev x) s
 |.pick c a b=>Rz (ev c) (ev a) (ev b) s
 |.alloc t=>IK E s t
 |.box t x=>S3 s (cT (ev x)) t
 |.build t ps=>IL E ev s t ps.toList
 |.buildSlice t n ps=>tX E ev s t n ps.toList
 |.load t a=>tU E s t (ev a)
 |.store t a x=>VO (ev a) λb o=>py E s t b o (ev x)
 |.nilCheck x=>K2 E (ev x) s
 |.makeInterface t x=>adw E t (ev x) s
 |.binOp op t x y _=>ob (SZ E op t (isC x||isC y) (ev x) (ev y)) λv=>aD v s
 |.unOp op _ x=>unV op (ev x) s
 |.convert a b x=>qq E s a b (ev x)
 |.makeFunc fn f c=>aD (.func fn ⟨Bi ev f.toList⟩ ⟨Bi ev c.toList⟩) s
 |.makeMap _ O=>aD (.map (C s.next)) (s.new (.map []))
 |.lookup t m k ok=>u7 E s t (ev m) (ev k) ok
 |.mapUpdate t m k v=>sq E s t (ev m) (ev k) (ev v)
 |.makeSlice t l c=>wB E s t (ev l) (ev c)
 |.slice t x lo hi d=>fX E s t (ev x) (dN ev lo) (dN ev hi) (dN ev d)
 |.fieldAddr t x i=>nP E s t (ev x) i
 |.field t x i=>IM E s t (ev x) i
 |.indexAddr t x i=>hS E s t (ev x) (ev i)
 |.index t x i=>IN E s t (ev x) (ev i)
 |.extract x i=>xV s (ev x) i
 |.range t x=>IJ E s t (ev x)
 |.next x str=>GM s (ev x) str
 |.call c=>OW E call ev s c
 |_=>O
inductive Ex where|normal|exit (id:Nat)|ret
abbrev Tm:=T Value
def lR (o:Option Value):Value:=Option.rec (.tuple ⟨[]⟩) (λv=>v) o
def aM (tm:Tm)(x:Operand):Value:=match x with
 |.tmp t=>lR (tm.get t)
 |.const v=>v
 |.global g=>.pointer (C ⟨g,nat_lit 0,O⟩)
 |.func f=>.func (.func f) #[] #[]
def Tm.put {β:Type}(tm:Tm)(d:Option Tmp)(v:Value)(k:Tm->β):β:=match d with
 |some d=>V7 v λv=>(tm.set (Nat.succ d) d (C v)).now k
 |none=>k tm
def tY (v:Option Value)(want:Bool):Bool:=match v with
 |C (.bool b)=>bo b want (!want)
 |_=>U
def mE (aE:List Oper)(j:Nat):Option Tmp:=ob (jH aE j) (·.dst)
def iN (aE:List Oper)(tm:Tm)(g:Option (Nat×Bool)):Bool:=match g with
 |none=>J
 |C (j,want)=>tY (ob (mE aE j) λd=>tm.get d) want
abbrev R3:=Option (Tm×St)
def K3 (call:gw)(aE:List Oper)(l:List Oper):Tm->St->Option (Tm×St):=
 List.rec (λa s=>C (a,s)) (λo _ ih a s=>
  bo (iN aE a o.guard) (ob (IP E call (aM a) s o.op) λp=>match p with
      |(v,s)=>a.put o.dst v λa=>ih a s)
   (a.put o.dst (.tuple ⟨[]⟩) λa=>ih a s)) l
structure Seen where
 i:Nat
 cC:Nat
 wr:Nat
def ze (b a r:Nat)(l:List Seen):Bool:=List.rec J (λx _ ih=>bo (bo (beq (Nat.land x.wr a) (nat_lit 0)) (beq (Nat.land x.cC r) (nat_lit 0)) U||Nat.testBit b x.i) ih U) l
def tZ (aE:List Oper)(j:Nat)(s s':St)(seen:List Seen)(k:St->List Seen->R3):R3:=match s,s' with
 |⟨_,_,a0,r0⟩,⟨h,n,a,r⟩=>bo (beq a (nat_lit 0)) (k ⟨h,n,a0,r0⟩ seen)
  (bo (ze ((Region.before ⟨aE⟩).getD j 0) a r seen) (wy (Nat.lor a0 a) λa0=>wy (Nat.lor r0 r) λr0=>k ⟨h,n,a0,r0⟩ (⟨j,a,r⟩::seen)) O)
def eO (s:St):St:=match s with
 |⟨h,n,_,_⟩=>⟨h,n,nat_lit 0,nat_lit 0⟩
def ua (call:gw)(aE:List Oper)(l:List Oper):Nat->Tm->St->List Seen->Option (Tm×St):=
 List.rec (λ_ a s _=>C (a,s)) (λo _ ih j a s seen=>
  bo (iN aE a o.guard) (ob (IP E call (aM a) (eO s) o.op) λp=>match p with
      |(v,s')=>tZ aE j s s' seen λs seen=>a.put o.dst v λa=>ih (Nat.succ j) a s seen)
   (a.put o.dst (.tuple ⟨[]⟩) λa=>ih (Nat.succ j) a s seen)) l
abbrev R4:=Option (Ex×Tm×St)
def GN (r:R4)(k:Tm->St->R4):R4:=ob r λp=>match p with
 |(.normal,a,s)=>k a s
 |p=>C p
def Cr (body:Tm->St->R4)(n:Nat):Tm->St->R4:=Nat.rec (λ_ _=>O) (λ_ ih a s=>GN (body a s) ih) n
def adx (id:Nat)(r:R4):R4:=ob r λp=>match p with
 |(.exit i,a,s)=>bo (beq i id) (C (.normal,a,s)) (C (.exit i,a,s))
 |p=>C p
def GO (r:R3):R4:=ob r λp=>C (.normal,p)
def RA (c:Value)(a b:R4):R4:=match c with
 |.bool c=>bo c a b
 |_=>O
def RB (call:gw)(aE:List Oper)(draw:Bool)(tm:Tm)(s:St):R4:=
 bo draw (GO (ua E call aE aE (nat_lit 0) tm s [])) (GO (K3 E call aE aE tm s))
def lS (call:gw)(lf:Nat)(c:Code):Tm->St->R4:=
 Code.rec (motive:=λ_=>Tm->St->R4) (λd s=>C (.normal,d,s)) (λ_ aE draw d s=>RB E call aE.toList draw d s) (λ_ _ a b d s=>GN (a d s) b) (λc _ _ a b d s=>RA (aM d c) (a d s) (b d s))
  (λid _ a d s=>adx id (a d s)) (λ_ a d s=>Cr a lf d s) (λ_ _ _ _ _ _ _ _=>O) (λid d s=>C (.exit id,d,s)) (λ_ _ _ _=>O) (λ_ _ _=>O) (λ_ _ _=>O)
  (λd s=>C (.ret,d,s)) (λ_ _ _=>O) c
def k9 (l:aV):Nat->Tm->Tm:=List.rec (λ_ a=>a) (λv _ ih i a=>V7 v λv=>(a.set (Nat.succ i) i (C v)).now λa=>ih (Nat.succ i) a) l
def Cs (tm:Tm)(l:List ResultVar):St->Option (aV×St):=
 List.rec (λs=>C ([],s)) (λr _ ih s=>match r with
  |.tmp t=>ob (ih s) λp=>C (lR (tm.get t)::p.1,p.2)
  |.cell a t=>VO (lR (tm.get a)) λb o=>ob (tc E s t b o) λq=>ob (ih q.2) λp=>C (q.1::p.1,p.2)) l
def fj (l:aV):Value:=match l with
 |[v]=>v
 |vs=>.tuple ⟨vs⟩
def wC (c:Nat)(l:List UInt8):Nat->Int:=List.rec (λ_=>.negSucc (nat_lit 0)) (λb _ ih i=>bo (beq b.toNat c) (.ofNat i) (ih (Nat.succ i))) l
abbrev wD:=aV->St->Option (Value×St)
structure fb where
 rp:Nat
 indexByte:Nat
 sr:Nat
 look:Nat
 byte:Nat
 vT:List (Nat×wD)
def wE (X:fb)(f:FuncId):Bool:=List.rec U (λp _ ih=>bo (beq p.1 f) J ih) X.vT
def vU (X:fb)(f:FuncId)(args:aV)(s:St)(k:Option (Value×St)):Option (Value×St):=List.rec k (λp _ ih=>bo (beq p.1 f) (p.2 args s) ih) X.vT
def id1 (args:aV):Option Value:=match args with
 |[x]=>C x
 |_=>O
def Wd (args:aV):Option Value:=match args with
 |[.string ⟨⟨z⟩⟩,.int .u8 (.ofNat c)]=>dq (ble (Nat.succ c) (nat_lit 256))<| C (.int .i64 (wC c z (nat_lit 0)))
 |_=>O
def zeroV (X:fb)(args:aV)(s:St):Option (Value×St):=match args with
 |[.int .i64 (.ofNat n)]=>dq (ble (nat_lit 1) n&&ble n (nat_lit 1000000))<| aD (bA s n) (s.new (.cells [] X.byte J))
 |_=>O
def GP (args:aV)(s:St):Option (Value×St):=match args with
 |[.agg ⟨[.slice (C ⟨b,o,O⟩) n _,.slice _ 0 _,_]⟩,.int .i64 (.ofNat i)]=>dq (ble (Nat.succ i) n)<| s.row b λcs _ _ s=>ob (jH cs (Nat.add o i)) λv=>match v with
  |.string ⟨⟨z⟩⟩=>aD (.string ⟨⟨z⟩⟩) s
  |_=>O
 |_=>O
def OX (X:fb)(f:FuncId)(args:aV)(s:St):Option (Value×St):=
 bo (beq f X.rp) (ob (id1 args) λv=>aD v s) (bo (beq f X.indexByte) (ob (Wd args) λv=>aD v s) (bo (beq f X.sr) (zeroV X args s) O))
def RC (fn:Func)(r:R4):Option (Value×St):=ob r λp=>match p with
 |(.exit _,_,_)=>O
 |(_,a,s)=>ob (Cs E a fn.results.toList s) λp=>C (fj p.1,p.2)
end
end
variable {α β:Type}
@[simp] def ff (x y:α):bo J x y=x:=rfl
@[simp] def ey (x y:α):bo U x y=y:=rfl
def dC (b:Bool)(x y:α):bo b x y=if b then x else y:=by cases b<;>rfl
@[simp] def bF (a:α)(k:α->Option β):ob (C a) k=k a:=rfl
@[simp] def aha (k:α->Option β):ob (O:Option α) k=O:=rfl
def aG {o:Option α}{k:α->Option β}{r:β}(h:ob o k=C r):∃a,o=C a/\k a=C r:=by
 cases o with
 |none=>cases h
 |some a=>exact⟨a,rfl,h⟩
def bw {b:Bool}{k:Option β}{r:β}(h:dq b k=C r):b=J/\k=C r:=by
 cases b with
 |false=>cases h
 |true=>exact⟨rfl,h⟩
def IQ {b:Bool}{x:Option β}{r:β}(h:bo b x O=C r):b=J/\x=C r:=by
 cases b with
 |false=>cases h
 |true=>exact⟨rfl,h⟩
@[simp] def T.OY (t:T α)(k:T α->β):t.now k=k t:=by cases t<;>rfl
@[simp] def RD (n:Nat)(k:Nat->β):wy n k=k n:=by cases n<;>rfl
@[simp] def ahb (n:Int)(k:Int->β):adr n k=k n:=by cases n<;>simp[adr]
@[simp] def ahc (n:Bool)(k:Bool->β):ae8 n k=k n:=by cases n<;>rfl
@[simp] def ahd (a:aP)(k:aP->β):Z9 a k=k a:=by unfold Z9;split<;>simp
@[simp] def ahe (a:aP)(l c:Nat)(k:Value->β):ads a l c k=k (.slice a l c):=by simp[ads]
@[simp] def aad (v:Value)(k:Value->β):V7 v k=k v:=by unfold V7;split<;>simp
def T.get_nil (n:Nat):(T.nil:T α).get n=O:=rfl
def T.oC (v:Option α)(l r:T α)(n:Nat):(T.node v l r).get n=if n=0 then v else if n% 2=1 then l.get (n/ 2) else r.get (n/ 2-1):=by have h:(T.node v l r).get n=bo (beq n 0) v (bo (beq (n% 2) 1) (l.get (n/ 2)) (r.get (Nat.pred (n/ 2)))):=rfl;rw[h,dC,dC];simp only[lH,Nat.pred_eq_sub_one]
def T.K4 (d:Nat)(t:T α)(n:Nat)(x:Option α):
  T.set (d+1) t n x=match t with
    |.nil=>if n=0 then .node x .nil .nil else if n% 2=1 then .node O (T.set d .nil (n/ 2) x) .nil else .node O .nil (T.set d .nil (n/ 2-1) x)
    |.node v l r=>if n=0 then .node x l r else if n% 2=1 then .node v (T.set d l (n/ 2) x) r else .node v l (T.set d r (n/ 2-1) x):=by
 cases t with
 |nil=>have h:T.set (d+1) (T.nil:T α) n x=bo (beq n 0) (.node x .nil .nil) (bo (beq (n% 2) 1) ((T.set d .nil (n/ 2) x).now λl=>.node O l .nil) ((T.set d .nil (Nat.pred (n/ 2)) x).now λr=>.node O .nil r)):=rfl;rw[h,dC,dC];simp only[lH,Nat.pred_eq_sub_one,T.OY]
 |node v l r=>have h:T.set (d+1) (T.node v l r) n x=bo (beq n 0) (.node x l r) (bo (beq (n% 2) 1) ((T.set d l (n/ 2) x).now λl=>.node v l r) ((T.set d r (Nat.pred (n/ 2)) x).now λr=>.node v l r)):=rfl;rw[h,dC,dC];simp only[lH,Nat.pred_eq_sub_one,T.OY]
def T.Bx (d:Nat):∀(t:T α)(n m:Nat)(x:Option α),n+1<2^ d->(T.set d t n x).get m=if m=n then x else t.get m:=by
 induction d with
 |zero=>intro t n m x h;simp at h
 |succ d ih=>
  intro t n m x h;have hl:n% 2=1->n/ 2+1<2^ d:=λ_=>by rw[qm] at h;omega
  have hr:¬n=0->¬n% 2=1->n/ 2-1+1<2^ d:=λ_ _=>by rw[qm] at h;omega
  rw[T.K4];cases t with
  |nil=>
   simp only;by_cases h0:n=0;simp only[h0,iO,T.oC,T.get_nil];split<;>simp;simp only[h0,ib];by_cases a:n% 2=1
   .simp only[a,iO,T.oC,T.get_nil];rw[ih _ _ _ _ (hl a)];simp only[T.get_nil];(repeat' split);all_goals first|rfl|omega
   simp only[a,ib,T.oC,T.get_nil];rw[ih _ _ _ _ (hr h0 a)];simp only[T.get_nil];(repeat' split);all_goals first|rfl|omega
  |node v l r=>
   simp only;by_cases h0:n=0
   .simp only[h0,iO,T.oC];(repeat' split);all_goals first|rfl|omega
   simp only[h0,ib];by_cases a:n% 2=1
   .simp only[a,iO,T.oC];rw[ih _ _ _ _ (hl a)];(repeat' split);all_goals first|rfl|omega
   simp only[a,ib,T.oC];rw[ih _ _ _ _ (hr h0 a)];(repeat' split);all_goals first|rfl|omega
@[simp] def cR (l:List α):dJ l=Y l:=by
 induction l with
 |nil=>rfl
 |cons x xs ih=>exact congrArg Nat.succ ih
@[simp] def ec (l:List α):∀n,jH l n=l[n]?:=by
 induction l with
 |nil=>intro n;simp[jH]
 |cons x xs ih=>
  intro n;cases n with
  |zero=>rfl
  |succ n=>exact(ih n).trans aq
@[simp] def afc (n:Nat):∀l:List α,Wb n l=l.take n:=by
 induction n with
 |zero=>intro l;show([]:List α)=l.take 0;simp
 |succ n ih=>intro l;cases l with
  |nil=>rfl
  |cons x xs=>exact congrArg (x::·) (ih xs)
@[simp] def afd (n:Nat):∀l:List α,Wc n l=l.drop n:=by
 induction n with
 |zero=>intro l;show l=l.drop 0;simp
 |succ n ih=>intro l;cases l with
  |nil=>rfl
  |cons x xs=>exact ih xs
@[simp] def u9 (f:α->β)(l:List α):Bi f l=l.map f:=by
 induction l with
 |nil=>rfl
 |cons x xs ih=>exact congrArg (f x::·) ih
@[simp] def mZ (n:Nat):∀l:aV,fJ n l=l.drop n:=by
 induction n with
 |zero=>intro l;show l=l.drop 0;simp
 |succ n ih=>intro l;cases l with
  |nil=>rfl
  |cons x xs=>exact ih xs
def xW (n:Nat):∀l:aV,gE n l=if n<=Y l then C (l.take n) else O:=by
 induction n with
 |zero=>intro l;show C []=_;simp
 |succ n ih=>intro l;cases l with
  |nil=>simp[gE]
  |cons x xs=>
   (have h:gE (n+1) (x::xs)=ob (gE n xs) λr=>C (x::r):=rfl);rw[h,ih xs];by_cases hn:n<=Y xs<;>simp[hn]
def jd {n:Nat}{l r:aV}(h:gE n l=C r):n<=Y l/\r=l.take n:=by rw[xW] at h;split at h;exact⟨‹_›,by simpa using h.symm⟩;cases h
def RE (vs:aV):∀l:aV,kH vs l=if Y vs<=Y l then C (vs++l.drop (Y vs)) else O:=by
 induction vs with
 |nil=>intro l;show C l=_;simp
 |cons v vs ih=>intro l;cases l with
  |nil=>simp[kH]
  |cons x xs=>
   (have h:kH (v::vs) (x::xs)=ob (kH vs xs) λr=>C (v::r):=rfl);rw[h,ih xs];by_cases hn:Y vs<=Y xs<;>simp[hn]
def pC (n:Nat)(vs:aV):∀{l r:aV},fK n vs l=C r->n+Y vs<=Y l/\r=l.take n++vs++l.drop (n+Y vs):=by
 induction n with
 |zero=>intro l r h;have b:kH vs l=C r:=h;rw[RE] at b;split at b;have c:=dM b;subst c;exact⟨aa,aq⟩;cases b
 |succ n ih=>
  intro l r h;cases l with
  |nil=>cases h
  |cons x xs=>have b:ob (fK n vs xs) (λr=>C (x::r))=C r:=h;obtain⟨a,ha,hr⟩:=aG b;obtain⟨d,c⟩:=ih ha;simp at hr;refine⟨by simp;omega,?_⟩;(have e:n+1+Y vs=(n+Y vs)+1:=by omega);rw[<-hr,c,e,Rj,List.drop_succ_cons,jk,jk]
def jq (v:Value):cT v=v.cells.toList:=by unfold cT Value.cells;split<;>simp_all
def rq (l:aV):kr l=J↔∀v∈l,flat v=J:=by
 induction l with
 |nil=>simp[kr]
 |cons x xs ih=>have h:kr (x::xs)=bo (flat x) (kr xs) U:=rfl;rw[h,dC];by_cases a:flat x=J<;>simp[a,ih]
variable {A B:Nat->Prop}{v v':Value}{l l':aV}
abbrev iw:=Nat->Nat×Nat×Nat
def cj (q:Nat×Nat×Nat)(c:Nat):Nat:=if cl<=c then q.2.1-(c-cl) else c
mutual
def bZ (ρ:iw):Value->Value
 |.agg ⟨cs⟩=>.agg ⟨xX ρ cs⟩
 |.tuple ⟨cs⟩=>.tuple ⟨xX ρ cs⟩
 |.func fn ⟨f⟩ ⟨c⟩=>.func fn ⟨xX ρ f⟩ ⟨xX ρ c⟩
 |.iface t v=>.iface t (bZ ρ v)
 |.pointer (C ⟨b,o,O⟩)=>.pointer (C ⟨(ρ b).1,o,O⟩)
 |.pointer (C ⟨b,o,C 0⟩)=>.pointer (C ⟨(ρ b).1,o+(ρ b).2.2,O⟩)
 |.pointer (C ⟨b,o,C (q+1)⟩)=>.pointer (C ⟨(ρ b).1,o,C (q+1)⟩)
 |.slice (C ⟨b,o,O⟩) l c=>.slice (C ⟨(ρ b).1,o,O⟩) l (cj (ρ b) c)
 |.slice (C ⟨b,o,C 0⟩) l c=>.slice (C ⟨(ρ b).1,o+(ρ b).2.2,O⟩) l (cj (ρ b) c)
 |.slice (C ⟨b,o,C 1⟩) l c=>.slice (C ⟨(ρ b).1,(if cj (ρ b) c=0 then o-1 else o)+(ρ b).2.2,O⟩) l (cj (ρ b) c)
 |.slice (C ⟨b,o,C (q+2)⟩) l c=>.slice (C ⟨(ρ b).1,if cj (ρ b) c=0 then q else o,O⟩) l (cj (ρ b) c)
 |.map (C r)=>.map (C (ρ r).1)
 |.bool b=>.bool b
 |.int k n=>.int k n
 |.float k n=>.float k n
 |.complex k a b=>.complex k a b
 |.string s=>.string s
 |.pointer O=>.pointer O
 |.slice O l c=>.slice O l c
 |.map O=>.map O
 |.chan r=>.chan r
 |.nilFunc=>.nilFunc
 |.nilIface=>.nilIface
def xX (ρ:iw):aV->aV
 |[]=>[]
 |v::vs=>bZ ρ v::xX ρ vs
end
def xY (ρ:iw)(l:aV):xX ρ l=l.map (bZ ρ):=by
 induction l with
 |nil=>simp[xX]
 |cons v vs ih=>simp[xX,ih]
@[simp] def We (ρ:iw)(cs:aV):bZ ρ (.agg ⟨cs⟩)= .agg ⟨cs.map (bZ ρ)⟩:=by simp[bZ,xY]
@[simp] def OZ (ρ:iw)(cs:aV):bZ ρ (.tuple ⟨cs⟩)= .tuple ⟨cs.map (bZ ρ)⟩:=by simp[bZ,xY]
@[simp] def S4 (ρ:iw)(fn:Fn)(f c:aV):bZ ρ (.func fn ⟨f⟩ ⟨c⟩)= .func fn ⟨f.map (bZ ρ)⟩ ⟨c.map (bZ ρ)⟩:=by simp[bZ,xY]
def na (ρ:iw)(b o:Nat):bZ ρ (.pointer (C ⟨b,o,O⟩))= .pointer (C ⟨(ρ b).1,o,O⟩):=by simp[bZ]
def zf (ρ:iw)(b o:Nat):bZ ρ (.pointer (C ⟨b,o,C 0⟩))= .pointer (C ⟨(ρ b).1,o+(ρ b).2.2,O⟩):=by simp[bZ]
def nQ (ρ:iw)(a:Addr):∃a',bZ ρ (.pointer (C a))= .pointer (C a'):=by obtain⟨b,o,_|_|q⟩:=a;exact⟨_,na ρ b o⟩;exact⟨_,zf ρ b o⟩;exact⟨⟨(ρ b).1,o,C (q+1)⟩,by simp[bZ]⟩
def eK (ρ:iw)(b o l c:Nat):bZ ρ (.slice (C ⟨b,o,O⟩) l c)= .slice (C ⟨(ρ b).1,o,O⟩) l (cj (ρ b) c):=by simp[bZ]
def ru (ρ:iw)(b o l c:Nat):bZ ρ (.slice (C ⟨b,o,C 0⟩) l c)= .slice (C ⟨(ρ b).1,o+(ρ b).2.2,O⟩) l (cj (ρ b) c):=by simp[bZ]
def Ct (ρ:iw)(b o l c:Nat):bZ ρ (.slice (C ⟨b,o,C 1⟩) l c)= .slice (C ⟨(ρ b).1,(if cj (ρ b) c=0 then o-1 else o)+(ρ b).2.2,O⟩) l (cj (ρ b) c):=by simp[bZ]
def K5 (ρ:iw)(b o q l c:Nat):bZ ρ (.slice (C ⟨b,o,C (q+2)⟩) l c)= .slice (C ⟨(ρ b).1,if cj (ρ b) c=0 then q else o,O⟩) l (cj (ρ b) c):=by simp[bZ]
def rv (ρ:iw)(a:Addr)(l c:Nat):∃a',bZ ρ (.slice (C a) l c)= .slice (C a') l (cj (ρ a.block) c):=by obtain⟨b,o,_|_|_|q⟩:=a;exact⟨_,eK ρ b o l c⟩;exact⟨_,ru ρ b o l c⟩;exact⟨_,Ct ρ b o l c⟩;exact⟨_,K5 ρ b o q l c⟩
def GQ (ρ:iw)(b:Nat):bZ ρ (.map (C b))= .map (C (ρ b).1):=by simp[bZ]
@[simp] def aeS (ρ:iw)(b:Bool):bZ ρ (.bool b)= .bool b:=by simp[bZ]
@[simp] def ry (ρ:iw)(k:IntKind)(n:Int):bZ ρ (.int k n)= .int k n:=by simp[bZ]
@[simp] def acB (ρ:iw)(s:ByteArray):bZ ρ (.string s)= .string s:=by simp[bZ]
@[simp] def zg (ρ:iw):bZ ρ (.pointer O)= .pointer O:=by simp[bZ]
@[simp] def acC (ρ:iw)(l c:Nat):bZ ρ (.slice O l c)= .slice O l c:=by simp[bZ]
@[simp] def ss (ρ:iw):bZ ρ .nilFunc= .nilFunc:=by simp[bZ]
@[simp] def Fu (ρ:iw):bZ ρ .nilIface= .nilIface:=by simp[bZ]
def Cu (ρ:iw)(v:Value):(bZ ρ v).cells.toList=v.cells.toList.map (bZ ρ):=by
 cases v<;>try(simp[bZ,Value.cells];done)
 rename_i a;cases a with
 |none=>simp[bZ,Value.cells]
 |some a=>obtain⟨a',h⟩:=nQ ρ a;rw[h];simp[Value.cells,h]
 rename_i a l c;cases a with
 |none=>simp[bZ,Value.cells]
 |some a=>obtain⟨a',h⟩:=rv ρ a l c;rw[h];simp[Value.cells,h]
 rename_i a;cases a<;>simp[bZ,Value.cells];rename_i cs;obtain⟨cs⟩:=cs;simp[bZ,xY,Value.cells]
def S5 (ρ:iw)(v:Value):flat (bZ ρ v)=flat v:=by
 cases v<;>try(simp[bZ,flat];done)
 rename_i a;cases a with
 |none=>simp[bZ,flat]
 |some a=>obtain⟨a',h⟩:=nQ ρ a;rw[h];simp[flat]
 rename_i a l c;cases a with
 |none=>simp[bZ,flat]
 |some a=>obtain⟨a',h⟩:=rv ρ a l c;rw[h];simp[flat]
 rename_i a;cases a<;>simp[bZ,flat]
def Cv (A:Nat->Prop)(ρ er:iw):Prop:=∀i,A i->er i=ρ i
def VR (A:Nat->Prop)(ρ:iw)(v v':Value):Prop:=∀er,Cv A ρ er->bZ er v=v'
def LR (A:Nat->Prop)(ρ:iw)(l l':aV):Prop:=∀er,Cv A ρ er->l.map (bZ er)=l'
section
variable {ρ K6:iw}
def Cv.refl (A:Nat->Prop)(ρ:iw):Cv A ρ ρ:=λ_ _=>rfl
def VR.self (h:VR A ρ v v'):bZ ρ v=v':=h ρ (Cv.refl A ρ)
def LR.self (h:LR A ρ l l'):l.map (bZ ρ)=l':=h ρ (Cv.refl A ρ)
def VR.mono (h:VR A ρ v v')(c:∀i,A i->B i)(a:∀i,A i->K6 i=ρ i):VR B K6 v v':=λer b=>h er λi hi=>(b i (c i hi)).trans (a i hi)
def LR.mono (h:LR A ρ l l')(c:∀i,A i->B i)(a:∀i,A i->K6 i=ρ i):LR B K6 l l':=λer b=>h er λi hi=>(b i (c i hi)).trans (a i hi)
def LR.akc (h:LR A ρ l l'):Y l'=Y l:=by rw[<-h.self,fH]
def LR.nil:LR A ρ [] []:=λ_ _=>rfl
def LR.cons (h:VR A ρ v v')(k:LR A ρ l l'):LR A ρ (v::l) (v'::l'):=λer e=>by simp[h er e,k er e]
def LR.iP (h:LR A ρ (v::l) l'):∃u us,l'=u::us/\VR A ρ v u/\LR A ρ l us:=by refine⟨bZ ρ v,l.map (bZ ρ),by rw[<-h.self];rfl,λer e=>?_,λer e=>?_⟩;have:=(h er e).trans h.self.symm;simp at this;exact this.1;have:=(h er e).trans h.self.symm;simp only[lF,List.cons.injEq] at this;exact this.2
def LR.get {i:Nat}{u:Value}(h:LR A ρ l l')(hu:l[i]?=C u):∃a,l'[i]?=C a/\VR A ρ u a:=by refine⟨bZ ρ u,by rw[<-h.self];simp[hu],λer e=>?_⟩;have:=congrArg (·[i]?) ((h er e).trans h.self.symm);simpa[hu] using this
def LR.take (n:Nat)(h:LR A ρ l l'):LR A ρ (l.take n) (l'.take n):=λer e=>by rw[<-h er e,List.map_take]
def LR.drop (n:Nat)(h:LR A ρ l l'):LR A ρ (l.drop n) (l'.drop n):=λer e=>by rw[<-h er e,Gq]
def LR.append {m a:aV}(h:LR A ρ l l')(k:LR A ρ m a):LR A ρ (l++m) (l'++a):=λer e=>by rw[<-h er e,<-k er e,qR]
def VR.agg (h:LR A ρ l l'):VR A ρ (.agg ⟨l⟩) (.agg ⟨l'⟩):=λer e=>by simp[h er e]
def VR.tuple (h:LR A ρ l l'):VR A ρ (.tuple ⟨l⟩) (.tuple ⟨l'⟩):=λer e=>by simp[h er e]
def VR.RF (h:VR A ρ (.agg ⟨l⟩) v'):∃l',v'= .agg ⟨l'⟩/\LR A ρ l l':=by refine⟨l.map (bZ ρ),by rw[<-h.self];simp,λer e=>?_⟩;have:=(h er e).trans h.self.symm;simpa using this
def VR.aae (h:VR A ρ (.tuple ⟨l⟩) v'):∃l',v'= .tuple ⟨l'⟩/\LR A ρ l l':=by refine⟨l.map (bZ ρ),by rw[<-h.self];simp,λer e=>?_⟩;have:=(h er e).trans h.self.symm;simpa using this
def VR.Cw {fn:Fn}{f c:aV}(h:VR A ρ (.func fn ⟨f⟩ ⟨c⟩) v'):∃b c',v'= .func fn ⟨b⟩ ⟨c'⟩/\LR A ρ f b/\LR A ρ c c':=by
 refine⟨f.map (bZ ρ),c.map (bZ ρ),by rw[<-h.self];simp,λer e=>?_,λer e=>?_⟩<;>
 .have:=(h er e).trans h.self.symm;simp at this;first|exact qo (λx a=>this.1 x a)|exact qo (λx a=>this.2 x a)
def VR.func {fn:Fn}{f c a c':aV}(h:LR A ρ f a)(k:LR A ρ c c'):VR A ρ (.func fn ⟨f⟩ ⟨c⟩) (.func fn ⟨a⟩ ⟨c'⟩):=λer e=>by simp[h er e,k er e]
def VR.cells (h:VR A ρ v v'):LR A ρ v.cells.toList v'.cells.toList:=λer e=>by rw[<-Cu,h er e]
def LR.kr (h:LR A ρ l l')(hf:∀v∈l,flat v=J):∀v∈l',flat v=J:=by rw[<-h.self];intro v hv;obtain⟨u,hu,rfl⟩:=qj.1 hv;rw[S5];exact hf u hu
def VR.ground (h:∀ρ,bZ ρ v=v):VR A ρ v v:=λer _=>h er
def VR.bool (b:Bool):VR A ρ (.bool b) (.bool b):=VR.ground aq
def VR.int (k:IntKind)(n:Int):VR A ρ (.int k n) (.int k n):=VR.ground aq
def VR.str (s:ByteArray):VR A ρ (.string s) (.string s):=VR.ground aq
def VR.undef:VR A ρ (.tuple ⟨[]⟩) (.tuple ⟨[]⟩):=VR.ground aq
def VR.ptr {b o:Nat}(h:A b):VR A ρ (.pointer (C ⟨b,o,O⟩)) (.pointer (C ⟨(ρ b).1,o,O⟩)):=λer e=>by rw[na,e b h]
def VR.slice {b o l c:Nat}(h:A b):VR A ρ (.slice (C ⟨b,o,O⟩) l c) (.slice (C ⟨(ρ b).1,o,O⟩) l (cj (ρ b) c)):=λer e=>by rw[eK,e b h]
def VR.ahA {b:Nat}(h:A b):VR A ρ (.map (C b)) (.map (C (ρ b).1)):=λer e=>by rw[GQ,e b h]
def VR.kJ {k:IntKind}{n:Int}(h:VR A ρ (.int k n) v'):v'= .int k n:=by rw[<-h.self];simp
def VR.su {b:Bool}(h:VR A ρ (.bool b) v'):v'= .bool b:=by rw[<-h.self];simp
def VR.ub {s:ByteArray}(h:VR A ρ (.string s) v'):v'= .string s:=by rw[<-h.self];simp
end
def cU (A:Nat->Prop)(n m:Nat):Nat->Prop:=λi=>A i\/(n<=i/\i<m)
def Bj (P:Program)(A:Nat->Prop)(ρ:iw)(q:Nat×Nat×Nat):fa->Obj->Prop
 |.cells c e w,x=>∃(c' rest:aV)(fr:Nat×Nat),x= .cells ⟨c'++rest⟩ e fr/\LR A ρ c c'/\
    (w=J->fr=(0,0)/\Y c+Y rest=q.2.1*P.cellsOf e/\0<P.cellsOf e/\q.2.1<=maxLen)/\
    (w=U->((rest=[]/\fr=(0,0))\/(P.underlying e=C (.int .u8)/\P.cellsOf e=1/\Y c+Y rest<=fr.1))/\Y c<=q.2.1)
 |.map es,x=>∃(xs:List MapEntry)(k:Nat),x= .map ⟨xs⟩ k/\LR A ρ (es.map (·.1)) (xs.map (·.key))/\LR A ρ (es.map (·.2)) (xs.map (·.val))
 |.ji z p,x=>x= .stringIter ⟨⟨z⟩⟩ p
 |.mX ws,x=>∃(cs:aV)(t:TypeId)(fr:Nat×Nat),x= .cells ⟨cs⟩ t fr/\∀p∈ws,∃pre c' rest,cs=pre++(c'++rest)/\Y pre=p.1/\LR A ρ p.2 c'/\(p.2=[]->rest=[])
 |.jo c e,x=>∃pre c' rest:aV,x= .cells ⟨pre++(c'++rest)⟩ e (0,0)/\Y pre=q.2.2/\LR A ρ c c'/\Y c+Y rest=q.2.1*P.cellsOf e/\0<P.cellsOf e/\q.2.1<=maxLen
 |.rl m,x=>A m/\∃since bW,x= .mapIter (C (ρ m).1) since #[] bW
def Bj.mono {P:Program}{A B:Nat->Prop}{ρ j:iw}{q:Nat×Nat×Nat}{o:fa}{x:Obj}(h:Bj P A ρ q o x)(f:∀i,A i->B i)(a:∀i,A i->j i=ρ i):Bj P B j q o x:=by
 cases o with
 |cells c e w=>obtain⟨c',rest,fr,b,d,g,n⟩:=h;exact⟨c',rest,fr,b,d.mono f a,g,n⟩
 |map es=>obtain⟨xs,k,b,d,g⟩:=h;exact⟨xs,k,b,d.mono f a,g.mono f a⟩
 |ji z p=>exact h
 |mX ws=>obtain⟨cs,t,fr,b,d⟩:=h;exact⟨cs,t,fr,b,λp D=>by obtain⟨pre,c',rest,r,s,u,y⟩:=d p D;exact⟨pre,c',rest,r,s,u.mono f a,y⟩⟩
 |jo c e=>obtain⟨pre,c',rest,b,d,g,n⟩:=h;exact⟨pre,c',rest,b,d,g.mono f a,n⟩
 |rl m=>obtain⟨b,since,bW,d⟩:=h;exact⟨f m b,since,bW,by rw[a m b];exact d⟩
structure ez (P:Program)(X A:Nat->Prop)(ρ:iw)(g:Nat->Option fa)(w:World):Prop where
 iC:∀b o,X b->g b=some o->A b/\∃x,w.heap[(ρ b).1]?=some x/\Bj P A ρ (ρ b) o x
 inj:∀b b' o o',X b->X b'->g b=some o->g b'=some o'->(ρ b).1=(ρ b').1->b=b'
structure Fr (w w':World)(afe:Nat->Prop):Prop where
 os:w'.os=w.os
 tape:w'.tape=w.tape
 output:w'.output=w.output
 size:w.heap.size<=w'.heap.size
 block:∀r,r<w.heap.size->¬afe r->w'.heap[r]?=w.heap[r]?
def Fr.refl (w:World)(t:Nat->Prop):Fr w w t:=⟨rfl,rfl,rfl,fG _,λ_ _ _=>rfl⟩
abbrev In (m b:Nat):Prop:=m.testBit b=J
structure Good (P:Program)(X A:Nat->Prop)(ρ:iw)(s s':St)(w w':World)(er:iw):Prop where
 next:s.next<=s'.next
 same:∀i,¬(s.next<=i/\i<s'.next)->er i=ρ i
 state:ez P X (cU A s.next s'.next) er s'.heap.get w'
 gm:Fr w w' λr=>∃b o,In s'.wr b/\X b/\s.heap.get b=some o/\(ρ b).1=r
 old:∀b,b<s.next->s'.heap.get b≠none->s.heap.get b≠none
 dk:∀b,s.next<=b->b<s'.next->s'.heap.get b≠none->w.heap.size<=(er b).1\/∃c o,In s'.wr c/\X c/\s.heap.get c=some o/\(er b).1=(ρ c).1
 kept:∀b,b<s.next->¬In s'.wr b->s'.heap.get b=s.heap.get b
 dr:∀b,s'.next<=b->s'.heap.get b=none
structure ay (s s':St):Prop where
 next:s.next<=s'.next
 cC:∀b,In s.cC b->In s'.cC b
 wr:∀b,In s.wr b->In s'.wr b
 made:∀b,s.next<=b->b<s'.next->In s'.wr b
 sub:(∀b,In s.wr b->In s.cC b)->∀b,In s'.wr b->In s'.cC b
 kept:∀b,b<s.next->¬In s'.wr b->s'.heap.get b=s.heap.get b
 dr:(∀b,s.next<=b->s.heap.get b=none)->∀b,s'.next<=b->s'.heap.get b=none
variable {P:Program}{X:Nat->Prop}{ρ ρ1 K6:iw}{s s1 s2:St}{w w1 w2:World}
def ady (n:Nat):n+1+1<2^ (n+1+1):=@Nat.lt_two_pow_self (n+1+1)
def T.va {α:Type}(t:T α)(n m:Nat)(x:Option α):(T.set (Nat.succ n) t n x).get m=if m=n then x else t.get m:=by
 cases n with
 |zero=>rw[show Nat.succ 0=0+1 from rfl,T.K4];cases t<;>simp only[T.oC,T.get_nil,iO]<;>(repeat' split)<;>first|rfl|omega|simp_all
 |succ n=>exact T.Bx _ _ _ _ _ (ady n)
def ic (a b c:Nat):In (a||| bit b) c↔In a c\/c=b:=by
 have h:(a||| bit b)=a||| (1<<< b):=rfl;simp only[In,h,Nat.testBit_or,Nat.testBit_shiftLeft,km,ep,gv];constructor;rintro(h|⟨e,d⟩);exact .inl h;right;have:c-b=0:=by obtain h|h:=tG (c-b);exact h;rw[Nat.testBit_one_eq_true_iff_self_eq_zero] at d;exact d
 omega;rintro(h|rfl);exact .inl h;right;simp
def qT (a b c:Nat):In (a||| b) c↔In a c\/In b c:=by simp only[In,Nat.testBit_or,km]
section
variable (s:St)(b:Nat)
@[simp] def eT:(s.aL b).heap=s.heap:=by cases s;simp[St.aL]
@[simp] def bh:(s.aL b).next=s.next:=by cases s;simp[St.aL]
@[simp] def By:(s.aL b).wr=s.wr:=by cases s;simp[St.aL]
@[simp] def rz:(s.aL b).cC=s.cC||| bit b:=by cases s;simp[St.aL]
@[simp] def qs (o:Option fa)(c:Nat):(s.put b o).heap.get c=if c=b then o else s.heap.get c:=by cases s;simp[St.put,T.va]
@[simp] def dn (o:Option fa):(s.put b o).next=s.next:=by cases s;simp[St.put]
@[simp] def sw (o:Option fa):(s.put b o).wr=s.wr||| bit b:=by cases s;simp[St.put]
@[simp] def qt (o:Option fa):(s.put b o).cC=s.cC||| bit b:=by cases s;simp[St.put]
@[simp] def Bz (o:fa)(c:Nat):(s.new o).heap.get c=if c=s.next then C o else s.heap.get c:=by cases s;simp[St.new,T.va]
@[simp] def kK (o:fa):(s.new o).next=s.next+1:=by cases s;simp[St.new]
@[simp] def wF (o:fa):(s.new o).wr=s.wr||| bit s.next:=by cases s;simp[St.new]
@[simp] def xZ (o:fa):(s.new o).cC=s.cC||| bit s.next:=by cases s;simp[St.new]
end
def ay.refl (s:St):ay s s:=⟨fG _,λ_ h=>h,λ_ h=>h,λb a c=>by omega,λh=>h,λ_ _ _=>rfl,λh=>h⟩
def ay.trans {a b c:St}(h:ay a b)(k:ay b c):ay a c:=
 ⟨jR h.next k.next,λi hi=>k.cC i (h.cC i hi),λi hi=>k.wr i (h.wr i hi),λi g j=>by obtain d|d:=jc i b.next;exact k.wr i (h.made i g d);exact k.made i d j,λhs=>k.sub (h.sub hs),λi hi e=>by rw[k.kept i (vF hi h.next) e,h.kept i hi λf=>e (k.wr i f)],λha=>k.dr (h.dr ha)⟩
def ay.aL (s:St)(b:Nat):ay s (s.aL b):=
 ⟨aq,λi hi=>by simp only[rz,ic];exact Or.inl hi,λi hi=>by simpa using hi,λi c a=>by simp at a;omega,λhs i hi=>by simp only[rz,By,ic] at hi⊢;exact Or.inl (hs i hi),λi _ _=>by simp,λh=>by simpa using h⟩
def ay.put (s:St)(b:Nat)(o:Option fa)(hb:s.heap.get b≠O):ay s (s.put b o):=
 ⟨aq,λi hi=>by simp only[qt,ic];exact Or.inl hi,λi hi=>by simp only[sw,ic];exact Or.inl hi,λi d a=>by simp at a;omega,λhs i hi=>by simp only[qt,sw,ic] at hi⊢;exact hi.imp (hs i) id,
  λi hi c=>by rw[qs,af];rintro rfl;exact c (by rw[sw];exact(ic _ _ _).2 (.inr rfl)),
  λh i hi=>by rw[dn] at hi;rw[qs,af];(.exact h i hi);rintro rfl;exact hb (h _ hi)⟩
def ay.gx (s:St)(o:fa):ay s (s.new o):=
 ⟨aq,λi hi=>by simp only[xZ,ic];exact Or.inl hi,λi hi=>by simp only[wF,ic];exact Or.inl hi,λi b a=>by simp only[kK,wF,ic] at a⊢;exact Or.inr aa,λhs i hi=>by simp only[xZ,wF,ic] at hi⊢;exact hi.imp (hs i) id,
  λi hi c=>by rw[Bz,af aa],
  λh i hi=>by rw[kK] at hi;rw[Bz,af aa];exact h i aa⟩
def ez.mono {g:Nat->Option fa}{B:Nat->Prop}(h:ez P X A ρ g w)(m:∀i,A i->B i)(a:∀i,A i->K6 i=ρ i):ez P X B K6 g w:=by refine⟨λb o j f=>?_,λb b' o o' j d f c e=>?_⟩;obtain⟨k,x,n,p⟩:=h.iC b o j f;refine⟨m b k,x,by rw[a b k];exact n,?_⟩;rw[a b k];exact p.mono m a;rw[a b (h.iC b o j f).1,a b' (h.iC b' o' d c).1] at e;exact h.inj b b' o o' j d f c e
def ez.sub {g:Nat->Option fa}{Z:Nat->Prop}(h:ez P X A ρ g w)(a:∀i,Z i->X i):ez P Z A ρ g w:=
 ⟨λb o f c=>h.iC b o (a b f) c,λb b' o o' f j c d e=>h.inj b b' o o' (a b f) (a b' j) c d e⟩
def ez.lt {g:Nat->Option fa}(h:ez P X A ρ g w){b:Nat}{o:fa}(d:X b)(c:g b=C o):(ρ b).1<w.heap.size:=by obtain⟨_,x,a,_⟩:=h.iC b o d c;exact(tJ.1 a).1
def Good.Wf (a:ez P X A ρ s.heap.get w)(d:∀b,s.next<=b->s.heap.get b=O)(hn:s1.next=s.next)(c:s1.heap=s.heap)(e:w1.heap=w.heap)(k:w1.os=w.os)(ht:w1.tape=w.tape)(m:w1.output=w.output):Good P X A ρ s s1 w w1 ρ:=by refine⟨aa,λ_ _=>rfl,?_,⟨k,ht,m,by rw[e];exact fG _,λr _ _=>by rw[e]⟩,λb _ h=>by rwa[c] at h,λb f g=>by omega,λb _ _=>by rw[c],λb hb=>by rw[c];exact d b aa⟩;rw[c];refine⟨λb o n hb=>?_,a.inj⟩;obtain⟨f,x,g,j⟩:=a.iC b o n hb;exact⟨.inl f,x,by rw[e];exact g,j.mono (λi hi=>.inl hi) (λ_ _=>rfl)⟩
def Good.refl (c:ez P X A ρ s.heap.get w)(a:∀b,s.next<=b->s.heap.get b=O):Good P X A ρ s s w w ρ:=Good.Wf c a rfl rfl rfl rfl rfl rfl
def Good.trans (V:∀b,In s2.cC b->X b)(g:ay s s1)(a:ay s1 s2)(T:∀i,A i->i<s.next)(h:Good P X A ρ s s1 w w1 ρ1)(k:Good P X (cU A s.next s1.next) ρ1 s1 s2 w1 w2 K6):Good P X A ρ s s2 w w2 K6:=by
 have G:∀i,cU (cU A s.next s1.next) s1.next s2.next i->cU A s.next s2.next i:=by rintro i ((u|⟨u,x⟩)|⟨u,x⟩);exact .inl u;exact .inr ⟨u,vF x a.next⟩;exact .inr ⟨jR g.next u,x⟩
 refine⟨jR g.next a.next,λi hi=>?_,k.state.mono G (λ_ _=>rfl),?_,λb hb x=>?_,λb u x y=>?_,λb hb R=>?_,k.dr⟩;rw[k.same i λt=>hi ⟨jR g.next t.1,t.2⟩,h.same i λt=>hi ⟨t.1,vF t.2 a.next⟩];refine⟨k.gm.os.trans h.gm.os,k.gm.tape.trans h.gm.tape,k.gm.output.trans h.gm.output,jR h.gm.size k.gm.size,λr hr ht=>?_⟩;rw[k.gm.block r (vF hr h.gm.size) ?_,h.gm.block r hr ?_];rintro⟨b,o,hb,Q,q,e⟩;exact ht ⟨b,o,a.wr b hb,Q,q,e⟩;rintro⟨b,o,hb,Q,q,e⟩;obtain f|z:=jc b s.next;have y:=h.old b f (by rw[q];simp);obtain⟨o',D⟩:=Ak.1 y;exact ht ⟨b,o',hb,Q,D,by rw[<-e,h.same b aa]⟩;rcases jc b s1.next with m|j;rcases h.dk b z m (by rw[q];simp) with y|⟨c,o',hc,n,d,y⟩;omega;exact ht ⟨c,o',a.wr c hc,n,d,by rw[<-e,y]⟩;rw[h.dr b j] at q;cases q;rcases Ak.1 (k.old b (vF hb g.next) x) with⟨o,q⟩;exact h.old b hb (by rw[q];simp);rcases jc b s1.next with f|z;have S:=k.old b f y;rw[k.same b aa];obtain p|⟨c,o,hc,n,d,p⟩:=h.dk b u f S;exact .inl p;exact .inr ⟨c,o,a.wr c hc,n,d,p⟩;rcases k.dk b z x y with p|⟨c,o,hc,n,d,p⟩;exact .inl (jR h.gm.size p);rcases jc c s.next with f|E;obtain⟨o',D⟩:=Ak.1 (h.old c f (by rw[d];simp));exact .inr ⟨c,o',hc,n,D,by rw[p,h.same c aa]⟩;rcases jc c s1.next with m|j;rcases h.dk c E m (by rw[d];simp) with L|⟨c',o',N,K,F,L⟩;exact .inl (by rwa[p]);exact .inr ⟨c',o',a.wr c' N,K,F,by rw[p,L]⟩;rw[h.dr c j] at d;cases d;rw[k.kept b (vF hb g.next) R,h.kept b hb λt=>R (a.wr b t)]
variable {E:hJ}{s':St}
structure cW (E:hJ)(P:Program):Prop where
 ty:∀t i,E.ty.get t=some i->P.info? t=some i
 fn:∀f x,E.fn.get f=some x->P.funcs[f]?=some x
 Cn:liesAt P P.depth E.Cn (2/ P.cellsOf E.Cn) 0 E.Cn 1=true
 aff:P.underlying E.Cn≠some (.int .u8)
 eqs:∀t xs,xS t xs E.eqs=true->∀(ys:aV)(r:Bool),gi xs ys=some r->∀w,(Op.equal t (.agg ⟨xs⟩) (.agg ⟨ys⟩)).run P w= .ok r w/\∀op ox oy,(eqGuard op t ox oy (.agg ⟨xs⟩) (.agg ⟨ys⟩)).run P w= .ok () w
 keys:∀t xs,xS t xs E.eqs=true->∀b w,(checkKey b 10000 t (.agg ⟨xs⟩)).run P w= .ok () w
 zs:∀t i z,E.ty.get t=some i->i.zero=some z->∀ρ,bZ ρ z=z
 ahB:∀t m f,Co t m E.V8=some f->∀(a:Addr)(args:Array Value) w,(callMethod (.iface t (.pointer (some a))) m args).run P w=(callFunc f (#[.pointer (some a)]++args)).run P w
 afg:∀t m f,Co t m E.V8=some f->∀(a:Addr) w,(nilAhead (P.types.size+Made.depth) t (.pointer (some a)) m).run P w= .ok (some false) w
def eA (a:cW E P){t:TypeId}{d:TypeDesc}(h:iE E t=C d):P.underlying t=C d:=by obtain⟨i,hi,h⟩:=aG h;have b:=a.ty t i hi;unfold Program.underlying;rw[b];unfold ae9 at h;split at h;rename_i n u hd;obtain⟨j,e,h⟩:=aG h;have c:=a.ty u j e;obtain⟨desc,_,_,_,_,_,_,_,_,_⟩:=i;simp only at hd;subst hd;simpa[c] using h;rename_i hd;obtain⟨desc,_,_,_,_,_,_,_,_,_⟩:=i;simp only at hd h⊢;cases desc<;>simp_all
def BA (a:cW E P){t:TypeId}{n:Nat}(h:size E t=C n):∃i,P.info? t=C i/\i.size=n:=by obtain⟨i,hi,h⟩:=aG h;exact⟨i,a.ty t i hi,by simpa using h⟩
def aaf (a:cW E P){t:TypeId}{z:Value}(h:zero E t=C z):∃i,P.info? t=C i/\i.zero=C z:=by obtain⟨i,hi,h⟩:=aG h;exact⟨i,a.ty t i hi,h⟩
def oD (a:cW E P){t:TypeId}{z:Value}(h:zero E t=C z)(ρ:iw):bZ ρ z=z:=by obtain⟨i,hi,h⟩:=aG h;exact a.zs t i z hi h ρ
def rA (a:cW E P){t:TypeId}{d:TypeDesc}(h:iE E t=C d)(w:World):(isAgg t).run P w= .ok (wz d) w:=by unfold isAgg;simp only[run_bind,run_underlying (eA a h) w,andThen_ok];cases d<;>rfl
def run_sizeOf (c:cW E P){t:TypeId}{n:Nat}(h:size E t=C n)(w:World):(sizeOf t).run P w= .ok n w:=by obtain⟨i,a,b⟩:=BA c h;simp[sizeOf,typeInfo,a,b]
def lT (c:cW E P){t:TypeId}{z:Value}(h:zero E t=C z)(w:World):(zeroValue t).run P w= .ok z w:=by obtain⟨i,a,b⟩:=aaf c h;simp[zeroValue,typeInfo,a,b]
def pw (c:cW E P){t:TypeId}{n:Nat}(h:size E t=C n):P.cellsOf t=n:=by obtain⟨i,a,b⟩:=BA c h;simp[Program.cellsOf,a,b]
def K7 (v:Value):flat v=v.oneCell':=by cases v<;>rfl
def add_lit (b o i:Nat):(⟨b,o,O⟩:Addr).add i=⟨b,o+i,O⟩:=by unfold Addr.add;split<;>simp_all
def sx {w:World}{g:Nat}{cs:aV}{e:TypeId}{fr:Nat×Nat}(a:w.heap[g]?=C (.cells ⟨cs⟩ e fr))(j:Nat):w.cell? ⟨g,j,O⟩=cs[j]?:=by simp[World.cell?,a]
def gy (P:Program){w:World}{g:Nat}{cs:aV}{e:TypeId}{fr:Nat×Nat}(a:w.heap[g]?=C (.cells ⟨cs⟩ e fr))(o n:Nat)(h:o+n<=Y cs):
  (loadCells ⟨g,o,O⟩ n).run P w= .ok ((cs.drop o).take n).toArray w:=by
 have hl:Y ((cs.drop o).take n)=n:=by simp;omega
 have:=run_loadCells_list (P:=P) w ⟨g,o,O⟩ ((cs.drop o).take n) (λj v hv=>by rw[add_lit,sx a];rw[xI] at hv;split at hv;simpa using hv;cases hv);rwa [hl] at this
def qU (v:Value):∀(l:aV)(k:Nat),k<Y l->(l.set k v).take (k+1)=l.take k++[v]
 |[],k,h=>by simp at h
 |x::xs,0,_=>by simp
 |x::xs,k+1,h=>by simpa using qU v xs k (by simpa using h)
def vV (v:Value)(l:aV)(k m:Nat):(l.set k v).drop (k+1+m)=l.drop (k+1+m):=by rw[List.drop_set_of_lt aa]
def mo (P:Program)(g o:Nat)(t:TypeId)(a:Nat×Nat):∀(vs:aV)(i:Nat)(cur:Array Value)(w:World),w.heap[g]?=C (.cells cur t a)->(a=(0,0)\/cur.size<=a.1)->o+i+Y vs<=cur.size->(∀v∈vs,v.oneCell'=J)->
  (storeCells ⟨g,o,O⟩ vs i).run P w= .ok () (w.setRow g (cur.toList.take (o+i)++vs++cur.toList.drop (o+i+Y vs)).toArray)
 |[],i,cur,w,c,_,_,_=>by simp only[storeCells,fT,jm,wu,vC,Array.toArray_toList];rw[setRow_self w g cur t a c];rfl
 |v::rest,i,cur,w,c,f,hl,k=>by
  have hi:o+i<cur.size:=by simp at hl;omega
  have d:(⟨g,o,O⟩:Addr).add i=⟨g,o+i,O⟩:=add_lit g o i;have b:w.cell? ⟨g,o+i,O⟩=C cur[o+i]:=by simp[World.cell?,c,hi]
  have e:w.frozen? ⟨g,o+i,O⟩=U:=by obtain⟨lo,m⟩:=a;simp only[World.frozen?,c,rh,mW];obtain h|h:=f;simp at h;omega;simp only at h;omega
  have j:(store ((⟨g,o,O⟩:Addr).add i) v).run P w= .ok () (w.setRow g (cur.setIfInBounds (o+i) v)):=by rw[d,run_store P w _ v _ (k v aq),b];simp[e,setCell_eq_setRow w g (o+i) cur t a v c]
  have ih:=mo P g o t a rest (i+1) (cur.setIfInBounds (o+i) v) (w.setRow g (cur.setIfInBounds (o+i) v)) (setRow_heap w g cur _ t _ c) (by simpa using f) (by simp at hl⊢;omega) (λx n=>k x (by simp[n]));simp only[storeCells,run_bind,j,andThen_ok,ih,setRow_setRow];congr 3;rw[Array.toList_setIfInBounds,show o+(i+1)=o+i+1 by omega,qU _ _ _ (by simpa using hi),vV,fS,show o+i+1+Y rest=o+i+(Y rest+1) by omega];simp
def mq {β:Type}{k:aV->TypeId->Bool->St->Option β}{b:Nat}{r:β}(h:s.row b k=C r):∃c e u,s.heap.get b=C (.cells c e u)/\k c e u (s.aL b)=C r:=by
 obtain⟨o,d,a⟩:=aG h;cases o with
 |cells c e u=>exact⟨c,e,u,d,a⟩
 |map es=>cases a
 |ji z p=>cases a
 |rl m=>cases a
 |mX ws=>cases a
 |jo c e=>cases a
def IS {β:Type}{k:aV->TypeId->St->Option β}{b:Nat}{r:β}(h:s.jo b k=C r):∃c e,s.heap.get b=C (.jo c e)/\k c e (s.aL b)=C r:=by
 obtain⟨o,d,a⟩:=aG h;cases o with
 |jo c e=>exact⟨c,e,d,a⟩
 |cells c e u=>cases a
 |map es=>cases a
 |ji z p=>cases a
 |rl m=>cases a
 |mX ws=>cases a
def ez.row (h:ez P X A ρ s.heap.get w){b:Nat}{c:aV}{e:TypeId}{u:Bool}(m:X b)(k:s.heap.get b=C (.cells c e u)):
  A b/\∃(c' rest:aV)(fr:Nat×Nat),w.heap[(ρ b).1]?=C (.cells ⟨c'++rest⟩ e fr)/\LR A ρ c c'/\Y c'=Y c/\(fr=(0,0)\/Y (c'++rest)<=fr.1)/\
    (u=J->fr=(0,0)/\Y c+Y rest=(ρ b).2.1*P.cellsOf e/\0<P.cellsOf e/\(ρ b).2.1<=maxLen)/\
    (u=U->((rest=[]/\fr=(0,0))\/(P.underlying e=C (.int .u8)/\P.cellsOf e=1/\Y c+Y rest<=fr.1))/\Y c<=(ρ b).2.1):=by
 obtain⟨i,x,j,c',rest,fr,rfl,a,f,g⟩:=h.iC b _ m k;refine⟨i,c',rest,fr,j,a,a.akc,?_,f,g⟩;cases u with
 |true=>exact .inl (f rfl).1
 |false=>rcases(g rfl).1 with d|d;exact .inl d.2;exact .inr (by rw[dB,a.akc];exact d.2.2)
def ez.jo (h:ez P X A ρ s.heap.get w){b:Nat}{c:aV}{e:TypeId}(k:X b)(j:s.heap.get b=C (.jo c e)):
  A b/\∃pre c' rest:aV,w.heap[(ρ b).1]?=C (.cells ⟨pre++(c'++rest)⟩ e (0,0))/\Y pre=(ρ b).2.2/\LR A ρ c c'/\Y c'=Y c/\Y c+Y rest=(ρ b).2.1*P.cellsOf e/\0<P.cellsOf e/\(ρ b).2.1<=maxLen:=by obtain⟨d,x,f,pre,c',rest,rfl,g,a,i⟩:=h.iC b _ k j;exact⟨d,pre,c',rest,f,g,a,a.akc,i⟩
def GR:∀(ws:List (Nat×aV))(off:Nat){p:Nat×aV},Au ws off=C p->p∈ws/\p.1<=off
 |[],off,p,h=>by cases h
 |q::l,off,p,h=>by have h:bo (ble q.1 off&&ble (Nat.succ (Nat.sub off q.1)) (Y q.2)) (C q) (Au l off)=C p:=h;rw[dC] at h;split at h;rename_i hb;cases h;rw[ep] at hb;exact⟨ed,xA hb.1⟩;obtain⟨a,b⟩:=GR l off h;exact⟨dI _ a,b⟩
def aag {β:Type}{k:aV->Nat->St->Option β}{b off:Nat}{r:β}(h:s.KY b off k=C r):∃c m,((m=0/\∃e u,s.heap.get b=C (.cells c e u))\/∃ws,s.heap.get b=C (.mX ws)/\(m,c)∈ws)/\m<=off/\k c (off-m) (s.aL b)=C r:=by
 obtain⟨o,d,a⟩:=aG h;cases o with
 |cells c e u=>exact⟨c,0,.inl ⟨rfl,e,u,d⟩,jl _,a⟩
 |map es=>cases a
 |ji z p=>cases a
 |rl m=>cases a
 |jo c e=>cases a
 |mX ws=>obtain⟨p,j,f⟩:=aG a;obtain⟨g,i⟩:=GR ws off j;exact⟨p.2,p.1,.inr ⟨ws,d,g⟩,i,f⟩
def ez.KY (h:ez P X A ρ s.heap.get w){b m:Nat}{c:aV}(j:X b)(a:(m=0/\∃e u,s.heap.get b=C (.cells c e u))\/∃ws,s.heap.get b=C (.mX ws)/\(m,c)∈ws):
  A b/\∃(pre c' rest:aV)(e:TypeId)(fr:Nat×Nat),w.heap[(ρ b).1]?=C (.cells ⟨pre++(c'++rest)⟩ e fr)/\Y pre=m/\LR A ρ c c'/\Y c'=Y c:=by obtain⟨rfl,e,u,a⟩|⟨ws,a,hm⟩:=a;obtain⟨f,c',rest,fr,g,d,i,_⟩:=h.row j a;exact⟨f,[],c',rest,e,fr,g,rfl,d,i⟩;obtain⟨f,x,g,cs,t,fr,rfl,h0⟩:=h.iC b _ j a;obtain⟨pre,c',rest,rfl,i,d,_⟩:=h0 _ hm;exact⟨f,pre,c',rest,t,fr,g,i,d,d.akc⟩
def K8 (f:cW E P){t:TypeId}{b off:Nat}{v:Value}(h:tc E s t b off=C (v,s')):
  s'=s.aL b/\∀X A ρ w,X b->ez P X A ρ s.heap.get w->∃v',(loadVar t ⟨(ρ b).1,off,O⟩).run P w= .ok v' w/\VR A ρ v v':=by
 obtain⟨c,m,p,hm,h⟩:=aag h;obtain⟨d,hd,h⟩:=aG h;cases ha:wz d with
 |true=>rw[ha] at h;obtain⟨n,hn,h⟩:=aG h;obtain⟨cs,g,h⟩:=aG h;simp only[o4,cu] at h;obtain⟨rfl,rfl⟩:=h;refine⟨rfl,λX A ρ w o a=>?_⟩;obtain⟨q,pre,c',rest,e,fr,j,h0,k,r⟩:=a.KY o p;rw[mZ] at g;obtain⟨u,rfl⟩:=jd g;rw[fq] at u;obtain rfl|x:=tG n;refine⟨.agg #[],?_,?_⟩;unfold loadVar;simp only[run_bind,rA f hd,ha,andThen_ok,iO,run_sizeOf f hn];rfl;simpa using VR.agg (LR.nil (A:=A) (ρ:=ρ));refine⟨.agg ⟨(c'.drop (off-m)).take n⟩,?_,?_⟩;unfold loadVar;simp only[run_bind,rA f hd,ha,andThen_ok,iO,run_sizeOf f hn];rw[gy P j off n (by simp;omega)];(have:((pre++(c'++rest)).drop off).take n=(c'.drop (off-m)).take n:=by rw[KI,xC aa,kG,h0,Al aa,tP (by simp;omega)]);rw[this];rfl;exact VR.agg ((k.drop (off-m)).take n)
 |false=>
  rw[ha] at h;obtain⟨y,hv,h⟩:=aG h;simp only[o4,cu] at h;obtain⟨rfl,rfl⟩:=h;refine⟨rfl,λX A ρ w o a=>?_⟩;obtain⟨q,pre,c',rest,e,fr,j,h0,k,r⟩:=a.KY o p;rw[ec] at hv;obtain⟨v',i,hr⟩:=k.get hv;refine⟨v',?_,hr⟩;have hc:w.cell? ⟨(ρ b).1,off,O⟩=C v':=by rw[sx j,wv aa,h0,tw (by have:=(qS.1 i).1;omega)];exact i
  unfold loadVar;simp only[run_bind,rA f hd,ha,andThen_ok,ib,jS];simp[load,Sem.run,hc]
def Wg (j:cW E P){t:TypeId}{b off:Nat}{v:Value}(h:Ry E s t b off=C (v,s')):
  s'=s.aL b/\∀X A ρ w,X b->ez P X A ρ s.heap.get w->∃v',(loadVar t ⟨(ρ b).1,off+(ρ b).2.2,O⟩).run P w= .ok v' w/\VR A ρ v v':=by
 obtain⟨c,e,k,h⟩:=IS h;obtain⟨d,hd,h⟩:=aG h;cases ha:wz d with
 |true=>rw[ha] at h;cases h
 |false=>
  rw[ha] at h;obtain⟨p,hv,h⟩:=aG h;simp only[o4,cu] at h;obtain⟨rfl,rfl⟩:=h;refine⟨rfl,λX A ρ w m f=>?_⟩;obtain⟨n,pre,c',rest,g,h0,i,o,_⟩:=f.jo m k;rw[ec] at hv;obtain⟨v',a,hr⟩:=i.get hv;refine⟨v',?_,hr⟩;have hc:w.cell? ⟨(ρ b).1,off+(ρ b).2.2,O⟩=C v':=by rw[sx g,wv aa,h0,Nat.add_sub_cancel,tw (by have:=(qS.1 a).1;omega)];exact a
  unfold loadVar;simp only[run_bind,rA j hd,ha,andThen_ok,ib,jS];simp[load,Sem.run,hc]
variable {w':World}
def iw.at (ρ:iw)(n:Nat)(q:Nat×Nat×Nat):iw:=λi=>if i=n then q else ρ i
@[simp] def iw.qu (ρ:iw)(n:Nat)(q:Nat×Nat×Nat):ρ.at n q n=q:=by simp[iw.at]
def iw.td (ρ:iw){n i:Nat}(q:Nat×Nat×Nat)(h:i≠n):ρ.at n q i=ρ i:=by simp[iw.at,h]
def Good.bz {b:Nat}{o o':fa}{x':Obj}(d:ez P X A ρ s.heap.get w)(j:∀b,s.next<=b->s.heap.get b=O)(t:X b)(g:s.heap.get b=C o)
  (a:∀c,s'.heap.get c=if c=b then C o' else s.heap.get c)(q:s'.next=s.next)(m:In s'.wr b)
  (u:w'.heap[(ρ b).1]?=C x')(N:Bj P A ρ (ρ b) o' x')(hf:Fr w w' λr=>r=(ρ b).1):Good P X A ρ s s' w w' ρ:=by
 have L:b<s.next:=by obtain h|h:=jc b s.next;exact h;rw[j b h] at g;cases g
 have key:∀c f,X c->s'.heap.get c=C f->∃y,s.heap.get c=C y:=by intro c f _ h;rw[a] at h;split at h;subst c;exact⟨o,g⟩;exact⟨f,h⟩
 refine⟨aa,λ_ _=>rfl,⟨λc f hc h=>?_,λc c' f y hc k h D e=>?_⟩,⟨hf.os,hf.tape,hf.output,hf.size,λr hr ht=>hf.block r hr λe=>ht ⟨b,o,m,t,g,e.symm⟩⟩,λc hc h=>?_,λc z n=>by omega,λc hc Q=>?_,λc hc=>?_⟩;rw[a] at h;split at h;subst c;cases h;exact⟨.inl (d.iC b o t g).1,x',u,N.mono (λi hi=>.inl hi) (λ_ _=>rfl)⟩;rename_i p;obtain⟨z,x,n,F⟩:=d.iC c f hc h;refine⟨.inl z,x,?_,F.mono (λi hi=>.inl hi) (λ_ _=>rfl)⟩;rw[hf.block _ (tJ.1 n).1 (λe=>p (d.inj c b f o hc t h g e))];exact n;obtain⟨R,G⟩:=key c f hc h;obtain⟨S,K⟩:=key c' y k D;exact d.inj c c' R S hc k G K e;rw[a] at h;split at h;subst c;rw[g];simp;exact h;rw[a,af];rintro rfl;exact Q m;rw[a,af aa];exact j c aa
def Good.alloc {o:fa}{x:Obj}{q:Nat×Nat×Nat}(g:ez P X A ρ s.heap.get w)(m:∀b,s.next<=b->s.heap.get b=O)(G:∀i,A i->i<s.next)
  (a:∀c,s'.heap.get c=if c=s.next then C o else s.heap.get c)(D:s'.next=s.next+1)(N:In s'.wr s.next)
  (L:w.heap.size<=q.1)(Q:w'.heap[q.1]?=C x)(K:Bj P A ρ q o x)(hf:Fr w w' λ_=>False):Good P X A ρ s s' w w' (ρ.at s.next q):=by
 have j:∀i,A i->ρ.at s.next q i=ρ i:=λi hi=>iw.td ρ q (by have:=G i hi;omega);have p:∀c d,X c->s.heap.get c=C d->(ρ c).1<w.heap.size:=λc d hc h=>g.lt hc h;have f:∀c d,s.heap.get c=C d->c≠s.next:=by rintro c d h rfl;rw[m _ (fG _)] at h;cases h
 refine⟨aa,λi hi=>iw.td ρ q aa,⟨λc d hc h=>?_,λc c' d t hc n h k e=>?_⟩,⟨hf.os,hf.tape,hf.output,hf.size,λr hr ht=>hf.block r hr λe=>e⟩,λc hc h=>?_,λc u z F=>?_,λc hc R=>?_,λc hc=>?_⟩;rw[a] at h;split at h;subst c;cases h;rw[iw.qu];exact⟨.inr ⟨fG _,aa⟩,x,Q,K.mono (λi hi=>.inl hi) j⟩;obtain⟨u,y,z,F⟩:=g.iC c d hc h;rw[j c u];refine⟨.inl u,y,?_,F.mono (λi hi=>.inl hi) j⟩;rwa[hf.block _ (tJ.1 z).1 (λe=>e)];rw[a] at h k;split at h<;>split at k;omega;subst c;rw[iw.qu,iw.td ρ q (f c' t k)] at e;have:=p c' t n k;omega;subst c';rw[iw.qu,iw.td ρ q (f c d h)] at e;have:=p c d hc h;omega;rw[iw.td ρ q (f c d h),iw.td ρ q (f c' t k)] at e;exact g.inj c c' d t hc n h k e;rw[a,af aa] at h;exact h;have:c=s.next:=by omega
 subst c;rw[iw.qu];exact .inl L;rw[a,af aa];rw[a,af aa];exact m c aa
def Good.Wh {b:Nat}{o o':fa}{x':Obj}{q:Nat×Nat×Nat}(K:q.1=(ρ b).1)(f:ez P X A ρ s.heap.get w)(p:∀b,s.next<=b->s.heap.get b=O)(Q:∀i,A i->i<s.next)(x:X b)(u:s.heap.get b=C o)
  (a:∀c,s'.heap.get c=if c=s.next then C o' else if c=b then O else s.heap.get c)(G:s'.next=s.next+1)(m:In s'.wr b)(T:In s'.wr s.next)
  (L:w'.heap[q.1]?=C x')(R:Bj P A ρ q o' x')(hf:Fr w w' λr=>r=(ρ b).1):Good P X A ρ s s' w w' (ρ.at s.next q):=by
 have n:∀i,A i->ρ.at s.next q i=ρ i:=λi hi=>iw.td ρ q (by have:=Q i hi;omega);have k:∀c j,s.heap.get c=C j->c≠s.next:=by rintro c j h rfl;rw[p _ (fG _)] at h;cases h
 refine⟨aa,λi hi=>iw.td ρ _ aa,⟨λc j hc h=>?_,λc c' j z hc t h g e=>?_⟩,⟨hf.os,hf.tape,hf.output,hf.size,λr hr ht=>hf.block r hr λe=>ht ⟨b,o,m,x,u,e.symm⟩⟩,λc hc h=>?_,λc D F N=>?_,λc hc S=>?_,λc hc=>?_⟩;rw[a] at h;split at h;subst c;cases h;rw[iw.qu];exact⟨.inr ⟨fG _,aa⟩,x',L,R.mono (λi hi=>.inl hi) n⟩;split at h;cases h;rename_i d;obtain⟨D,y,F,N⟩:=f.iC c j hc h;rw[n c D];refine⟨.inl D,y,?_,N.mono (λi hi=>.inl hi) n⟩;rwa[hf.block _ (tJ.1 F).1 (λe=>d (f.inj c b j o hc x h u e))];rw[a] at h g;split at h<;>split at g;omega;subst c;split at g;cases g;rename_i d;rw[iw.qu,iw.td ρ _ (k c' z g),K] at e;exact absurd (f.inj c' b z o t x g u e.symm) d;subst c';split at h;cases h;rename_i d;rw[iw.qu,iw.td ρ _ (k c j h),K] at e;exact absurd (f.inj c b j o hc x h u e) d;split at h;cases h;split at g;cases g;rw[iw.td ρ _ (k c j h),iw.td ρ _ (k c' z g)] at e;exact f.inj c c' j z hc t h g e;rw[a,af aa] at h;split at h;exact absurd rfl h;exact h;have:c=s.next:=by omega
 subst c;rw[iw.qu];exact .inr ⟨b,o,m,x,u,K⟩;rw[a,af aa,af];rintro rfl;exact S m;rw[a,af aa];split;rfl;exact p c aa
def Good.renew {b:Nat}{o o':fa}{x':Obj}(f:ez P X A ρ s.heap.get w)(e:∀b,s.next<=b->s.heap.get b=O)(k:∀i,A i->i<s.next)(p:X b)(m:s.heap.get b=C o)
  (d:∀c,s'.heap.get c=if c=s.next then C o' else if c=b then O else s.heap.get c)(a:s'.next=s.next+1)(h:In s'.wr b)(g:In s'.wr s.next)
  (j:w'.heap[(ρ b).1]?=C x')(n:Bj P A ρ (ρ b) o' x')(hf:Fr w w' λr=>r=(ρ b).1):Good P X A ρ s s' w w' (ρ.at s.next (ρ b)):=Good.Wh rfl f e k p m d a h g j n hf
def Good.drop {b:Nat}(d:ez P X A ρ s.heap.get w)(m:∀b,s.next<=b->s.heap.get b=O)
  (a:∀c,s'.heap.get c=if c=b then O else s.heap.get c)(q:s'.next=s.next)(f:In s'.wr b){o:fa}(z:X b)(x:s.heap.get b=C o)
  (hf:Fr w w' λr=>r=(ρ b).1):Good P X A ρ s s' w w' ρ:=by refine⟨aa,λi hi=>rfl,⟨λc j hc h=>?_,λc c' j F hc n h g e=>?_⟩,⟨hf.os,hf.tape,hf.output,hf.size,λr hr ht=>hf.block r hr λe=>ht ⟨b,o,f,z,x,e.symm⟩⟩,λc hc h=>?_,λc t k u=>by omega,λc hc D=>?_,λc hc=>?_⟩;rw[a] at h;split at h;cases h;rename_i p;obtain⟨t,y,k,u⟩:=d.iC c j hc h;refine⟨.inl t,y,?_,u.mono (λi hi=>.inl hi) (λ_ _=>rfl)⟩;rwa[hf.block _ (tJ.1 k).1 (λe=>p (d.inj c b j o hc z h x e))];rw[a] at h g;split at h;cases h;split at g;cases g;exact d.inj c c' j F hc n h g e;rw[a] at h;split at h;exact absurd rfl h;exact h;rw[a,af];rintro rfl;exact D f;rw[a];split;rfl;exact m c aa
def Fr.alloc (w:World)(o:Obj):Fr w (w.alloc o) λ_=>False:=⟨rfl,rfl,rfl,aq,λr hr _=>by first|exact heap_alloc_old w o r hr|exact heap_alloc_old w o hr⟩
def Fr.zh (w:World)(o:Obj):Fr w (w.drew.alloc o) λ_=>False:=⟨rfl,rfl,rfl,aq,λr hr _=>by first|exact heap_alloc_old w.drew o r hr|exact heap_alloc_old w.drew o hr⟩
def Fr.setRow (w:World)(g:Nat)(cs:Array Value):Fr w (w.setRow g cs) λr=>r=g:=⟨rfl,rfl,rfl,aq,λr _ h=>setRow_other w g r cs h⟩
variable {m:Sem Value}
def Gl (A:Nat->Prop)(ρ:iw):Prop:=∀g,g<16->A g/\(ρ g).1=g
structure nK (P:Program)(X A:Nat->Prop)(ρ:iw)(s s':St)(w:World):Prop where
 lt:∀i,A i->i<s.next
 dr:∀b,s.next<=b->s.heap.get b=none
 cC:∀b,In s'.cC b->X b
 st:ez P X A ρ s.heap.get w
def cw (P:Program)(X A:Nat->Prop)(ρ:iw)(s s':St)(w:World)(v:Value)(m:Sem Value):Prop:=
 ∃v' w' er,m.run P w= .ok v' w'/\VR (cU A s.next s'.next) er v v'/\Good P X A ρ s s' w w' er
def cw.same (h:nK P X A ρ s s' w)(hn:s'.next=s.next)(a:s'.heap=s.heap)(hr:m.run P w= .ok v' w)(hv:VR A ρ v v'):cw P X A ρ s s' w v m:=
 ⟨v',w,ρ,hr,hv.mono (λi hi=>.inl hi) (λ_ _=>rfl),Good.Wf h.st h.dr hn a rfl rfl rfl rfl⟩
def cw.pure (h:nK P X A ρ s s w)(hr:m.run P w= .ok v' w)(hv:VR A ρ v v'):cw P X A ρ s s w v m:=cw.same h rfl rfl hr hv
def eP (s:St)(b:Nat):In (s.aL b).cC b:=by rw[rz];exact(ic _ _ _).2 (.inr rfl)
def eL (s:St)(b:Nat)(o:Option fa):In (s.put b o).cC b:=by rw[qt];exact(ic _ _ _).2 (.inr rfl)
def ix (s:St)(b:Nat)(o:Option fa):In (s.put b o).wr b:=by rw[sw];exact(ic _ _ _).2 (.inr rfl)
def iV (s:St)(o:fa):In (s.new o).wr s.next:=by rw[wF];exact(ic _ _ _).2 (.inr rfl)
def pD (e:TypeId)(cs:Array Value)(w:World):(newRow e cs).run P w= .ok ⟨w.heap.size,0,O⟩ (w.alloc (.cells cs e)):=rfl
def RG {c:aV}{t:TypeId}(h:S3 s c t=C (v,s')):ay s s'/\∀X A ρ w c',nK P X A ρ s s' w->LR A ρ c c'->cw P X A ρ s s' w v (do pure (.pointer (C (<-newRow t ⟨c'⟩)))):=by simp only[S3,aD,o4,cu] at h;obtain⟨rfl,rfl⟩:=h;refine⟨ay.gx s _,λX A ρ w c' a hc=>⟨.pointer (C ⟨w.heap.size,0,O⟩),w.alloc (.cells ⟨c'⟩ t),ρ.at s.next (w.heap.size,Y c,0),?_,?_,?_⟩⟩;simp only[run_bind,pD,andThen_ok];rfl;have:=VR.ptr (A:=cU A s.next (s.new (.cells c t U)).next) (ρ:=ρ.at s.next (w.heap.size,Y c,0)) (b:=s.next) (o:=0) (.inr ⟨fG _,aq⟩);simpa using this;refine Good.alloc (o:=.cells c t U) (x:=.cells ⟨c'⟩ t) a.st a.dr a.lt (λc=>by simp) aq (iV s _) (fG _) (heap_alloc_new w _) ?_ (Fr.alloc w _);exact⟨c',[],(0,0),aq,hc,(λh=>by cases h),λ_=>⟨.inl ⟨rfl,rfl⟩,fG _⟩⟩
def S6 (a:cW E P){t:TypeId}(h:IK E s t=C (v,s')):ay s s'/\∀X A ρ w,nK P X A ρ s s' w->cw P X A ρ s s' w v (Instr.alloc t J (.tuple #[])):=by
 obtain⟨z,b,h⟩:=aG h;obtain⟨f,g⟩:=RG (P:=P) h;refine⟨f,λX A ρ w i=>?_⟩;have hc:LR A ρ (cT z) z.cells.toList:=by rw[jq];exact(VR.ground (oD a b)).cells
 obtain⟨v',w',er,c,d,e⟩:=g X A ρ w _ i hc;refine⟨v',w',er,?_,d,e⟩;rw[<-c];unfold Instr.alloc;simp only[run_bind,lT a b,andThen_ok];rfl
def O0 {β:Type}{x:Value}{k:Nat->Nat->Option β}{r:β}(h:VO x k=C r):∃b o,x= .pointer (C ⟨b,o,O⟩)/\k b o=C r:=by unfold VO at h;split at h;exact⟨_,_,rfl,h⟩;cases h
def VR.IT {a:Addr}(h:VR A ρ (.pointer (C a)) v'):∃a',v'= .pointer (C a'):=by obtain⟨a',b⟩:=nQ ρ a;exact⟨a',by rw[<-h.self,b]⟩
def VR.adz {b o:Nat}(h:VR A ρ (.pointer (C ⟨b,o,C 0⟩)) v'):v'= .pointer (C ⟨(ρ b).1,o+(ρ b).2.2,O⟩):=by rw[<-h.self,zf]
def VR.O1 {b o l c:Nat}(h:VR A ρ (.slice (C ⟨b,o,C 0⟩) l c) v'):v'= .slice (C ⟨(ρ b).1,o+(ρ b).2.2,O⟩) l (cj (ρ b) c):=by rw[<-h.self,ru]
def VR.mark {b o l c:Nat}(h:A b):VR A ρ (.slice (C ⟨b,o,C 0⟩) l c) (.slice (C ⟨(ρ b).1,o+(ρ b).2.2,O⟩) l (cj (ρ b) c)):=λer e=>by rw[ru,e b h]
def VR.pE {b o:Nat}(h:VR A ρ (.pointer (C ⟨b,o,O⟩)) v'):v'= .pointer (C ⟨(ρ b).1,o,O⟩):=by rw[<-h.self,na]
def VR.gj {b o l c:Nat}(h:VR A ρ (.slice (C ⟨b,o,O⟩) l c) v'):v'= .slice (C ⟨(ρ b).1,o,O⟩) l (cj (ρ b) c):=by rw[<-h.self,eK]
def VR.wG {a:Addr}{l c:Nat}(h:VR A ρ (.slice (C a) l c) v'):∃a',v'= .slice (C a') l (cj (ρ a.block) c):=by obtain⟨a',b⟩:=rv ρ a l c;exact⟨a',by rw[<-h.self,b]⟩
def VR.j5 {l c:Nat}(h:VR A ρ (.slice O l c) v'):v'= .slice O l c:=by rw[<-h.self];simp
def aah (g:cW E P){t:TypeId}{a:Value}(h:tU E s t a=C (v,s')):ay s s'/\∀X A ρ w a',nK P X A ρ s s' w->VR A ρ a a'->cw P X A ρ s s' w v (Instr.loadAt t a'):=by unfold tU at h;split at h;rename_i b o;obtain⟨rfl,f⟩:=K8 g h;refine⟨ay.aL s b,λX A ρ w a' c ha=>?_⟩;obtain⟨v',d,e⟩:=f X A ρ w (c.cC b (eP s b)) c.st;refine cw.same c aq aq ?_ e;rw[ha.pE];exact d;rename_i b o;obtain⟨rfl,f⟩:=Wg g h;refine⟨ay.aL s b,λX A ρ w a' c ha=>?_⟩;obtain⟨v',d,e⟩:=f X A ρ w (c.cC b (eP s b)) c.st;refine cw.same c aq aq ?_ e;rw[ha.adz];exact d;cases h
def Wi (T:cW E P){t:TypeId}{a x:Value}(h:(VO a λb o=>py E s t b o x)=C (v,s')):ay s s'/\∀X A ρ w a' x',nK P X A ρ s s' w->VR A ρ a a'->VR A ρ x x'->
  v= .tuple ⟨[]⟩/\∃w' er,(Instr.storeAt t a' x').run P w= .ok () w'/\Good P X A ρ s s' w w' er:=by
 obtain⟨b,o,rfl,z⟩:=O0 h;clear h;replace h:=z;clear z;obtain⟨c,e,u,p,h⟩:=mq h;obtain⟨n,hn,h⟩:=aG h;obtain⟨hl,h⟩:=bw h;obtain⟨hf,h⟩:=bw h;obtain⟨cs,i,h⟩:=aG h;simp only[o4,cu] at h;obtain⟨rfl,rfl⟩:=h;refine⟨(ay.aL s b).trans (ay.put _ b _ (by rw[eT,p];simp)),λX A ρ w a' x' k ha V=>⟨rfl,?_⟩⟩;have L:X b:=k.cC b (eL _ b _);obtain⟨hA,c',rest,fr,D,F,Z,N,Q,R⟩:=k.st.row L p;rw[jq] at i hl hf;rw[cR] at hl;obtain⟨G,K⟩:=pC _ _ i;have d:=V.cells;have f:=d.akc;have q:Y x'.cells.toList=n:=by rw[f];simpa using hl
 rw[ha.pE];refine⟨w.setRow (ρ b).1 (⟨(c'++rest).take o++x'.cells.toList++(c'++rest).drop (o+Y x'.cells.toList)⟩),ρ,?_,?_⟩;unfold Instr.storeAt Instr.sureAddr storeVar;have r:x'.cells.size=n:=by simpa using q
 have j:=mo P (ρ b).1 o e fr x'.cells.toList 0 ⟨c'++rest⟩ w D (by simpa using N) (by simp at G f⊢;omega) (λy W=>by rw[<-K7];exact d.kr ((rq _).1 hf) y W);simp only[run_bind,Sem.run_pure,andThen_ok,run_sizeOf T hn,r,ne_eq,not_true,ib,ite_false];simpa using j;have cg:(c'++rest).take o++x'.cells.toList++(c'++rest).drop (o+Y x'.cells.toList)=(c'.take o++x'.cells.toList++c'.drop (o+Y x'.cells.toList))++rest:=by rw[tP aa,Al aa];simp
 refine Good.bz (o:=.cells c e u) (o':=.cells cs e u) k.st k.dr L p (λc=>by simp) aq (ix _ b _) (setRow_heap w _ _ _ _ _ D) ?_ (Fr.setRow w _ _);have S:o+x.cells.size<=Y c:=by simpa using G
 have g:Y cs=Y c:=by rw[K];simp;omega
 refine⟨c'.take o++x'.cells.toList++c'.drop (o+Y x'.cells.toList),rest,fr,by rw[cg],?_,?_,?_⟩;rw[K,f];exact((F.take o).append d).append (F.drop _);rw[g];exact Q;rw[g];exact R
variable {x y x' y':Value}
def qV (a b:Int):VP a b=decide (a<b):=by unfold VP;split;rename_i x y;rw[o6];simp[B7];rename_i x y;simp only[Bool.false_eq,mW,Int.ofNat_eq_natCast];omega;rename_i x y;simp only[Bool.true_eq,gv,Int.ofNat_eq_natCast];omega;rename_i x y;rw[o6];simp only[mm,gv];omega
def kl (a b:Int):xP a b=(a== b):=by
 unfold xP;split;rename_i x y;rw[o6];simp only[lH,rj,Int.ofNat_eq_natCast];omega;rename_i x y;rw[o6];simp;rename_i c d;rw[o6];simp only[jS,rj,false_iff];rintro rfl;cases a with
 |ofNat x=>exact c x x rfl rfl
 |negSucc x=>exact d x x rfl rfl
def kF (k:IntKind)(n:Int):pz k n=k.wrap n:=by unfold pz;split;rename_i m;rw[dC];split;rename_i h;simp only[mm] at h;cases k<;>simp[half,IntKind.wrap,IntKind.bits,IntKind.signed] at h⊢<;>omega;rfl;rfl
def vb {k j:IntKind}(h:pA k j=J):k=j:=by cases k<;>cases j<;>first|rfl|(exact absurd h cx)
def fk (x:List UInt8):∀y,gP x y=(x== y):=by
 induction x with
 |nil=>intro y;cases y<;>rfl
 |cons a x ih=>intro y;cases y with
  |nil=>rfl
  |cons b y=>
   have h:gP (a::x) (b::y)=bo (beq a.toNat b.toNat) (gP x y) U:=rfl;rw[h,ih,dC,o6];simp[tz]
def sy (x:List UInt8):∀y,oo x y=Op.bytesLess x y:=by
 induction x with
 |nil=>intro y;cases y<;>simp[Op.bytesLess]<;>rfl
 |cons a x ih=>intro y;cases y with
  |nil=>simp[Op.bytesLess];rfl
  |cons b y=>
   have h:oo (a::x) (b::y)=bo (ble (Nat.succ a.toNat) b.toNat) J (bo (beq a.toNat b.toNat) (oo x y) U):=rfl;rw[h,ih,dC,dC];simp only[Op.bytesLess,mm,lH,B7,<-Gs,tz];rw[o6];by_cases c:a<b<;>by_cases d:a=b<;>simp[c,d]
def toList_data (s:ByteArray):s.toList=s.data.toList:=ByteArray.toList_eq s
def adq {β:Type}{b:Bool}{x:Option β}{r:β}(h:bo b O x=C r):b=U/\x=C r:=by
 cases b with
 |true=>cases h
 |false=>exact⟨rfl,h⟩
def Wj {op:BinOp}{k:IntKind}{a b:Int}(h:KZ op k a b=C v)(t:TypeId)(w:World):(binOp op t (.int k a) (.int k b)).run P w= .ok v w/\∀ρ,bZ ρ v=v:=by
 cases op<;>simp only[KZ,o4,reduceCtorEq] at h;case quo=>
  refine' zaM
 case rem=>
  refine' zaM
 case xor=>
  unfold afa at h;split at h
  .rename_i m n;obtain⟨h0,h⟩:=bw h;simp only[o4] at h;subst h;simp only[ep,mm] at h0;refine⟨?_,λρ=>by simp⟩;have hm:m<2^ 8:=by omega
   have hn:n<2^ 8:=by omega
   have i:(BitVec.ofInt 8 (Int.ofNat m)^^^ BitVec.ofInt 8 (Int.ofNat n)).toNat=m^^^ n:=by rw[BitVec.toNat_xor];(have d:(BitVec.ofInt 8 (Int.ofNat m)).toNat=m:=by rw[show(Int.ofNat m)=((m:Nat):Int) from rfl,Rl,Rm,xJ hm]);(have e:(BitVec.ofInt 8 (Int.ofNat n)).toNat=n:=by rw[show(Int.ofNat n)=((n:Nat):Int) from rfl,Rl,Rm,xJ hn]);rw[d,e]
   have c:m^^^ n<2^ 8:=Nat.xor_lt_two_pow hm hn;simp only[binOp,Op.intBits,IntKind.bits,Sem.run_pure,Result.ok.injEq,Value.int.injEq,tQ,tA,ne_eq,not_true_eq_false,ib,ite_false];show IntKind.u8.wrap ((((BitVec.ofInt 8 (Int.ofNat m))^^^ (BitVec.ofInt 8 (Int.ofNat n)):BitVec 8).toNat:Nat):Int)=((m^^^ n:Nat):Int);rw[i];generalize m^^^ n=z at c⊢;simp[IntKind.wrap,IntKind.bits,IntKind.signed];omega
  .rename_i m n;obtain⟨h0,h⟩:=bw h;simp only[o4] at h;subst h;simp only[ep,mm] at h0;refine⟨?_,λρ=>by simp⟩;have hm:m<2^ 62:=by omega
   (have f:m<2^ 64:=by omega);(have hn:n<2^ 62:=by omega);have g:n<2^ 64:=by omega
   have i:(BitVec.ofInt 64 (Int.ofNat m)^^^ BitVec.ofInt 64 (Int.ofNat n)).toNat=m^^^ n:=by rw[BitVec.toNat_xor];(have d:(BitVec.ofInt 64 (Int.ofNat m)).toNat=m:=by rw[show(Int.ofNat m)=((m:Nat):Int) from rfl,Rl,Rm,xJ f]);(have e:(BitVec.ofInt 64 (Int.ofNat n)).toNat=n:=by rw[show(Int.ofNat n)=((n:Nat):Int) from rfl,Rl,Rm,xJ g]);rw[d,e]
   have c:m^^^ n<2^ 62:=Nat.xor_lt_two_pow hm hn;simp only[binOp,Op.intBits,IntKind.bits,Sem.run_pure,Result.ok.injEq,Value.int.injEq,tQ,tA,ne_eq,not_true_eq_false,ib,ite_false];show IntKind.i64.wrap ((((BitVec.ofInt 64 (Int.ofNat m))^^^ (BitVec.ofInt 64 (Int.ofNat n)):BitVec 64).toNat:Nat):Int)=((m^^^ n:Nat):Int);rw[i];generalize m^^^ n=z at c⊢;simp[IntKind.wrap,IntKind.bits,IntKind.signed];omega
  .cases h
 all_goals
  subst h;refine⟨?_,λρ=>by simp⟩;first
                                  |(simp[binOp,Op.intArith,Op.intCmp,kF];done)
                                  |(simp[binOp,Op.intArith,Op.intCmp,qV,kl];done)
                                  |(simp only[binOp,Op.intCmp,qV,kl,ne_eq,not_true,ib,ite_false,Sem.run_pure,Result.ok.injEq,tA,Value.bool.injEq];rw[o6];simp;done)
                                  |(simp[binOp,Op.intArith,Op.intCmp,kF];rfl)
def Wk {op:BinOp}{a b:List UInt8}(h:Wa op a b=C v)(t:TypeId)(w:World):(binOp op t (.string ⟨⟨a⟩⟩) (.string ⟨⟨b⟩⟩)).run P w= .ok v w/\∀ρ,bZ ρ v=v:=by
 cases op<;>simp only[Wa,o4,reduceCtorEq] at h;case add=>
  obtain⟨h0,h⟩:=bw h;simp only[o4] at h;subst h;refine⟨?_,λρ=>by simp⟩;have d:¬(IntKind.max .i64<(((⟨⟨a⟩⟩:ByteArray).size+(⟨⟨b⟩⟩:ByteArray).size:Nat):Int)):=by (have g:Y a+Y b<=1000000000:=by simpa using h0);have e:(⟨⟨a⟩⟩:ByteArray).size=Y a:=rfl;have f:(⟨⟨b⟩⟩:ByteArray).size=Y b:=rfl;simp only[IntKind.max,IntKind.signed,IntKind.bits,e,f];simp;omega
  have c:((⟨⟨a⟩⟩:ByteArray)++(⟨⟨b⟩⟩:ByteArray))=⟨⟨a++b⟩⟩:=by rw[ByteArray.mk_append_mk];try rfl
  simp only[binOp,Op.stringOp,gt_iff_lt,af d,c,Sem.run_pure]
 all_goals
  subst h;refine⟨?_,λρ=>by simp⟩;simp[binOp,Op.stringOp,toList_data,fk,sy,dC]
def IU {op:BinOp}{r:Option Bool}(h:xQ op r=C v):∃b,r=C b/\((op= .eql/\v= .bool b)\/(op= .neq/\v= .bool !b)):=by unfold xQ at h;split at h;obtain⟨b,a,c⟩:=aG h;exact⟨b,a,.inl ⟨rfl,by simpa using c.symm⟩⟩;obtain⟨b,a,c⟩:=aG h;exact⟨b,a,.inr ⟨rfl,by simpa using c.symm⟩⟩;cases h
def lg (x y:Value)(xs ys:aV):gi (x::xs) (y::ys)=ob (lJ x y) λe=>ob (gi xs ys) λr=>C (bo e r U):=rfl
def uc:gi [] []=C J:=rfl
def Fv {b:Bool}(h:lJ x y=C b):(∀ρ,bZ ρ x=x)/\(∀ρ,bZ ρ y=y):=by unfold lJ at h;split at h;exact⟨λρ=>by simp,λρ=>by simp⟩;exact⟨λρ=>by simp,λρ=>by simp⟩;exact⟨λρ=>by simp,λρ=>by simp⟩;cases h
def ud (xs:aV):∀(ys:aV)(r:Bool),gi xs ys=C r->(∀ρ,xs.map (bZ ρ)=xs)/\(∀ρ,ys.map (bZ ρ)=ys):=by
 induction xs with
 |nil=>intro ys r h;cases ys with
  |nil=>simp
  |cons y ys=>cases h
 |cons x xs ih=>
  intro ys r h;cases ys with
  |nil=>cases h
  |cons y ys=>rw[lg] at h;obtain⟨e,g,d⟩:=aG h;obtain⟨j,f,i⟩:=aG d;obtain⟨a,g2⟩:=Fv g;obtain⟨b,c⟩:=ih _ _ f;exact⟨λρ=>by rw[lF,a,b],λρ=>by rw[lF,g2,c]⟩
def IV (v:Value)(xs:aV)(k:Nat)(ks:List Nat):fA (v::xs) (k::ks)=bo (beq (xR v) k) (bo (ble k 2) (fA xs ks) U) U:=rfl
def nb {v:Value}{xs:aV}{k:Nat}{ks:List Nat}(h:fA (v::xs) (k::ks)=J):xR v=k/\k<=2/\fA xs ks=J:=by rw[IV,dC,dC] at h;split at h;rename_i a;split at h;rename_i b;exact⟨by simpa using a,by simpa using b,h⟩;cases h;cases h
def zi {v:Value}(h:xR v=0):∃n,v= .int .i64 n:=by unfold xR at h;split at h;exact⟨_,rfl⟩;all_goals cases h
def zj {v:Value}(h:xR v=1):∃z,v= .string ⟨⟨z⟩⟩:=by unfold xR at h;split at h;cases h;rename_i s;obtain⟨⟨z⟩⟩:=s;exact⟨z,rfl⟩;all_goals cases h
def wH {v:Value}(h:xR v=2):∃b,v= .bool b:=by unfold xR at h;split at h;cases h;cases h;exact⟨_,rfl⟩;cases h
def ue:∀(xs:aV)(ks:List Nat),fA xs ks=J->∀ρ,xs.map (bZ ρ)=xs
 |[],_,_,ρ=>rfl
 |v::xs,[],h,ρ=>by cases h
 |v::xs,k::ks,h,ρ=>by
  obtain⟨a,c,b⟩:=nb h;rw[lF,ue xs ks b ρ];have:k=0\/k=1\/k=2:=by omega
  obtain h|h|h:=this;obtain⟨n,rfl⟩:=zi (a.trans h);simp;obtain⟨n,rfl⟩:=zj (a.trans h);simp;obtain⟨n,rfl⟩:=wH (a.trans h);simp
def x4 (t:Nat)(xs:aV):∀l:List (TypeId×List Nat),xS t xs l=J->∃ks,(t,ks)∈l/\fA xs ks=J
 |[],h=>by cases h
 |p::r,h=>by have b:bo (bo (beq t p.1) (fA xs p.2) U) J (xS t xs r)=J:=h;rw[dC] at b;split at b;rename_i a;rw[dC] at a;split at a;rename_i c;(have:t=p.1:=by simpa using c);exact⟨p.2,by rw[this];exact ed ..,a⟩;cases a;obtain⟨ks,d,e⟩:=x4 t xs r b;exact⟨ks,dI _ d,e⟩
def K9 {t:Nat}{xs:aV}{l:List (TypeId×List Nat)}(h:xS t xs l=J):∀ρ,xs.map (bZ ρ)=xs:=by obtain⟨ks,_,a⟩:=x4 t xs l h;exact ue xs ks a
def binOp_eql {t:TypeId}{x y:Value}{b:Bool}(a:∀k n,x≠ .int k n)(hf:∀k n,x≠ .float k n)(hc:∀k m n,x≠ .complex k m n)(hs:∀s,x≠ .string s)(h:(Op.equal t x y).run P w= .ok b w):
  (binOp .eql t x y).run P w= .ok (.bool b) w/\(binOp .neq t x y).run P w= .ok (.bool !b) w:=by unfold binOp;constructor<;>split<;>simp_all
def o8 (op:BinOp)(t:TypeId)(ox oy:Operand){x y:Value}(hn:¬(x= .nilIface/\y= .nilIface))(ha:∀a b,¬(x= .agg a/\y= .agg b)):(eqGuard op t ox oy x y).run P w= .ok () w:=by
 unfold eqGuard;cases op<;>simp only[B8,vO,jS,ib,iO,ite_false,ite_true]<;>first|rfl|skip
 all_goals
  split
  .exact absurd ⟨rfl,rfl⟩ hn
  .exact absurd ⟨rfl,rfl⟩ (ha _ _)
  .rfl
def Wl (q:cW E P){t:TypeId}{d:TypeDesc}{b:Bool}(hd:iE E t=C d)(h:V9 E d x y=C b)(j:VR A ρ x x')(i:VR A ρ y y')(w:World):(Op.equal t x' y').run P w= .ok b w:=by
 have hu:=eA q hd;unfold Op.equal Op.maxDepth;unfold Op.equalIn;simp only[run_bind,run_underlying hu,andThen_ok];unfold V9 at h;split at h;rw[j.su,i.su];simpa using h;have:=j.self;simp only[zg] at this;subst this;rename_i a;have g:=i.self;rw[<-g];cases a with
 |none=>simpa using h
 |some a=>obtain⟨a',ha⟩:=nQ ρ a;rw[ha];simpa using h
 rename_i a;obtain⟨a',ha⟩:=j.IT;rw[ha];have g:=i.self;simp only[zg] at g;subst g;simpa using h;obtain⟨n,hn,h⟩:=aG h;obtain⟨e,p⟩:=bw h;clear h;have hb:=dM p;clear p;rw[ep] at e;obtain⟨e,k⟩:=e;have u:=nN e;have z:=nN k;subst u z hb;rw[j.pE,i.pE];simp only[run_bind,run_sizeOf q hn,andThen_ok];split;simp[sameAddr];simp;have:=j.j5;subst this;rename_i a F r;cases a with
 |none=>have:=i.j5;subst this;simpa using h
 |some a=>obtain⟨a',g⟩:=i.wG;rw[g];simpa using h
 rename_i a K G F r;obtain⟨a',o⟩:=j.wG;rw[o,i.j5];simpa using h;have e:=j.self;have k:=i.self;simp only[ss] at e k;subst e k;simpa using h;have e:=j.self;simp only[ss] at e;subst e;rename_i fn f c;obtain⟨f⟩:=f;obtain⟨c⟩:=c;obtain⟨D,c',rfl,_,_⟩:=i.Cw;simpa using h;have e:=i.self;simp only[ss] at e;subst e;rename_i fn f c;obtain⟨f⟩:=f;obtain⟨c⟩:=c;obtain⟨D,c',rfl,_,_⟩:=j.Cw;simpa using h;cases h
def Fw (op:BinOp)(t:TypeId){ox oy:Operand}(hc:(isC ox||isC oy)=J)(w:World):(eqGuard op t ox oy .nilIface .nilIface).run P w= .ok () w:=by
 cases ox<;>cases oy<;>first
  |(cases op<;>(simp[eqGuard];done))
  |(simp[isC] at hc;done)
def ZT (x:Value):Bool:=match x with
 |.bool _=>J
 |.pointer _=>J
 |.slice .. =>J
 |.func .. =>J
 |.nilFunc=>J
 |_=>U
def Wm (ρ:iw)(v:Value):ZT (bZ ρ v)=ZT v:=by
 cases v<;>try(simp[bZ,ZT];done)
 rename_i a;cases a with
 |none=>simp[bZ,ZT]
 |some a=>obtain⟨a',h⟩:=nQ ρ a;rw[h];simp[ZT]
 rename_i a l c;cases a with
 |none=>simp[bZ,ZT]
 |some a=>obtain⟨a',h⟩:=rv ρ a l c;rw[h];simp[ZT]
 rename_i a;cases a<;>simp[bZ,ZT]
def aai {d:TypeDesc}{b:Bool}(h:V9 E d x y=C b):ZT x=J:=by unfold V9 at h;split at h<;>first|rfl|(cases h;done)
def aaj (D:cW E P){op:BinOp}{t:TypeId}{ox oy:Operand}(h:SZ E op t (isC ox||isC oy) x y=C v)(f:VR A ρ x x')(i:VR A ρ y y')(w:World):
  ∃v',(do eqGuard op t ox oy x' y';binOp op t x' y').run P w= .ok v' w/\VR A ρ v v':=by
 simp only[run_bind];unfold SZ at h;split at h;rename_i k a k' b;rw[dC] at h;split at h;rw[f.kJ,i.kJ,o8 op t ox oy aq aq];(have hb:GL k=k.bits:=by cases k<;>rfl);(have c:∀m:Nat,Cp m (GL k)=min m k.bits:=λm=>by unfold Cp;rw[dC,hb];simp only[mm];split<;>omega);unfold shV at h;split at h;rename_i m n _;have:=dM h;subst this;refine⟨_,?_,VR.int _ _⟩;simp only[andThen_ok,binOp,Op.shift];(have h0:¬(Int.ofNat n<0):=by simp);rw[af h0,c];simp only[Sem.run_pure];congr 2;show Int.fdiv (Int.ofNat m) (2^ (min (toNat (Int.ofNat n)) k.bits))=_;(have g:(2:Int)^ (min (toNat (Int.ofNat n)) k.bits)=((2^ (min n k.bits):Nat):Int):=by simp);rw[g];show Int.fdiv ((m:Nat):Int) _=((Nat.shiftRight m (min n k.bits):Nat):Int);rw[Int.fdiv_eq_ediv_of_nonneg _ (vP _),<-Int.natCast_ediv];congr 1;exact(Nat.shiftRight_eq_div_pow m _).symm;rename_i m n _;have:=dM h;subst this;refine⟨_,?_,VR.int _ _⟩;simp only[andThen_ok,binOp,Op.shift];(have h0:¬(Int.ofNat n<0):=by simp);rw[af h0,c,kF];simp only[Sem.run_pure];congr 3;(have g:(2:Int)^ (min (toNat (Int.ofNat n)) k.bits)=((2^ (min n k.bits):Nat):Int):=by simp);rw[g];show((m:Nat):Int)*((2^ (min n k.bits):Nat):Int)=((Nat.shiftLeft m (min n k.bits):Nat):Int);rw[<-Int.natCast_mul];congr 1;exact(Nat.shiftLeft_eq m _).symm;cases h;obtain⟨j,h0⟩:=IQ h;clear h;have:=vb j;subst this;rw[f.kJ,i.kJ];obtain⟨e,r⟩:=Wj (P:=P) h0 t w;rw[o8 op t ox oy aq aq];exact⟨v,e,VR.ground r⟩;rename_i a b;rw[f.ub,i.ub];obtain⟨e,r⟩:=Wk (P:=P) h t w;rw[o8 op t ox oy aq aq];exact⟨v,e,VR.ground r⟩;obtain⟨hc,h⟩:=bw h;obtain⟨d,hd,h⟩:=aG h;obtain⟨hi,h⟩:=bw h;have p:=f.self;have q:=i.self;simp only[Fu] at p q;subst p q;have hu:=eA D hd;have T:=Fw (P:=P) op t hc w;have F:(Op.equal t .nilIface .nilIface).run P w= .ok J w:=by unfold Op.equal Op.maxDepth Op.equalIn;simp only[run_bind,run_underlying hu,andThen_ok];cases d<;>simp_all [isIface]
 rw[T];obtain⟨b,hb,h⟩:=IU h;simp only[o4] at hb;subst hb;obtain⟨j,e⟩:=binOp_eql (P:=P) (w:=w) (t:=t) (x:=.nilIface) (y:=.nilIface) aq aq aq aq F;obtain⟨rfl,rfl⟩|⟨rfl,rfl⟩:=h;exact⟨_,j,VR.bool _⟩;exact⟨_,e,VR.bool _⟩;rename_i xs ys;obtain⟨V,h⟩:=bw h;obtain⟨b,hb,h⟩:=IU h;obtain⟨j,e⟩:=ud _ _ _ hb;obtain⟨xs',rfl,L⟩:=f.RF;obtain⟨ys',rfl,N⟩:=i.RF;have g:=L.self;rw[j] at g;subst g;have Q:=N.self;rw[e] at Q;subst Q;obtain⟨R,S⟩:=D.eqs _ _ V ys b hb w;rw[S op ox oy];obtain⟨u,z⟩:=binOp_eql (P:=P) (w:=w) (t:=t) aq aq aq aq R;obtain⟨rfl,rfl⟩|⟨rfl,rfl⟩:=h;exact⟨_,u,VR.bool _⟩;exact⟨_,z,VR.bool _⟩;obtain⟨d,hd,h⟩:=aG h;obtain⟨b,hb,h⟩:=IU h;have F:=Wl D hd hb f i w;have o:ZT x'=J:=by rw[<-f.self,Wm];exact aai hb
 have K:(∀k n,x'≠ .int k n)/\(∀k n,x'≠ .float k n)/\(∀k m n,x'≠ .complex k m n)/\(∀s,x'≠ .string s)/\x'≠ .nilIface/\(∀a,x'≠ .agg a):=by refine⟨?_,?_,?_,?_,?_,?_⟩<;>intros<;>rintro rfl<;>cases o
 obtain⟨s1,s2,W,Z,s5,s6⟩:=K;rw[o8 op t ox oy (λG=>s5 G.1) (λa b G=>s6 a G.1)];obtain⟨u,z⟩:=binOp_eql (P:=P) (w:=w) (t:=t) s1 s2 W Z F;obtain⟨rfl,rfl⟩|⟨rfl,rfl⟩:=h;exact⟨_,u,VR.bool _⟩;exact⟨_,z,VR.bool _⟩
def aF {v:Value}{s:St}{r:Value×St}(h:aD v s=C r):r=(v,s):=by simpa[aD] using h.symm
def adA {op:UnOp}(h:unV op x s=C (v,s')):s'=s/\∀A ρ x',VR A ρ x x'->∃v',(∀w,(Op.unary op x').run P w= .ok v' w)/\VR A ρ v v':=by unfold unV at h;split at h;rename_i b;cases aF h;refine⟨rfl,λA ρ x' a=>⟨.bool !b,λw=>?_,VR.bool _⟩⟩;rw[a.su];rfl;cases h
def La {i:Nat}(h:xV s x i=C (v,s')):s'=s/\∀A ρ x',VR A ρ x x'->∃v',(∀w,(Instr.extract x' i).run P w= .ok v' w)/\VR A ρ v v':=by unfold xV at h;split at h;rename_i vs;obtain⟨u,hu,b⟩:=aG h;cases aF b;refine⟨rfl,λA ρ x' c=>?_⟩;obtain⟨e,rfl,hl⟩:=c.aae;rw[ec] at hu;obtain⟨d,a,hr⟩:=hl.get hu;refine⟨d,λw=>?_,hr⟩;simp[Instr.extract,a];cases h
def S7 (g:cW E P){t:TypeId}(h:IN E s t x y=C (v,s')):s'=s/\∀A ρ x' y',VR A ρ x x'->VR A ρ y y'->∃v',(∀w,(Instr.index t x' y').run P w= .ok v' w)/\VR A ρ v v':=by
 obtain⟨d,hd,a⟩:=aG h;clear h;split at a;rename_i z k i;obtain⟨c,hc,f⟩:=aG a;cases aF f;refine⟨rfl,λA ρ x' y' j n=>⟨.int .u8 c.toNat,λw=>?_,VR.int _ _⟩⟩;rw[j.ub,n.kJ];rw[ec] at hc;have hb:(⟨⟨z⟩⟩:ByteArray)[i]?=C c:=by have b:=(qS.1 hc).1;have e:(⟨⟨z⟩⟩:ByteArray).size=Y z:=rfl;rw[getElem?_pos _ _ (by rw[e];exact b)];have:=(qS.1 hc).2;rw[<-this];rfl
 unfold Instr.index;simp only[run_bind,asIntOf,Sem.run_pure,andThen_ok,run_underlying (eA g hd)];simp[hb];cases a
def S8 (k:cW E P){t:TypeId}{i:Nat}(h:IM E s t x i=C (v,s')):s'=s/\∀A ρ x',VR A ρ x x'->∃v',(∀w,(Instr.field t x' i).run P w= .ok v' w)/\VR A ρ v v':=by
 obtain⟨d,hd,b⟩:=aG h;clear h;split at b;rename_i fs cs;obtain⟨f,hf,p⟩:=aG b;obtain⟨o,e,q⟩:=aG p;obtain⟨hb,r⟩:=bw q;obtain⟨u,hu,z⟩:=aG r;cases aF z;refine⟨rfl,λA ρ x' D=>?_⟩;obtain⟨a,rfl,hl⟩:=D.RF;rw[ec] at hu hf;obtain⟨n,j,hr⟩:=hl.get hu;refine⟨n,λw=>?_,hr⟩;have ha:wz o=U:=by simpa using hb
 have g:(⟨fs⟩:Array Field)[i]?=C f:=by simpa using hf
 have c:(⟨a⟩:Array Value)[f.offset]?=C n:=by simpa using j
 unfold Instr.field part;simp only[run_bind,run_underlying (eA k hd),andThen_ok,g,asAgg,Sem.run_pure,rA k e,ha,c,ib,jS];cases b
def Fx (k:cW E P){t:TypeId}{i:Nat}(h:nP E s t x i=C (v,s')):s'=s/\∀A ρ x',(∀v v',VR A ρ v v'->True)->VR A ρ x x'->∃v',(∀w,(Instr.fieldAt t x' i).run P w= .ok v' w)/\VR A ρ v v':=by obtain⟨d,hd,a⟩:=aG h;clear h;split at a;rename_i fs;obtain⟨f,hf,p⟩:=aG a;obtain⟨n,hn,q⟩:=aG p;obtain⟨hb,r⟩:=bw q;obtain⟨b,o,rfl,u⟩:=O0 r;cases aF u;refine⟨rfl,λA ρ x' _ j=>⟨.pointer (C ⟨(ρ b).1,o+f.offset,O⟩),λw=>?_,λer e=>?_⟩⟩;rw[j.pE];rw[ec] at hf;(have g:n≠0:=by simp at hb;omega);unfold Instr.fieldAt;simp only[run_bind,run_underlying (eA k hd),andThen_ok];(have c:(⟨fs⟩:Array Field)[i]?=C f:=by simpa using hf);simp only[c,Instr.sureAddr,run_bind,Sem.run_pure,andThen_ok,fieldPlace,run_sizeOf k hn,g,ib,ite_false,add_lit];have a:=(j er e).trans j.self.symm;simp only[na,Value.pointer.injEq,o4,Addr.mk.injEq,tA] at a;rw[na,a];rfl;cases a
def Fy (j:cW E P){t:TypeId}(h:hS E s t x y=C (v,s')):s'=s/\∀A ρ x' y',VR A ρ x x'->VR A ρ y y'->∃v',(∀w,(Instr.indexAt t x' y').run P w= .ok v' w)/\VR A ρ v v':=by obtain⟨d,hd,a⟩:=aG h;clear h;split at a;rename_i n e b o k i;obtain⟨hb,g⟩:=bw a;obtain⟨sz,c,p⟩:=aG g;cases aF p;refine⟨rfl,λA ρ x' y' f q=>⟨.pointer (C ⟨(ρ b).1,o+i*sz,O⟩),λw=>?_,λer e=>?_⟩⟩;rw[f.pE,q.kJ];(have hi:i<n:=by simpa[B7] using hb);unfold Instr.indexAt;simp only[run_bind,asIntOf,Sem.run_pure,andThen_ok,run_underlying (eA j hd),Instr.sureAddr];(have hc:(0:Int)<=Int.ofNat i/\Int.ofNat i<(n:Int):=by constructor<;>simp<;>omega);simp[hc,hi,run_sizeOf j c,add_lit];have a:=(f er e).trans f.self.symm;simp only[na,Value.pointer.injEq,o4,Addr.mk.injEq,tA] at a;rw[na,a];rfl;rename_i e b o n cap k i;obtain⟨hb,g⟩:=bw a;obtain⟨sz,c,p⟩:=aG g;cases aF p;refine⟨rfl,λA ρ x' y' f q=>⟨.pointer (C ⟨(ρ b).1,o+(ρ b).2.2+i*sz,O⟩),λw=>?_,λer e=>?_⟩⟩;rw[f.O1,q.kJ];(have hi:i<n:=by simpa[B7] using hb);unfold Instr.indexAt;simp only[run_bind,asIntOf,Sem.run_pure,andThen_ok,run_underlying (eA j hd)];simp[hi,run_sizeOf j c,add_lit];have a:=(f er e).trans f.self.symm;simp only[ru,Value.slice.injEq,o4,Addr.mk.injEq,tA] at a;obtain⟨⟨a,g⟩,_⟩:=a;rw[zf,a];have:Nat.add o (mul i sz)=o+i*sz:=rfl;rw[this,show o+i*sz+(er b).2.2=o+(ρ b).2.2+i*sz by omega];rename_i e b o n cap k i;obtain⟨hb,g⟩:=bw a;obtain⟨sz,c,p⟩:=aG g;cases aF p;refine⟨rfl,λA ρ x' y' f q=>⟨.pointer (C ⟨(ρ b).1,o+i*sz,O⟩),λw=>?_,λer e=>?_⟩⟩;rw[f.gj,q.kJ];(have hi:i<n:=by simpa[B7] using hb);unfold Instr.indexAt;simp only[run_bind,asIntOf,Sem.run_pure,andThen_ok,run_underlying (eA j hd)];simp[hi,run_sizeOf j c,add_lit];have a:=(f er e).trans f.self.symm;simp only[eK,Value.slice.injEq,o4,Addr.mk.injEq,tA] at a;rw[na,a.1];rfl;cases a
def aak (j:cW E P){t ty:TypeId}(h:S2 E t x=C v):∀A ρ x' i,VR A ρ x x'->i[0]?=C t->∃v',(∀w,(Builtin.len_ i ty #[x']).run P w= .ok v' w)/\VR A ρ v v':=by
 obtain⟨d,hd,f⟩:=aG h;clear h;split at f;rename_i z;have:=dM f;subst this;refine λA ρ x' i g b=>⟨.int .i64 (.ofNat (Y z)),λw=>?_,by simpa using VR.int _ _⟩;rw[g.ub];simp[Builtin.len_,b,run_underlying (eA j hd),goInt];rfl;rename_i e a n c;have:=dM f;subst this;refine λA ρ x' i g b=>⟨.int .i64 (.ofNat n),λw=>?_,VR.int _ _⟩;cases a with
 |none=>rw[g.j5];simp[Builtin.len_,b,run_underlying (eA j hd),goInt]
 |some a=>obtain⟨a',k⟩:=g.wG;rw[k];simp[Builtin.len_,b,run_underlying (eA j hd),goInt]
 cases f
def aal (h:aac x y s=C (v,s')):s'=s/\∀A ρ x' y' c ty,VR A ρ x x'->VR A ρ y y'->∃v',(∀w,(Builtin.max_ c ty #[x',y']).run P w= .ok v' w)/\VR A ρ v v':=by unfold aac at h;split at h;rename_i k a i b;obtain⟨g,d⟩:=bw h;cases aF d;refine⟨rfl,λA ρ x' y' c ty e f=>⟨_,λw=>?_,VR.int _ _⟩⟩;rw[e.kJ,f.kJ];simp only[Builtin.max_,List.foldlM,Builtin.max2];simp[dC,qV];cases h
def KD (A:Nat->Prop)(ρ:iw):Option Value->Option Value->Prop
 |O,O=>True
 |C v,C v'=>VR A ρ v v'
 |_,_=>False
def KD.none {o:Option Value}(h:KD A ρ O o):o=O:=by cases o<;>simp_all [KD]
def KD.some {v:Value}{o:Option Value}(h:KD A ρ (C v) o):∃v',o=C v'/\VR A ρ v v':=by
 cases o with
 |none=>simp[KD] at h
 |some v'=>exact⟨v',rfl,h⟩
def sA {y i:Nat}(h:mY v y=C i):i<=y/\∃k,v= .int k (.ofNat i):=by unfold mY at h;split at h;rename_i k j;obtain⟨a,b⟩:=IQ h;have:=dM b;subst this;exact⟨by simpa using a,k,rfl⟩;cases h
def run_sliceBound {y i:Nat}(h:mY v y=C i)(hv:VR A ρ v v')(z:Nat)(b:y<=z)(code:BoundsCode)(w:World):(Instr.sliceBound v' z code).run P w= .ok i w:=by
 obtain⟨a,k,rfl⟩:=sA h;rw[hv.kJ];unfold Instr.sliceBound;simp only[run_bind,asIntOf,Sem.run_pure,andThen_ok];have:(0:Int)<=Int.ofNat i/\Int.ofNat i<=(z:Int):=by constructor<;>simp<;>omega
 simp[this];omega
def rB {β:Type}{len cap:Nat}{lo hi d:Option Value}{k:Nat->Nat->Nat->Option β}{r:β}(h:bounds len cap lo hi d k=C r):
  ∃l h m,k l h m=C r/\(m<=cap/\(d=O->m=cap))/\l<=h/\(len<=cap->d=O->h<=cap)/\
   ∀A ρ f e g,KD A ρ lo f->KD A ρ hi e->KD A ρ d g->∀(P:Program)(K:Bool) w a,cap<=a->(Instr.sliceBounds K len a f e g).run P w= .ok (l,h,if d=O then a else m) w:=by
 obtain⟨m,hm,t⟩:=aG h;obtain⟨D,b,z⟩:=aG t;obtain⟨l,hl,L⟩:=aG z;clear h t z;have j:m<=cap/\(d=O->m=cap):=by
  cases d with
  |none=>have:=dM hm;exact⟨aa,λ_=>this.symm⟩
  |some v=>exact⟨(sA hm).1,λh=>by cases h⟩
 have n:l<=D:=by
  cases lo with
  |none=>have:=dM hl;subst this;exact jl _
  |some v=>exact(sA hl).1
 refine⟨l,D,m,L,j,n,λhc o=>?_,λA ρ f e g i p G P K w a c=>?_⟩;subst o;cases hi with
 |none=>have:=dM b;omega
 |some v=>have:=(sA b).1;have:=j.1;omega
 unfold Instr.sliceBounds;cases d with
 |none=>
  have:=dM hm;subst this;rw[G.none];cases hi with
  |none=>
   have:=dM b;subst this;rw[p.none];cases lo with
   |none=>have:=dM hl;subst this;rw[i.none];simp
   |some v=>obtain⟨v',rfl,hv⟩:=i.some;simp[run_sliceBound (P:=P) hl hv _ (fG _)]
  |some u=>
   obtain⟨N,rfl,hu⟩:=p.some;cases lo with
   |none=>have:=dM hl;subst this;rw[i.none];simp[run_sliceBound (P:=P) b hu a c]
   |some v=>obtain⟨v',rfl,hv⟩:=i.some;simp[run_sliceBound (P:=P) b hu a c,run_sliceBound (P:=P) hl hv _ (fG _)]
 |some q=>
  obtain⟨Q,rfl,F⟩:=G.some;cases hi with
  |none=>cases b
  |some u=>
   obtain⟨N,rfl,hu⟩:=p.some;cases lo with
   |none=>have:=dM hl;subst this;rw[i.none];simp[run_sliceBound (P:=P) hm F a c,run_sliceBound (P:=P) b hu _ (fG _)]
   |some v=>obtain⟨v',rfl,hv⟩:=i.some;simp[run_sliceBound (P:=P) hm F a c,run_sliceBound (P:=P) b hu _ (fG _),run_sliceBound (P:=P) hl hv _ (fG _)]
def extract_mk (z:List UInt8)(l h:Nat):(⟨⟨z⟩⟩:ByteArray).extract l h=⟨⟨(z.drop l).take (h-l)⟩⟩:=by apply ByteArray.ext;rw[ByteArray.data_extract];apply xD;simp[List.take_drop]
def gz {q:Nat×Nat×Nat}{c:Nat}(h:c<cl):cj q c=c:=by unfold cj;rw[af aa]
def Cx (a:Addr)(n:Nat):oZ (C a) n=C (a.add n):=by obtain⟨b,o,s⟩:=a;simp only[oZ,dC,lH,Addr.add];split<;>rfl
def aam {α:Type}{o:Option α}(h:adu o=J):o=O:=by cases o<;>simp_all [adu]
def S9 (hE:cW E P){t:TypeId}{lo hi mx:Option Value}(h:fX E s t x lo hi mx=C (v,s')):ay s s'/\∀X A ρ w x' g f i,nK P X A ρ s s' w->VR A ρ x x'->KD A ρ lo g->KD A ρ hi f->KD A ρ mx i->
  cw P X A ρ s s' w v (Instr.sliceAt t x' g f i):=by
 obtain⟨d,hd,h1⟩:=aG h;clear h;have hu:=eA hE hd;split at h1;rename_i z;obtain⟨u,r,h2⟩:=aG h1;cases aF h2;refine⟨ay.refl _,λX A ρ w x' g f i p D L N K=>?_⟩;obtain⟨IW,h3⟩:=bw r;have:=aam IW;subst this;rw[K.none];obtain⟨l,W,m,h4,S,h6,h7,h8⟩:=rB h3;have:=dM h4;subst this;refine cw.pure p ?_ (VR.str _);rw[D.ub];have hb:=h8 A ρ g f O L N (by simp[KD]) P U w (dJ z) (fG _);unfold Instr.sliceAt;simp only[run_bind,run_underlying hu,andThen_ok];unfold Instr.slice;simp only[run_bind,run_underlying hu,andThen_ok,Option.isSome_none,jS,ib];have wm:(⟨⟨z⟩⟩:ByteArray).size=Y z:=rfl;rw[cR] at hb;simp[wm,hb,extract_mk]
 .rename_i elem a len cap;cases OM:II a with
  |false=>rw[OM,ey] at h1;obtain⟨sz,wm,h2⟩:=aG h1;unfold rm at h2;split at h2;rotate_left;cases h2;rename_i b o k;obtain⟨c,e,hg,h3⟩:=IS h2;obtain⟨hc,h4⟩:=bw h3;simp only[ep,lH,mm,cR] at hc;obtain⟨⟨⟨⟨⟨GS,he⟩,Bk⟩,hcu⟩,ho⟩,cg⟩:=hc;subst he GS;have cg:o+len<=Y c:=cg;have ho:o=cap-cl:=ho;(have key:∀(v0:Value)(i0:Nat),((2<=len/\i0=0)\/(len=1/\i0=1))->v0= .slice (C ⟨b,Nat.succ o,C i0⟩) (len-1) (Nat.succ cap)->v=v0->s'=s.aL b->ay s s'/\∀X A ρ w x' g f i,nK P X A ρ s s' w->VR A ρ (.slice (C ⟨b,o,C 0⟩) len cap) x'->KD A ρ (C (.int k (.ofNat 1))) g->KD A ρ O f->KD A ρ O i->cw P X A ρ s s' w v (Instr.sliceAt t x' g f i):=by rintro v0 i0 afh rfl rfl rfl;refine⟨ay.aL s b,λX A ρ w x' g f i p D L N K=>?_⟩;obtain⟨hA,pre,c',rest,r1,r2,r3,r4,r5,r6,r7⟩:=p.st.jo (p.cC b (eP s b)) hg;rw[pw hE wm,sh] at r5;(have F:cj (ρ b) cap=(ρ b).2.1-o:=by unfold cj;rw[ai hcu,ho]);(have afi:cj (ρ b) (Nat.succ cap)=(ρ b).2.1-o-1:=by have h3:Nat.succ cap=cap+1:=rfl;unfold cj;rw[h3,ai aa];omega);rw[N.none,K.none];obtain⟨u',rfl,r⟩:=L.some;rw[r.kJ,D.O1,F];(have hb1:(Instr.sliceBounds J len ((ρ b).2.1-o) (C (.int k (.ofNat 1))) O O).run P w= .ok (1,len,(ρ b).2.1-o) w:=by unfold Instr.sliceBounds;have h0:(1:Nat)<=len:=Bk;simp[Instr.sliceBound,asIntOf,h0];intro hc;exfalso;omega);(have hA2:∀er,Cv A ρ er->er b=ρ b:=λer T=>T b hA);refine cw.same p aq aq (v':=.slice (C ⟨(ρ b).1,(if(ρ b).2.1-o-1=0 then o else o+1)+(ρ b).2.2,O⟩) (len-1) ((ρ b).2.1-o-1)) ?_ λer T=>?_;unfold Instr.sliceAt;simp only[run_bind,run_underlying hu,andThen_ok];unfold Instr.slice;simp only[run_bind,run_underlying hu,andThen_ok,hb1,run_sizeOf hE wm,tC,add_lit];by_cases R:(ρ b).2.1-o=1;simp[R];(have hq2:¬(ρ b).2.1-o-1=0:=by omega);simp[R,hq2,Nat.add_right_comm];(rcases afh with⟨h2,rfl⟩|⟨h2,rfl⟩);rw[ru,hA2 er T,afi,af aa];rw[Ct,hA2 er T,afi];by_cases R:(ρ b).2.1-o-1=0;rw[ai R,ai R];rfl;rw[af R,af R]);rw[dC] at h4;split at h4;rename_i V;have:=aF h4;simp only[cu] at this;exact key _ 0 (.inl ⟨xA V,rfl⟩) rfl this.1 this.2;rename_i V;have:=aF h4;simp only[cu] at this;(have V:len=1:=by obtain h|h:=jc len 2;omega;exact absurd (dQ h) V);subst V;exact key _ 1 (.inr ⟨rfl,rfl⟩) rfl this.1 this.2
  |true=>
  rw[OM,ff] at h1;obtain⟨sz,wm,h2⟩:=aG h1;cases hk:ble cl cap with
  |false=>
   rw[hk,ey] at h2;obtain⟨u,r,h3⟩:=aG h2;cases aF h3;refine⟨ay.refl _,λX A ρ w x' g f i p D L N K=>?_⟩;obtain⟨l,W,m,h4,S,h6,h7,h8⟩:=rB r;have:=dM h4;subst this;(have G:cap<cl:=by obtain h|h:=jc cap cl;exact h;rw[dQ h] at hk;cases hk);have hb:=h8 A ρ g f i L N K P J w cap (fG _);(have hm:(if mx=O then cap else m)=m:=by split;rename_i hmx;exact(S.2 hmx).symm;rfl);rw[hm] at hb;(have Ta:∀a',(Instr.sliceAt t (.slice a' len cap) g f i).run P w= .ok (.slice (if m=l then a' else a'.map (·.add (l*sz))) (W-l) (m-l)) w:=by intro a';unfold Instr.sliceAt;simp only[run_bind,run_underlying hu,andThen_ok];unfold Instr.slice;simp only[run_bind,run_underlying hu,andThen_ok,hb,run_sizeOf hE wm];rfl);(have Q:m-l<cl:=by have:=S.1;omega);cases a with
   |none=>rw[D.j5];refine cw.pure p (Ta O) ?_;simp only[oZ,dC,Option.map_none,ite_self];exact VR.ground aq
   |some a=>
    obtain⟨b,o,q⟩:=a;cases q with
    |some q=>cases OM
    |none=>rw[D.gj,gz G];(refine cw.pure p (Ta _) λer e=>?_);have h1:=(D er e).trans D.self.symm;simp only[eK,Value.slice.injEq,o4,Addr.mk.injEq,tA] at h1;rw[dC,Cx];simp only[lH];by_cases j:m=l;simp only[j,iO,vG];rw[eK,h1.1,show l.sub l=0 from vG l,gz (show 0<cl by decide)];rfl;simp only[j,ib,tC,Addr.add];by_cases Z:l*sz=0;simp only[show mul l sz=0 from Z,Z,iO];rw[eK,h1.1,gz (c:=m.sub l) Q];rfl;simp only[show ¬mul l sz=0 from Z,Z,ib];rw[eK,h1.1,gz (c:=m.sub l) Q];rfl
  |true=>
   rw[hk,ff] at h2;have G:cl<=cap:=xA hk;cases Z:nO lo hi mx with
   |true=>rw[Z,ff] at h2;unfold pj at h2;split at h2;rotate_left;cases h2;rename_i b o;cases aF h2;unfold nO at Z;split at Z;rotate_left;cases Z;rename_i k;refine⟨ay.refl _,λX A ρ w x' g f i p D L N K=>?_⟩;rw[D.gj,L.none,K.none];obtain⟨u',rfl,r⟩:=N.some;rw[r.kJ];refine cw.pure p (v':=.slice (C ⟨(ρ b).1,o,O⟩) 0 (cj (ρ b) cap)) ?_ λer e=>?_;unfold Instr.sliceAt;simp only[run_bind,run_underlying hu,andThen_ok];unfold Instr.slice;simp only[run_bind,run_underlying hu,andThen_ok];(have hb:(Instr.sliceBounds J len (cj (ρ b) cap) O (C (.int k (.ofNat 0))) O).run P w= .ok (0,0,cj (ρ b) cap) w:=by unfold Instr.sliceBounds;(have h0:(Instr.sliceBound (.int k (.ofNat 0)) (cj (ρ b) cap) .sliceAcap).run P w= .ok 0 w:=by unfold Instr.sliceBound;simp[asIntOf]);simp[Instr.sliceBound,asIntOf]);simp only[hb,andThen_ok,run_sizeOf hE wm,tC,add_lit,Am,wu,Nat.sub_zero,ite_self];(try rfl);have h1:=(D er e).trans D.self.symm;simp only[eK,Value.slice.injEq,o4,Addr.mk.injEq,tA,tQ] at h1;rw[eK,h1.1,h1.2]
   |false=>
   rw[Z,ey] at h2;unfold iF at h2;split at h2
   .rename_i b o;obtain⟨c,e,wd,hg,h3⟩:=mq h2;obtain⟨hc,h4⟩:=bw h3;simp only[ep,lH,mm,cR] at hc;obtain⟨⟨⟨hw,he⟩,ho⟩,cg⟩:=hc;subst he;split at h4;rotate_left;rename_i mx0;obtain⟨ahC,h4⟩:=bw h4;obtain⟨u,r,h3⟩:=aG h4;cases aF h3;refine⟨ay.aL s b,λX A ρ w x' g f i p D L N K=>?_⟩;obtain⟨hA,c',rest,fr,r1,r2,r3,r4,r5,r6⟩:=p.st.row (p.cC b (eP s b)) hg;(have hin:(cap-cl)+len<=(ρ b).2.1:=by refine' zad);(have F:cj (ρ b) cap=(ρ b).2.1-(cap-cl):=by unfold cj;rw[ai G]);have hlu:len<cl:=xA ahC;obtain⟨l,W,m,h4,S,h6,h7,h8⟩:=rB r;have:=dM h4;subst this;have hb:=h8 A ρ g f i L N K P J w (cj (ρ b) cap) (by rw[F];omega);simp only[reduceCtorEq,ib] at hb;(have Q:m-l<cl:=by have:=S.1;omega);refine cw.same p aq aq (v':=.slice (if m=l then C ⟨(ρ b).1,o,O⟩ else C ((⟨(ρ b).1,o,O⟩:Addr).add (l*sz))) (W-l) (m-l)) ?_ λer T=>?_;rw[D.gj];unfold Instr.sliceAt;simp only[run_bind,run_underlying hu,andThen_ok];unfold Instr.slice;simp only[run_bind,run_underlying hu,andThen_ok,hb,run_sizeOf hE wm,tC];rfl;rw[dC,Cx];simp only[lH];by_cases j:m=l;simp only[j,iO,vG];rw[eK,T b hA,show l.sub l=0 from vG l,gz (show 0<cl by decide)];rfl;simp only[j,ib,add_lit];rw[eK,T b hA,gz (c:=m.sub l) Q];rfl;obtain⟨l,W,m,S,h6,h7,h7',h8⟩:=rB h4;rw[dC] at S;split at S;rotate_left;rename_i hlh;cases aF S;refine⟨ay.aL s b,λX A ρ w x' g f i p D L N K=>?_⟩;obtain⟨hA,c',rest,fr,r1,r2,r3,r4,r5,r6⟩:=p.st.row (p.cC b (eP s b)) hg;(have hin:(cap-cl)+len<=(ρ b).2.1:=by refine' zad);(have F:cj (ρ b) cap=(ρ b).2.1-(cap-cl):=by unfold cj;rw[ai G]);have hb:=h8 A ρ g f i L N K P J w (cj (ρ b) cap) (by rw[F];omega);rw[K.none] at hb⊢;simp only[iO] at hb;have h77:=h7' (fG _) rfl;(have hll:W=l:=by simp only[km,lH,mm,not_or] at hlh;have:Nat.succ l=l+1:=rfl;omega);refine cw.same p aq aq ?_ (v':=.slice (C ⟨(ρ b).1,if(ρ b).2.1-(cap-cl)-l=0 then o else o+l*sz,O⟩) 0 ((ρ b).2.1-(cap-cl)-l)) λer T=>?_;rw[D.gj];unfold Instr.sliceAt;simp only[run_bind,run_underlying hu,andThen_ok];unfold Instr.slice;simp only[run_bind,run_underlying hu,andThen_ok,hb,run_sizeOf hE wm,tC,add_lit];rw[F,hll];(have hle:l<=(ρ b).2.1-(cap-cl):=by omega);by_cases R:(ρ b).2.1-(cap-cl)=l;simp[R];simp[R];intro h0;omega;rw[K5,T b hA];(have:cj (ρ b) (Nat.add cap l)=(ρ b).2.1-(cap-cl)-l:=by have h3:Nat.add cap l=cap+l:=rfl;unfold cj;rw[h3,ai aa];omega);rw[this];rfl;rename_i hlh;have h9:=S;cases aF h9;refine⟨ay.aL s b,λX A ρ w x' g f i p D L N K=>?_⟩;obtain⟨hA,c',rest,fr,r1,r2,r3,r4,r5,r6⟩:=p.st.row (p.cC b (eP s b)) hg;(have hin:(cap-cl)+len<=(ρ b).2.1:=by refine' zad);(have F:cj (ρ b) cap=(ρ b).2.1-(cap-cl):=by unfold cj;rw[ai G]);have hb:=h8 A ρ g f i L N K P J w (cj (ρ b) cap) (by rw[F];omega);rw[K.none] at hb⊢;simp only[iO] at hb;refine cw.same p aq aq ?_ (v':=.slice (C ⟨(ρ b).1,o+l*sz,O⟩) (W-l) ((ρ b).2.1-(cap-cl)-l)) λer T=>?_;rw[D.gj];unfold Instr.sliceAt;simp only[run_bind,run_underlying hu,andThen_ok];unfold Instr.slice;simp only[run_bind,run_underlying hu,andThen_ok,hb,run_sizeOf hE wm,tC,add_lit];(have hll:l=0\/l<W:=by simpa[B7] using hlh);have h77:=h7' (fG _) rfl;rw[F];by_cases R:(ρ b).2.1-(cap-cl)=l;(have:l=0:=by omega);subst this;simp[R];simp[R];rw[eK,T b hA];(have:cj (ρ b) (Nat.add cap l)=(ρ b).2.1-(cap-cl)-l:=by have h3:Nat.add cap l=cap+l:=rfl;unfold cj;rw[h3,ai aa];omega);rw[this];rfl
   cases h2
 rename_i n elem b o;obtain⟨sz,wm,h3⟩:=aG h1;obtain⟨hn,h4⟩:=bw h3;have hn:n<cl:=xA hn;obtain⟨u,r,S⟩:=aG h4;cases aF S;refine⟨ay.refl _,λX A ρ w x' g f i p D L N K=>?_⟩;obtain⟨l,W,m,h6,h7,h8,h9,h10⟩:=rB r;have:=dM h6;subst this;have hb:=h10 A ρ g f i L N K P U w n (fG _);have hm:(if mx=O then n else m)=m:=by split;rename_i hmx;exact(h7.2 hmx).symm;rfl
 rw[hm] at hb;have Q:m-l<cl:=by have:=h7.1;omega
 rw[D.pE];refine cw.pure p (v':=.slice (C (if m=l then⟨(ρ b).1,o,O⟩ else(⟨(ρ b).1,o,O⟩:Addr).add (l*sz))) (W-l) (m-l)) ?_ λer e=>?_;unfold Instr.sliceAt;simp only[run_bind,run_underlying hu,andThen_ok,Instr.sureAddr,Sem.run_pure,hb,run_sizeOf hE wm];have h1:=(D er e).trans D.self.symm;simp only[na,Value.pointer.injEq,o4,Addr.mk.injEq,tA] at h1;rw[dC,Cx];simp only[lH];by_cases j:m=l;simp only[j,iO,vG];rw[eK,h1,show l.sub l=0 from vG l,gz (show 0<cl by decide)];rfl;simp only[j,ib,add_lit];rw[eK,h1,gz (c:=m.sub l) Q];rfl;cases h1
def GU (off:Nat):∀(vs:aV)(i:Nat)(cs:Array Value),off+i+Y vs<=cs.size->
  (vs.zipIdx i).foldl (λcs (x:Value×Nat)=>cs.setIfInBounds (off+x.2) x.1) cs=⟨cs.toList.take (off+i)++vs++cs.toList.drop (off+i+Y vs)⟩
 |[],i,cs,_=>by simp
 |v::vs,i,cs,h=>by simp only[fS] at h;rw[List.zipIdx_cons,xE,GU off vs (i+1) _ (by simp;omega)];rw[Array.toList_setIfInBounds,show off+(i+1)=off+i+1 by omega,qU _ _ _ (by simp;omega),vV,fS,show off+i+1+Y vs=off+i+(Y vs+1) by omega];simp
def O2 (bT:Nat->Option (Nat×Nat))(p:Nat×Value)(l:List (Nat×Value))(cells:aV):
  rn bT (p::l) cells=ob (bT p.1) λq=>dq (beq (dJ (cT p.2)) q.2)<| ob (fK q.1 (cT p.2) cells) λcs=>rn bT l cs:=rfl
def PR (A:Nat->Prop)(ρ:iw):List (Nat×Value)->List (Nat×Value)->Prop
 |[],l=>l=[]
 |p::ps,l=>∃v' r,l=(p.1,v')::r/\VR A ρ p.2 v'/\PR A ρ ps r
def x5 (bT:Nat->Option (Nat×Nat))(b:Nat->Option (Nat×Nat)):∀(l:List (Nat×Value))(cells:aV){r:aV},rn bT l cells=C r->(∀i q,bT i=C q->b i=C q)->
  ∀A ρ l' a,PR A ρ l l'->LR A ρ cells a->∃k,Instr.fill b ⟨a⟩ l'=C ⟨k⟩/\LR A ρ r k
 |[],cells,r,h,_,A,ρ,l',a,hl,hc=>by have:cells=r:=dM h;subst this;have:l'=[]:=hl;subst this;exact⟨a,rfl,hc⟩
 |p::l,cells,r,h,f,A,ρ,l',a,hl,hc=>by
  rw[O2] at h;obtain⟨q,G,t⟩:=aG h;obtain⟨hb,u⟩:=bw t;obtain⟨cs,e,z⟩:=aG u;obtain⟨v',k,rfl,hv,hr⟩:=hl;rw[jq] at hb e;obtain⟨n,D⟩:=pC _ _ e;have g:=hv.cells;have j:=g.akc;have d:=hc.akc;have cg:Y p.2.cells.toList=q.2:=by simpa using hb
  have c:v'.cells.size=q.2:=by have:=j;simp at this cg;omega
  obtain⟨K,o,F⟩:=x5 bT b l cs z f A ρ k (a.take q.1++v'.cells.toList++a.drop (q.1+Y v'.cells.toList)) hr (by rw[D,j];exact((hc.take q.1).append g).append (hc.drop _));refine⟨K,?_,F⟩;unfold Instr.fill;rw[f _ _ G];obtain⟨off,sz⟩:=q;simp only at c n cg o⊢;rw[af (by simp at n d cg⊢;omega)];rw[<-o];congr 1;have:=GU off v'.cells.toList 0 ⟨a⟩ (by simp at n d cg⊢;omega);simp only[wu] at this;rw[<-this];rw[<-Array.foldl_toList,Array.toList_zipIdx]
def sB (ev a:Operand->Value):∀(l:List (Nat×Operand)),(∀p∈l,VR A ρ (ev p.2) (a p.2))->PR A ρ (sl ev l) (l.map λx=>(x.1,a x.2))
 |[],_=>rfl
 |p::l,h=>⟨a p.2,_,rfl,h p aq,sB ev a l λq b=>h q (by simp[b])⟩
def zk (zs:aV)(n:Nat):vK zs (n+1)=zs++vK zs n:=rfl
def Lb (zs:aV)(n:Nat):Y (vK zs n)=n*Y zs:=by
 induction n with
 |zero=>show([]:aV).length=_;simp
 |succ n ih=>rw[zk,dB,ih,Nat.succ_mul];omega
def Wn (zs:aV)(n:Nat):∀k,k<n*Y zs->(vK zs n)[k]?=zs[k% Y zs]?:=by
 induction n with
 |zero=>intro k h;simp at h
 |succ n ih=>intro k h;rw[Nat.succ_mul] at h;rw[zk];obtain a|a:=jc k (Y zs);rw[tw a,xJ a];rw[wv a,ih _ aa,Nat.mod_eq_sub_mod a]
def RH (z:Value)(n sz:Nat)(a:z.cells.size=sz)(h0:0<sz):(Array.range (n*sz)).map (z.cells[·% z.cells.size]!)=⟨vK z.cells.toList n⟩:=by apply xD;apply Gt;intro k;simp only[Array.toList_map,Array.toList_range,mP];obtain h|h:=jc k (n*sz);rw[Gu h];simp only[tC];rw[Wn _ _ k (by simpa[a] using h)];have hm:k% z.cells.size<z.cells.size:=xG _ aa;simp[hm];rw[mQ (by simpa using h),mQ (by rw[Lb];simpa[a] using h)];rfl
def Aw {zs:aV}(h:∀ρ,zs.map (bZ ρ)=zs)(n:Nat):LR A ρ (vK zs n) (vK zs n):=by
 intro er _;induction n with
 |zero=>show([]:aV).map _=[];rfl
 |succ n ih=>rw[zk,qR,h,ih]
def o9 {z:Value}(h:∀ρ,bZ ρ z=z)(ρ:iw):z.cells.toList.map (bZ ρ)=z.cells.toList:=by rw[<-Cu,h]
def vc {β:Type}{t:Option TypeId}{k:TypeId->Option β}{r:β}(h:elemOf E t k=C r):∃a e,t=C a/\iE E a=C (.slice e)/\k e=C r:=by obtain⟨a,c,f⟩:=aG h;obtain⟨d,g,b⟩:=aG f;split at b;exact⟨a,_,c,g,b⟩;cases b
def GV {c:aV}{e:TypeId}{c':aV}(l k:Nat)(d:k<cl)(a:nK P X A ρ s (s.new (.cells c e U)) w)(hc:LR A ρ c c'){m:Sem Value}
  (hm:m.run P w= .ok (.slice (C ⟨w.heap.size,0,O⟩) l k) (w.alloc (.cells ⟨c'⟩ e))):cw P X A ρ s (s.new (.cells c e U)) w (.slice (C ⟨s.next,0,O⟩) l k) m:=by refine⟨_,_,ρ.at s.next (w.heap.size,Y c,0),hm,?_,?_⟩;have:=VR.slice (A:=cU A s.next (s.new (.cells c e U)).next) (ρ:=ρ.at s.next (w.heap.size,Y c,0)) (b:=s.next) (o:=0) (l:=l) (c:=k) (.inr ⟨fG _,aq⟩);rw[gz d] at this;simpa using this;refine Good.alloc (o:=.cells c e U) (x:=.cells ⟨c'⟩ e) a.st a.dr a.lt (λc=>by simp) aq (iV s _) (fG _) (heap_alloc_new w _) ?_ (Fr.alloc w _);exact⟨c',[],(0,0),aq,hc,(λh=>by cases h),λ_=>⟨.inl ⟨rfl,rfl⟩,fG _⟩⟩
def GW (a:cW E P)(w:World):∀(fs:List Field){pl:List (Nat×Nat)},places E fs=C pl->(fs.mapM λf=>do pure (f.offset,<-sizeOf f.type):Sem (List (Nat×Nat))).run P w= .ok pl w
 |[],pl,h=>by have:=dM h;subst this;simp
 |f::fs,pl,h=>by have b:ob (size E f.type) (λsz=>ob (places E fs) λr=>C ((f.offset,sz)::r))=C pl:=h;obtain⟨sz,c,d⟩:=aG b;obtain⟨r,e,g⟩:=aG d;have:=dM g;subst this;have ih:=GW a w fs e;simp only[tR,run_bind,run_sizeOf a c,Sem.run_pure,andThen_ok,ih]
def Tb (b:cW E P){t:TypeId}{ev:Operand->Value}{ps:List (Nat×Operand)}(h:IL E ev s t ps=C (v,s')):s'=s/\∀A ρ (a:Operand->Value),(∀p∈ps,VR A ρ (ev p.2) (a p.2))->
  ∃v',(∀w,(Instr.build t (ps.map λx=>(x.1,a x.2)).toArray).run P w= .ok v' w)/\VR A ρ v v':=by
 obtain⟨z,k,Q⟩:=aG h;obtain⟨d,hd,j⟩:=aG Q;clear h Q;have hu:=eA b hd;split at j;rename_i fs;obtain⟨pl,G,o⟩:=aG j;obtain⟨cs,c,r⟩:=aG o;cases aF r;refine⟨rfl,λA ρ a g=>?_⟩;obtain⟨N,u,D⟩:=x5 (jH pl) (pl.toArray[·]?) _ _ c (λi q K=>by simpa using K) A ρ _ z.cells.toList (sB ev a ps g) (by rw[jq];exact λer _=>o9 (oD b k) er);refine⟨.agg ⟨N⟩,λw=>?_,VR.agg D⟩;unfold Instr.build;simp only[run_bind,lT b k,andThen_ok,run_underlying hu];have F:((⟨fs⟩:Array Field).mapM λf=>do pure (f.offset,<-sizeOf f.type):Sem (Array (Nat×Nat))).run P w= .ok pl.toArray w:=by have:=GW b w fs G;rw[Array.mapM_eq_mapM_toList];simp only[map_eq_pure_bind,run_bind,this,andThen_ok,Sem.run_pure]
 simp only[F,andThen_ok];simp only[u];rfl;rename_i n e;obtain⟨sz,L,o⟩:=aG j;obtain⟨cs,c,r⟩:=aG o;cases aF r;refine⟨rfl,λA ρ a g=>?_⟩;obtain⟨N,u,D⟩:=x5 (oB sz) (λi=>C (i*sz,sz)) _ _ c (λi q K=>K) A ρ _ z.cells.toList (sB ev a ps g) (by rw[jq];exact λer _=>o9 (oD b k) er);refine⟨.agg ⟨N⟩,λw=>?_,VR.agg D⟩;unfold Instr.build;simp only[run_bind,lT b k,andThen_ok,run_underlying hu,run_sizeOf b L];simp only[u];rfl;cases j
def Cy (g:cW E P){t:TypeId}{n:Nat}{ev:Operand->Value}{ps:List (Nat×Operand)}(h:tX E ev s t n ps=C (v,s')):ay s s'/\∀X A ρ w (a:Operand->Value),nK P X A ρ s s' w->(∀p∈ps,VR A ρ (ev p.2) (a p.2))->
  cw P X A ρ s s' w v (Instr.buildSlice t n (ps.map λx=>(x.1,a x.2)).toArray):=by
 obtain⟨T,e,ht,hd,u⟩:=vc h;have:=dM ht;subst this;obtain⟨sz,r,D⟩:=aG u;obtain⟨z,K,F⟩:=aG D;obtain⟨hc,G⟩:=bw F;obtain⟨cs,d,b⟩:=aG G;cases aF b;clear h u D F G b ht;simp only[ep,lH,mm,cR,jq] at hc;obtain⟨⟨j,c⟩,k⟩:=hc;have hmul:mul n sz=n*sz:=rfl;rw[hmul] at k;have hu:=eA g hd;refine⟨ay.gx s _,λX A ρ w a Q o=>?_⟩;rw[jq] at d;obtain⟨S,b,N⟩:=x5 (oB sz) (λi=>C (i*sz,sz)) _ _ d (λi q R=>R) A ρ _ _ (sB ev a ps o) (Aw (o9 (oD g K)) n);refine GV n n (by simp[cl];have:n<=n*sz:=Gv n c;omega) Q N ?_;unfold Instr.buildSlice;simp only[run_bind,run_underlying hu,andThen_ok,run_sizeOf g r];rw[af aa];have hm:=RH z n sz (by simpa using j) c;by_cases h0:n*sz=0;have hn:n=0:=by obtain h|h:=Nat.mul_eq_zero.1 h0;exact h;omega
 subst hn;simp only[Am,iO,Sem.run_pure,andThen_ok];have L:∀f:Nat->Value,(Array.map f (Array.range 0))=⟨vK z.cells.toList 0⟩:=λf=>by apply xD;show _=([]:aV);simp
 simp only[run_bind,Sem.run_pure,andThen_ok,L,b,pD];simp only[h0,ib,run_bind,lT g K,andThen_ok,Sem.run_pure];rw[hm,b];simp only[run_bind,pD,andThen_ok,Sem.run_pure]
def Fz (d:cW E P){t:TypeId}(h:wB E s t x y=C (v,s')):ay s s'/\∀X A ρ w x' y',nK P X A ρ s s' w->VR A ρ x x'->VR A ρ y y'->cw P X A ρ s s' w v (Instr.makeSlice t x' y'):=by
 obtain⟨L,e,ht,hd,o⟩:=vc h;have:=dM ht;subst this;obtain⟨i,hi,a⟩:=aG o;obtain⟨z,n,b⟩:=aG a;clear h o a ht;split at b;rename_i D l u c;obtain⟨hc,p⟩:=bw b;cases aF p;clear b p;simp only[ep,lH,mm,cR,jq] at hc;obtain⟨⟨⟨⟨F,f⟩,g⟩,j⟩,k⟩:=hc;have hu:=eA d hd;have q:=d.ty _ _ hi;refine⟨ay.gx s _,λX A ρ w x' y' r G K=>?_⟩;rw[G.kJ,K.kJ];rw[jq] at r⊢;refine GV l c (by simp[cl];omega) r (Aw (o9 (d.zs _ _ _ hi n)) c) ?_;have hb:(i.bytes:Int)*(c:Int)<=281474976710656:=by have:i.bytes*c<=1000000*1000000:=Nat.mul_le_mul g f;(have a:((i.bytes*c:Nat):Int)<=281474976710656:=by omega);rwa [Int.natCast_mul] at a
 have:=run_makeSlice (P:=P) w t e i z hu q n D u (l:Int) (c:Int) aa aa;rw[show(Int.ofNat l)=(l:Int) from rfl,show(Int.ofNat c)=(c:Int) from rfl];rw[run_make w t e i z hu q n D u (l:Int) (c:Int) aa aa hb aa];simp only[px];have hm:=RH z c i.size (by simpa using j) k;rw[show madeCells z.cells (c*i.size)=⟨vK z.cells.toList c⟩ from hm];cases b
def aan (h:adv x s=C (v,s')):s'=s/\v=x/\((∃a,x= .pointer (C a))\/∃f a b,x= .func (.func f) a b):=by unfold adv at h;split at h;rename_i a;have:=aF h;simp only[cu] at this;exact⟨this.2.symm▸rfl,this.1▸rfl,.inl ⟨a,rfl⟩⟩;rename_i f a b;have:=aF h;simp only[cu] at this;exact⟨this.2.symm▸rfl,this.1▸rfl,.inr ⟨f,a,b,rfl⟩⟩;cases h
def strCells_eq (l:List UInt8):strCells l=l.map λc=>Value.int .u8 (c.toNat:Int):=by
 induction l with
 |nil=>rfl
 |cons c l ih=>exact congrArg (Value.int .u8 (c.toNat:Int)::·) ih
def j6 (l:List UInt8)(ρ:iw):(strCells l).map (bZ ρ)=strCells l:=by rw[strCells_eq,Gp];apply qo;intro c _;simp
def ez.drew {g:Nat->Option fa}(h:ez P X A ρ g w):ez P X A ρ g w.drew:=⟨h.iC,h.inj⟩
def RI {β:Type}{sz:Nat}{k:Nat->aV->St->Option β}{r:β}(h:Ft s sz x k=C r):∃n new s1,k n new s1=C r/\s1.heap=s.heap/\s1.next=s.next/\s1.wr=s.wr/\ay s s1/\Y new=n*sz/\
  ∀X A ρ w x',(∀b,In s1.cC b->X b)->ez P X A ρ s.heap.get w->VR A ρ x x'->∃f,LR A ρ new f/\f=new.map (bZ ρ)/\
   ∀w2,w2.heap=w.heap->(Builtin.lenOf x').run P w2= .ok n w2/\∀m,m<=n->(firstCells sz m x').run P w2= .ok ⟨f.take (m*sz)⟩ w2:=by
 unfold Ft at h;split at h;rename_i z;obtain⟨a,i⟩:=bw h;have a:sz=1:=by simpa using a
 subst a;refine⟨_,_,s,i,rfl,rfl,rfl,ay.refl s,by rw[strCells_eq];simp,λX A ρ w x' t g d=>⟨strCells z,λer _=>j6 z er,(j6 z ρ).symm,λw2 D=>⟨?_,λm hm=>?_⟩⟩⟩;rw[d.ub,cR];rfl;rw[d.ub];unfold firstCells;simp only[Sem.run_pure,extract_mk,Nat.sub_zero,Ah,sh];congr 1;apply xD;simp[strCells_eq,List.map_take];rename_i n c;obtain⟨a,i⟩:=bw h;have a:n=0:=by simpa using a
 subst a;refine⟨_,_,s,i,rfl,rfl,rfl,ay.refl s,aq,λX A ρ w x' t g d=>⟨[],LR.nil,rfl,λw2 D=>⟨?_,λm hm=>?_⟩⟩⟩;rw[d.j5];rfl;rw[d.j5];simp[firstCells];rename_i b o n c;obtain⟨cs,e,u,N,a⟩:=mq h;obtain⟨new,hn,i⟩:=aG a;rw[mZ] at hn;obtain⟨K,p⟩:=jd hn;rw[fq] at K;have hmul:mul n sz=n*sz:=rfl;rw[hmul] at K p;refine⟨_,_,s.aL b,i,aq,aq,aq,ay.aL s b,by rw[p];simp;omega,λX A ρ w x' t g d=>?_⟩;obtain⟨R,c',rest,fr,Q,L,S,T,V,W⟩:=g.row (t b (eP s b)) N;refine⟨(c'.drop o).take (n*sz),?_,?_,λw2 D=>⟨?_,λm hm=>?_⟩⟩;rw[p];exact(L.drop o).take _;rw[p,<-L.self,List.map_take,Gq];rw[d.gj];rfl;rw[d.gj];unfold firstCells;have G:m*sz<=n*sz:=Ai _ hm;obtain h0|h0:=tG (m*sz);simp only[h0,loadCells,loadCellsFrom,B9];rfl;rw[gy P (by rwa[D]) o (m*sz) (by simp;omega)];congr 1;apply xD;simp only[];rw[Al aa,tP (by simp;omega),KN,tH G];rename_i b o q n c;obtain⟨a,i⟩:=bw h;have a:n=0:=by simpa using a
 subst a;refine⟨_,_,s,i,rfl,rfl,rfl,ay.refl s,aq,λX A ρ w x' t g d=>⟨[],LR.nil,rfl,λw2 D=>⟨?_,λm hm=>?_⟩⟩⟩;obtain⟨a',j⟩:=d.wG;rw[j];rfl;obtain⟨a',j⟩:=d.wG;have F:m=0:=Nat.eq_zero_of_le_zero hm;subst F;rw[j];simp[firstCells,loadCells,loadCellsFrom];cases h
def O3 {e:TypeId}{i:TypeInfo}(hi:P.info? e=C i)(w:World):(typeInfo e).run P w= .ok i w:=by simp[typeInfo,hi]
def gA {d:Array TypeId}{ty t g e:TypeId}{f:TypeDesc}{i:TypeInfo}(h0:d[0]?=C t)(h1:d[1]?=C g)(ht:P.underlying t=C (.slice e))(c:P.underlying g=C f)(b:isInt f=U)(hi:P.info? e=C i)
  {len n cap:Nat}{base:aP}{new:aV}(hl:(Builtin.lenOf x').run P w= .ok n w)(hf:(firstCells i.size n x').run P w= .ok ⟨new⟩ w)(hr:len+n<=cap)
  (hn:base=O->w'=w)(hs:∀a,base=C a->(storeCells (a.add (len*i.size)) new).run P w= .ok () w'):
  (Builtin.append_ d ty #[.slice base len cap,x']).run P w= .ok (.slice base (len+n) cap) w':=by
 cases f<;>first|(cases b;done)|skip
 all_goals
  unfold Builtin.append_;simp only[h0,h1,Gx,List.getElem?_cons_zero,Rn,run_bind,run_underlying ht,run_underlying c,andThen_ok,sizeOf,O3 hi,Sem.run_pure,jS,ib,hl,hr,iO,vO,hf];cases base with
  |none=>simp[hn rfl]
  |some a=>simp[hs a rfl]
def jr {p:Array TypeId}{ty t r e:TypeId}{q:TypeDesc}{i:TypeInfo}{z:Value}(h0:p[0]?=C t)(h1:p[1]?=C r)(ht:P.underlying t=C (.slice e))(o:P.underlying r=C q)(j:isInt q=U)(hi:P.info? e=C i)(F:i.zero=C z)
  {len n cap:Nat}{base:aP}{old new:aV}(hl:(Builtin.lenOf x').run P w= .ok n w)(hf:(firstCells i.size n x').run P w.drew= .ok ⟨new⟩ w.drew)(D:(firstCells i.size len (.slice base len cap)).run P w.drew= .ok ⟨old⟩ w.drew)(hr:¬len+n<=cap)
  (g:len+n<=1000000)(d:i.bytes<=1000000):
  (Builtin.append_ p ty #[.slice base len cap,x']).run P w= .ok (.slice (C ⟨w.heap.size,0,O⟩) (len+n) (grownCap w (len+n) cap e)) (w.drew.alloc (.cells (⟨old⟩++⟨new⟩++Builtin.zeroCells z.cells (grownCap w (len+n) cap e-(len+n))) e)):=by
 have hb:(len+n)*i.bytes<=140737488355328:=by have:(len+n)*i.bytes<=1000000*1000000:=Nat.mul_le_mul g d;omega
 have u:=growslice_fits (need:=len+n) (old:=cap) (bytes:=i.bytes) aa hb;have a:¬(2^ 48<Builtin.nextslicecap (len+n) cap*i.bytes):=by omega
 have b:¬(((len+n:Nat):Int)>IntKind.i64.max):=by have:IntKind.i64.max=9223372036854775807:=rfl;rw[this];omega
 have G:(Question.appendCap (len+n) cap e).forced=U:=rfl;have f:(choose (.appendCap (len+n) cap e)).run P w= .ok (grownCap w (len+n) cap e) w.drew:=by rfl
 have c:∀k,(askRoom k).run P w.drew= .ok () w.drew:=by intro k;unfold askRoom;split<;>simp[mark,Sem.run]
 cases q<;>first|(cases j;done)|skip
 all_goals
  unfold Builtin.append_;simp only[h0,h1,Gx,List.getElem?_cons_zero,Rn,run_bind,run_underlying ht,run_underlying o,andThen_ok,sizeOf,O3 hi,Sem.run_pure,jS,ib,hl,hr,vO,iO,b,false_and,gt_iff_lt,a];simp only[f,c,D,hf,andThen_ok,zeroValue,run_bind,O3 hi,Sem.run_pure,F,pD];rfl
def uf (z:Array Value)(n:Nat):Y (Builtin.zeroCells z n).toList=n*z.size:=by simp[Builtin.zeroCells]
def x6 {c c':aV}{e:TypeId}{i:TypeInfo}{z:Value}{len cap:Nat}(d:nK P X A ρ s (s.new (.cells c e J)) w)(hc:LR A ρ c c')(hi:P.info? e=C i)(f:z.cells.size=i.size)(h0:0<i.size)(hl:Y c=len*i.size)(cg:len<=1000000){m:Sem Value}
  (hm:m.run P w= .ok (.slice (C ⟨w.heap.size,0,O⟩) len (grownCap w len cap e)) (w.drew.alloc (.cells ⟨c'++(Builtin.zeroCells z.cells (grownCap w len cap e-len)).toList⟩ e))):
  cw P X A ρ s (s.new (.cells c e J)) w (bA s len) m:=by
 have a:P.cellsOf e=i.size:=by simp[Program.cellsOf,hi]
 refine' zaL;have:=VR.slice (A:=cU A s.next (s.new (.cells c e J)).next) (ρ:=ρ.at s.next (w.heap.size,grownCap w len cap e,0)) (b:=s.next) (o:=0) (l:=len) (c:=cl) (.inr ⟨fG _,aq⟩);simpa[cj,bA] using this;refine Good.alloc (o:=.cells c e J) (x:=.cells ⟨c'++(Builtin.zeroCells z.cells (grownCap w len cap e-len)).toList⟩ e) d.st d.dr d.lt (λc=>by simp) aq (iV s _) (fG _) (heap_alloc_new w.drew _) ?_ (Fr.zh w _);refine⟨c',_,(0,0),rfl,hc,λ_=>⟨rfl,?_,by rwa[a],hle⟩,λh=>by cases h⟩;rw[uf,f,hl,a,<-mO];congr 1;show len+(grownCap w len cap e-len)=grownCap w len cap e;omega
def Good.IX {s1:St}{er:iw}(h1:s1.heap=s.heap)(h2:s1.next=s.next)(g:Good P X A ρ s1 s' w w' er):Good P X A ρ s s' w w' er:=by obtain⟨a,b,c,d,e,f,g,h⟩:=g;rw[h2] at a b c e f g;rw[h1] at d e f g;exact⟨a,b,c,d,e,f,g,h⟩
def cw.IX {s1:St}{m:Sem Value}(h1:s1.heap=s.heap)(h2:s1.next=s.next)(g:cw P X A ρ s1 s' w v m):cw P X A ρ s s' w v m:=by obtain⟨v',w',er,a,b,c⟩:=g;exact⟨v',w',er,a,by rw[<-h2];exact b,c.IX h1 h2⟩
def nK.IX {s1 s2:St}(h1:s1.heap=s.heap)(h2:s1.next=s.next)(a:∀b,In s2.cC b->In s'.cC b)(h:nK P X A ρ s s' w):nK P X A ρ s1 s2 w:=
 ⟨by rw[h2];exact h.lt,by rw[h1,h2];exact h.dr,λb hb=>h.cC b (a b hb),by rw[h1];exact h.st⟩
def rC {g:Nat}{cs:aV}{e:TypeId}{fr:Nat×Nat}(b:w.heap[g]?=C (.cells ⟨cs⟩ e fr))(a:fr=(0,0)\/Y cs<=fr.1)(o:Nat)(vs:aV)(hl:o+Y vs<=Y cs)(hf:∀v∈vs,flat v=J):
  (storeCells ⟨g,o,O⟩ vs).run P w= .ok () (w.setRow g ⟨cs.take o++vs++cs.drop (o+Y vs)⟩):=by have:=mo P g o e fr vs 0 ⟨cs⟩ w b (by simpa using a) (by simpa using hl) (λv hv=>by rw[<-K7];exact hf v hv);simpa using this
def IY (c' rest a:aV)(k:Nat)(h:Y c'=k):(c'++rest).take k++a++(c'++rest).drop (k+Y a)=(c'++a)++rest.drop (Y a):=by subst h;rw[Ca,KI,xC aa];simp
def RJ (c' rest a:aV)(k:Nat)(h:k+Y a<=Y c'):(c'++rest).take k++a++(c'++rest).drop (k+Y a)=(c'.take k++a++c'.drop (k+Y a))++rest:=by rw[tP aa,Al aa];simp
def Wo (a b:aV)(c:Array Value):((⟨a⟩:Array Value)++(⟨b⟩:Array Value)++c)=⟨a++b++c.toList⟩:=by apply xD;simp
def Lc (hE:cW E P){elem t xt:TypeId}{xd:TypeDesc}{i:TypeInfo}{z:Value}{base:aP}{len cap n:Nat}{new:aV}{s1:St}
  (h:iZ elem i.size base len cap n new s1=C (v,s'))(hi:P.info? elem=C i)(hz:i.zero=C z)(hzs:z.cells.size=i.size)(wm:0<i.size)(hby:i.bytes<=1000000)(V:Y new=n*i.size)(hnf:∀v∈new,flat v=J)(cg:len+n<=1000000)
  (ht:P.underlying t=C (.slice elem))(D:P.underlying xt=C xd)(u:isInt xd=U):
  ay s1 s'/\∀X A ρ w b' x' d (R:Array TypeId) ty,nK P X A ρ s1 s' w->VR A ρ (.slice base len cap) b'->LR A ρ new d->R[0]?=C t->R[1]?=C xt->
   (∀w2,w2.heap=w.heap->(Builtin.lenOf x').run P w2= .ok n w2/\(firstCells i.size n x').run P w2= .ok ⟨d⟩ w2)->cw P X A ρ s1 s' w v (Builtin.append_ R ty #[b',x']):=by
 have hce:P.cellsOf elem=i.size:=by simp[Program.cellsOf,hi]
 unfold iZ at h;split at h;obtain⟨hc,h2⟩:=bw h;simp only[ep,lH] at hc;obtain⟨rfl,rfl⟩:=hc;cases hn:beq n 0 with
 |true=>rw[hn,ff] at h2;(have T:n=0:=by simpa using hn);subst T;cases aF h2;refine⟨ay.refl _,λX A ρ w b' x' d R ty k hb f h0 G q=>?_⟩;rw[hb.j5];have hr:=gA (ty:=ty) (w':=w) h0 G ht D u hi (q w rfl).1 (q w rfl).2 (len:=0) (cap:=0) (base:=O) aa (λ_=>rfl) (λa h=>by cases h);exact cw.pure k hr (VR.ground aq)
 |false=>rw[hn,ey] at h2;(have T:n≠0:=by intro e;subst e;cases hn);cases aF h2;refine⟨ay.gx s1 _,λX A ρ w b' x' d R ty k hb f h0 G q=>?_⟩;rw[hb.j5];have hr:=jr (ty:=ty) h0 G ht D u hi hz (q w rfl).1 (q w.drew rfl).2 (len:=0) (cap:=0) (base:=O) (old:=[]) (by simp[firstCells]) aa aa hby;simp only[kz] at hr;refine x6 (cap:=0) k f hi hzs wm V aa (hr.trans ?_);rw[Wo,kG]
 rename_i b o;obtain⟨c,e,wd,K,h3⟩:=mq h;cases hk:ble cl cap with
 |true=>
  rw[hk,ff] at h3;obtain⟨hc,S⟩:=bw h3;simp only[ep,lH,cR] at hc;obtain⟨⟨⟨hw,he⟩,r⟩,ho⟩:=hc;subst hw he r ho;have hmul:mul len i.size=len*i.size:=rfl;(have F:∀ρ:iw,cj (ρ b) cl=(ρ b).2.1:=λρ=>by simp[cj]);cases hbq:beq (dJ c) (mul len i.size) with
  |false=>
   rw[hbq,ey] at S;obtain⟨old,afj,S⟩:=aG S;obtain⟨h5,h6⟩:=jd afj;rw[hmul] at h5 h6;cases aF S;have hgr:ay s1 (((s1.aL b).put b O).new (.cells (old++new) e J)):=((ay.aL s1 b).trans (ay.put _ b _ (by rw[eT,K];simp))).trans (ay.gx _ _);refine⟨hgr,λX A ρ w b' x' d R ty k hb f h0 G q=>?_⟩;have Z:X b:=k.cC b ((ay.gx _ _).cC b (eL _ b _));obtain⟨hA,c',rest,fr,W,r2,r3,r4,r5,r6⟩:=k.st.row Z K;obtain⟨r7,r8,r9,r10⟩:=r5 rfl;rw[hce] at r8;subst r7;rw[hb.gj,F];have Q:=f.akc;(have VQ:Y (c'.take (len*i.size))=len*i.size:=by rw[de];omega);(have N:LR A ρ (old++new) (c'.take (len*i.size)++d):=by rw[h6];exact(r2.take _).append f);by_cases g:len+n<=(ρ b).2.1;(have afk:len*i.size+n*i.size<=Y c+Y rest:=by rw[r8,<-mO];exact Ai _ g);have FA:=rC (P:=P) W r4 (len*i.size) d (by simp;omega) (f.kr hnf);have hr:=gA (ty:=ty) (w':=w.setRow (ρ b).1 ⟨(c'++rest).take (len*i.size)++d++(c'++rest).drop (len*i.size+Y d)⟩) h0 G ht D u hi (q w rfl).1 (q w rfl).2 (len:=len) (cap:=(ρ b).2.1) (base:=C ⟨(ρ b).1,0,O⟩) g (λh=>by cases h) (λa h=>by have:=dM h;subst this;rwa[add_lit,kz]);refine⟨_,_,ρ.at s1.next (ρ b),hr,?_,?_⟩;have:=VR.slice (A:=cU A s1.next (((s1.aL b).put b O).new (.cells (old++new) e J)).next) (ρ:=ρ.at s1.next (ρ b)) (b:=s1.next) (o:=0) (l:=len+n) (c:=cl) (.inr ⟨fG _,aq⟩);simpa[cj,bA] using this;refine Good.renew (o:=.cells c e J) (o':=.cells (old++new) e J) k.st k.dr k.lt Z K (λc=>by simp) aq ((ay.gx _ _).wr b (ix _ b _)) ?_ (setRow_heap w _ _ _ _ _ W) ?_ (Fr.setRow w _ _);have:=iV ((s1.aL b).put b O) (.cells (old++new) e J);simpa using this;refine⟨c'.take (len*i.size)++d,(c'.drop (len*i.size)++rest).drop (Y d),(0,0),?_,N,λ_=>⟨rfl,?_,r9,r10⟩,λh=>by cases h⟩;rw[show c'++rest=c'.take (len*i.size)++(c'.drop (len*i.size)++rest) by rw[<-iD,vC],IY _ _ d _ VQ];rw[hce,dB,fq,dB,fq,h6,de,tH h5];omega;(have hold:(firstCells i.size len (.slice (C ⟨(ρ b).1,0,O⟩) len (ρ b).2.1)).run P w.drew= .ok ⟨c'.take (len*i.size)⟩ w.drew:=by unfold firstCells;rw[gy P (w:=w.drew) W 0 (len*i.size) (by simp;omega)];rw[Ah,tP aa]);have hr:=jr (ty:=ty) h0 G ht D u hi hz (q w rfl).1 (q w.drew rfl).2 (len:=len) (cap:=(ρ b).2.1) (base:=C ⟨(ρ b).1,0,O⟩) hold g cg hby;have L:Good P X A ρ s1 ((s1.aL b).put b O) w w ρ:=Good.drop (o:=.cells c e J) k.st k.dr (λc=>by simp) aq (ix _ b _) Z K (Fr.refl w _);have hp2:nK P X (cU A s1.next ((s1.aL b).put b O).next) ρ ((s1.aL b).put b O) (((s1.aL b).put b O).new (.cells (old++new) e J)) w:=
    ⟨λj p=>by obtain p|p:=p;have:=k.lt j p;simp;exact this;simp at p;omega,λc hc=>L.dr c hc,k.cC,L.state⟩
   obtain⟨v',w',er,g1,g2,g3⟩:=x6 (cap:=(ρ b).2.1) (m:=Builtin.append_ R ty #[.slice (C ⟨(ρ b).1,0,O⟩) len (ρ b).2.1,x']) hp2 (N.mono (λi hi=>.inl hi) (λ_ _=>rfl)) hi hzs wm (len:=len+n) (by rw[dB,h6,de,tH h5,V,mO]) cg (hr.trans (by rw[Wo]));refine⟨v',w',er,g1,?_,?_⟩;(have:bA ((s1.aL b).put b O) (len+n)=bA s1 (len+n):=by simp[bA]);refine VR.mono (g2) (λj p=>?_) (λ_ _=>rfl);obtain(p|p)|p:=p;exact .inl p;simp at p;omega;exact .inr (by simpa using p);exact Good.trans k.cC ((ay.aL s1 b).trans (ay.put _ b _ (by rw[eT,K];simp))) (ay.gx _ _) k.lt L g3
  |true=>
  rw[hbq,ff] at S;(have Tc:Y c=len*i.size:=by rw[<-cR];exact nN hbq);cases hn:beq n 0 with
  |true=>rw[hn,ff] at S;(have T:n=0:=by simpa using hn);subst T;cases aF S;refine⟨ay.aL s1 b,λX A ρ w b' x' d R ty k hb f h0 G q=>?_⟩;obtain⟨hA,c',rest,fr,W,r2,r3,r4,r5,r6⟩:=k.st.row (k.cC b (eP s1 b)) K;obtain⟨r7,r8,r9,r10⟩:=r5 rfl;rw[hce] at r8;rw[hb.gj,F];have hle:len<=(ρ b).2.1:=acx (c:=i.size) aa wm;have hn':d=[]:=jG (by rw[f.akc,V];omega);have hr:=gA (ty:=ty) (w':=w) h0 G ht D u hi (q w rfl).1 (q w rfl).2 (len:=len) (cap:=(ρ b).2.1) (base:=C ⟨(ρ b).1,0,O⟩) aa (λh=>by cases h) (λa h=>by subst hn';simp[storeCells]);refine cw.same k aq aq hr ?_;have:=VR.slice (A:=A) (ρ:=ρ) (b:=b) (o:=0) (l:=len) (c:=cl) hA;rwa[F] at this
  |false=>
   rw[hn,ey] at S;cases aF S;have hgr:ay s1 (((s1.aL b).put b O).new (.cells (c++new) e J)):=((ay.aL s1 b).trans (ay.put _ b _ (by rw[eT,K];simp))).trans (ay.gx _ _);refine⟨hgr,λX A ρ w b' x' d R ty k hb f h0 G q=>?_⟩;have Z:X b:=k.cC b ((ay.gx _ _).cC b (eL _ b _));obtain⟨hA,c',rest,fr,W,r2,r3,r4,r5,r6⟩:=k.st.row Z K;obtain⟨r7,r8,r9,r10⟩:=r5 rfl;rw[hce] at r8;subst r7;rw[hb.gj,F];have Q:=f.akc;have N:LR A ρ (c++new) (c'++d):=r2.append f;by_cases g:len+n<=(ρ b).2.1;(have afk:len*i.size+n*i.size<=Y c+Y rest:=by rw[r8,<-mO];exact Ai _ g);have FA:=rC (P:=P) W r4 (len*i.size) d (by simp;omega) (f.kr hnf);have hr:=gA (ty:=ty) (w':=w.setRow (ρ b).1 ⟨(c'++rest).take (len*i.size)++d++(c'++rest).drop (len*i.size+Y d)⟩) h0 G ht D u hi (q w rfl).1 (q w rfl).2 (len:=len) (cap:=(ρ b).2.1) (base:=C ⟨(ρ b).1,0,O⟩) g (λh=>by cases h) (λa h=>by have:=dM h;subst this;rwa[add_lit,kz]);refine⟨_,_,ρ.at s1.next (ρ b),hr,?_,?_⟩;have:=VR.slice (A:=cU A s1.next (((s1.aL b).put b O).new (.cells (c++new) e J)).next) (ρ:=ρ.at s1.next (ρ b)) (b:=s1.next) (o:=0) (l:=len+n) (c:=cl) (.inr ⟨fG _,aq⟩);simpa[cj,bA] using this;refine Good.renew (o:=.cells c e J) (o':=.cells (c++new) e J) k.st k.dr k.lt Z K (λc=>by simp) aq ((ay.gx _ _).wr b (ix _ b _)) ?_ (setRow_heap w _ _ _ _ _ W) ?_ (Fr.setRow w _ _);have:=iV ((s1.aL b).put b O) (.cells (c++new) e J);simpa using this;(have ahD:Y c'=len*i.size:=by omega);refine⟨c'++d,rest.drop (Y d),(0,0),?_,N,λ_=>⟨rfl,?_,r9,r10⟩,λh=>by cases h⟩;rw[IY c' rest d _ ahD];rw[hce,dB,fq];omega;(have hold:(firstCells i.size len (.slice (C ⟨(ρ b).1,0,O⟩) len (ρ b).2.1)).run P w.drew= .ok ⟨c'⟩ w.drew:=by unfold firstCells;rw[gy P (w:=w.drew) W 0 (len*i.size) (by simp;omega)];rw[Ah,tP aa,za aa]);have hr:=jr (ty:=ty) h0 G ht D u hi hz (q w rfl).1 (q w.drew rfl).2 (len:=len) (cap:=(ρ b).2.1) (base:=C ⟨(ρ b).1,0,O⟩) hold g cg hby;have L:Good P X A ρ s1 ((s1.aL b).put b O) w w ρ:=Good.drop (o:=.cells c e J) k.st k.dr (λc=>by simp) aq (ix _ b _) Z K (Fr.refl w _);have hp2:nK P X (cU A s1.next ((s1.aL b).put b O).next) ρ ((s1.aL b).put b O) (((s1.aL b).put b O).new (.cells (c++new) e J)) w:=
    ⟨λj p=>by obtain p|p:=p;have:=k.lt j p;simp;exact this;simp at p;omega,λc hc=>L.dr c hc,k.cC,L.state⟩
   obtain⟨v',w',er,g1,g2,g3⟩:=x6 (cap:=(ρ b).2.1) (m:=Builtin.append_ R ty #[.slice (C ⟨(ρ b).1,0,O⟩) len (ρ b).2.1,x']) hp2 (N.mono (λi hi=>.inl hi) (λ_ _=>rfl)) hi hzs wm (len:=len+n) (by rw[dB,Tc,V,mO]) cg (hr.trans (by rw[Wo]));refine⟨v',w',er,g1,?_,?_⟩;(have:bA ((s1.aL b).put b O) (len+n)=bA s1 (len+n):=by simp[bA]);refine VR.mono (g2) (λj p=>?_) (λ_ _=>rfl);obtain(p|p)|p:=p;exact .inl p;simp at p;omega;exact .inr (by simpa using p);exact Good.trans k.cC ((ay.aL s1 b).trans (ay.put _ b _ (by rw[eT,K];simp))) (ay.gx _ _) k.lt L g3
 |false=>
  rw[hk,ey] at h3;(have r:cap<cl:=by obtain h|h:=jc cap cl;exact h;rw[dQ h] at hk;cases hk);cases hr:ble (Nat.add len n) cap with
  |true=>
   rw[hr,ff] at h3;have g:len+n<=cap:=xA hr;cases hn:beq n 0 with
   |true=>rw[hn,ff] at h3;(have T:n=0:=by simpa using hn);subst T;cases aF h3;refine⟨ay.aL s1 b,λX A ρ w b' x' d R ty k hb f h0 G q=>?_⟩;rw[hb.gj,gz r];have hn':d=[]:=jG (by rw[f.akc,V];omega);have hr:=gA (ty:=ty) (w':=w) h0 G ht D u hi (q w rfl).1 (q w rfl).2 (len:=len) (cap:=cap) (base:=C ⟨(ρ b).1,o,O⟩) g (λh=>by cases h) (λa h=>by subst hn';simp[storeCells]);have hA:=(k.st.row (k.cC b (eP s1 b)) K).1;refine cw.same k aq aq hr ?_;have:=VR.slice (A:=A) (ρ:=ρ) (b:=b) (o:=o) (l:=len) (c:=cap) hA;rwa[gz r] at this
   |false=>rw[hn,ey] at h3;obtain⟨cs,hcs,S⟩:=aG h3;cases aF S;obtain⟨h8,h9⟩:=pC _ _ hcs;refine⟨(ay.aL s1 b).trans (ay.put _ b _ (by rw[eT,K];simp)),λX A ρ w b' x' d R ty k hb f h0 G q=>?_⟩;have Z:X b:=k.cC b (eL _ b _);obtain⟨hA,c',rest,fr,W,r2,r3,r4,r5,r6⟩:=k.st.row Z K;rw[hb.gj,gz r];have Q:=f.akc;have Td:Nat.add o (mul len i.size)=o+len*i.size:=rfl;rw[Td] at h8 h9;have FA:=rC (P:=P) W r4 (o+len*i.size) d (by simp;omega) (f.kr hnf);have hr:=gA (ty:=ty) (w':=w.setRow (ρ b).1 ⟨(c'++rest).take (o+len*i.size)++d++(c'++rest).drop (o+len*i.size+Y d)⟩) h0 G ht D u hi (q w rfl).1 (q w rfl).2 (len:=len) (cap:=cap) (base:=C ⟨(ρ b).1,o,O⟩) g (λh=>by cases h) (λa h=>by have:=dM h;subst this;rwa[add_lit]);refine⟨_,_,ρ,hr,?_,?_⟩;have:=VR.slice (A:=cU A s1.next ((s1.aL b).put b (C (.cells cs e wd))).next) (ρ:=ρ) (b:=b) (o:=o) (l:=len+n) (c:=cap) (.inl hA);rwa[gz r] at this;refine Good.bz (o:=.cells c e wd) (o':=.cells cs e wd) k.st k.dr Z K (λc=>by simp) aq (ix _ b _) (setRow_heap w _ _ _ _ _ W) ?_ (Fr.setRow w _ _);(have Tc:Y cs=Y c:=by rw[h9];simp;omega);refine⟨c'.take (o+len*i.size)++d++c'.drop (o+len*i.size+Y d),rest,fr,?_,?_,?_,?_⟩;rw[RJ c' rest d _ aa];rw[h9,Q];exact((r2.take _).append f).append (r2.drop _);rw[Tc];exact r5;rw[Tc];exact r6
  |false=>rw[hr,ey] at h3;(have g:¬len+n<=cap:=λh=>by have:ble (Nat.add len n) cap=J:=dQ h;rw[this] at hr;cases hr);obtain⟨old,hold,S⟩:=aG h3;cases aF S;rw[mZ] at hold;obtain⟨h5,h6⟩:=jd hold;have hmul:mul len i.size=len*i.size:=rfl;rw[hmul] at h5 h6;rw[fq] at h5;refine⟨(ay.aL s1 b).trans (ay.gx _ _),λX A ρ w b' x' d R ty k hb f h0 G q=>?_⟩;have Z:X b:=k.cC b ((ay.gx _ _).cC b (eP s1 b));obtain⟨hA,c',rest,fr,W,r2,r3,r4,r5,r6⟩:=k.st.row Z K;rw[hb.gj,gz r];(have afl:(firstCells i.size len (.slice (C ⟨(ρ b).1,o,O⟩) len cap)).run P w.drew= .ok ⟨(c'.drop o).take (len*i.size)⟩ w.drew:=by unfold firstCells;obtain hz0|hz0:=tG (len*i.size);simp only[hz0,loadCells,loadCellsFrom,B9];rfl;rw[gy P (w:=w.drew) W o (len*i.size) (by simp;omega)];congr 1;apply xD;simp only[];rw[Al aa,tP (by simp;omega)]);have hr:=jr (ty:=ty) h0 G ht D u hi hz (q w rfl).1 (q w.drew rfl).2 (len:=len) (cap:=cap) (base:=C ⟨(ρ b).1,o,O⟩) afl g cg hby;(have N:LR A ρ (old++new) ((c'.drop o).take (len*i.size)++d):=by rw[h6];exact((r2.drop o).take _).append f);(have hol:Y (old++new)=(len+n)*i.size:=by rw[dB,V,h6,de,fq,tH h5,mO]);have hp':nK P X A ρ (s1.aL b) ((s1.aL b).new (.cells (old++new) elem J)) w:=k.IX aq aq (λ_ h=>h);have:=x6 (cap:=cap) (m:=Builtin.append_ R ty #[.slice (C ⟨(ρ b).1,o,O⟩) len cap,x']) hp' N hi hzs wm (len:=len+n) hol cg (hr.trans (by rw[Wo]));have Te:bA (s1.aL b) (Nat.add len n)=bA (s1.aL b) (len+n):=rfl;rw[Te];exact this.IX aq aq
 cases h
def Tf {c c':aV}{e:TypeId}{i:TypeInfo}{z:Value}{len cap:Nat}(d:nK P X A ρ s (s.new (.jo c e)) w)(hc:LR A ρ c c')(hi:P.info? e=C i)(f:z.cells.size=i.size)(h0:0<i.size)(hl:Y c=len*i.size)(cg:len<=1000000){m:Sem Value}
  (hm:m.run P w= .ok (.slice (C ⟨w.heap.size,0,O⟩) len (grownCap w len cap e)) (w.drew.alloc (.cells ⟨c'++(Builtin.zeroCells z.cells (grownCap w len cap e-len)).toList⟩ e))):
  cw P X A ρ s (s.new (.jo c e)) w (gQ s len) m:=by
 have a:P.cellsOf e=i.size:=by simp[Program.cellsOf,hi]
 refine' zaL;have:=VR.mark (A:=cU A s.next (s.new (.jo c e)).next) (ρ:=ρ.at s.next (w.heap.size,grownCap w len cap e,0)) (b:=s.next) (o:=0) (l:=len) (c:=cl) (.inr ⟨fG _,aq⟩);simpa[cj,gQ] using this;refine Good.alloc (o:=.jo c e) (x:=.cells ⟨c'++(Builtin.zeroCells z.cells (grownCap w len cap e-len)).toList⟩ e) d.st d.dr d.lt (λc=>by simp) aq (iV s _) (fG _) (heap_alloc_new w.drew _) ?_ (Fr.zh w _);refine⟨[],c',_,rfl,rfl,hc,?_,by rwa[a],hle⟩;rw[uf,f,hl,a,<-mO];congr 1;show len+(grownCap w len cap e-len)=grownCap w len cap e;omega
def Ld (hE:cW E P){elem t xt:TypeId}{xd:TypeDesc}{i:TypeInfo}{z:Value}{b o len k n P0:Nat}{c old new:aV}{O:fa}{s1:St}
  (hi:P.info? elem=C i)(hz:i.zero=C z)(hzs:z.cells.size=i.size)(D:0<i.size)(W:i.bytes<=1000000)(ON:Y new=n*i.size)(hnf:∀v∈new,flat v=J)(cg:len+n<=1000000)
  (ht:P.underlying t=C (.slice elem))(S:P.underlying xt=C xd)(R:isInt xd=U)(ho:o=k*i.size)(hn1:1<=n)(Bk:1<=len)(L:len*i.size<=Y (c.drop o))(hold:old=(c.drop o).take (len*i.size))
  (Z:s1.heap.get b=C O){X A:Nat->Prop}{ρ:iw}{w:World}{b' x':Value}{d:aV}{V:Array TypeId}{ty:TypeId}
  (p:nK P X A ρ s1 (((s1.aL b).put b none).new (.jo (old++new) elem)) w)
  (hw:∃pre c' rest:aV,w.heap[(ρ b).1]?=C (.cells ⟨pre++(c'++rest)⟩ elem (0,0))/\Y pre=P0/\LR A ρ c c'/\Y c'=Y c/\Y c+Y rest=(ρ b).2.1*i.size/\(ρ b).2.1<=maxLen)
  (hb:b'= .slice (C ⟨(ρ b).1,o+P0,none⟩) len ((ρ b).2.1-k))(f:LR A ρ new d)(h0:V[0]?=C t)(h1:V[1]?=C xt)
  (T:∀w2,w2.heap=w.heap->(Builtin.lenOf x').run P w2= .ok n w2/\(firstCells i.size n x').run P w2= .ok ⟨d⟩ w2):
  cw P X A ρ s1 (((s1.aL b).put b none).new (.jo (old++new) elem)) w (gQ ((s1.aL b).put b none) (len+n)) (Builtin.append_ V ty #[b',x']):=by
 have F:P.cellsOf elem=i.size:=by simp[Program.cellsOf,hi]
 obtain⟨pre,c',rest,r1,r2,r3,r4,r8,r10⟩:=hw;subst hb;have ajN:=f.akc;have hX:X b:=p.cC b ((ay.gx _ _).cC b (eL _ b _));rw[fq] at L;have ahE:1<=len*i.size:=Nat.mul_pos Bk D;have VQ:Y ((c'.drop o).take (len*i.size))=len*i.size:=by rw[de,fq];omega
 have K:LR A ρ (old++new) ((c'.drop o).take (len*i.size)++d):=by rw[hold];exact((r3.drop _).take _).append f
 have G:Y (old++new)=(len+n)*i.size:=by rw[dB,hold,de,fq,tH L,ON,mO]
 have hmk:gQ ((s1.aL b).put b none) (len+n)=gQ s1 (len+n):=by simp[gQ]
 have N:pre++(c'++rest)=(pre++c'.take o++(c'.drop o).take (len*i.size))++(c'.drop (o+len*i.size)++rest):=by
  have e1:c'.take o++((c'.drop o).take (len*i.size)++c'.drop (o+len*i.size))=c':=by rw[<-wx,vC,vC]
  simp only[iD];rw[<-iD ((c'.drop o).take (len*i.size)) (c'.drop (o+len*i.size)) rest,<-iD (c'.take o),e1]
 have Q:Y (pre++c'.take o++(c'.drop o).take (len*i.size))=o+P0+len*i.size:=by rw[dB,dB,VQ,de,r2];omega
 by_cases g:len+n<=(ρ b).2.1-k;have afk:o+(len*i.size+n*i.size)<=Y c+Y rest:=by rw[r8,ho,<-mO,<-mO];exact Ai _ aa
 have FA:=rC (P:=P) r1 (.inl rfl) (o+P0+len*i.size) d (by simp only[dB];omega) (f.kr hnf);have hr:=gA (ty:=ty) (w':=w.setRow (ρ b).1 ⟨(pre++(c'++rest)).take (o+P0+len*i.size)++d++(pre++(c'++rest)).drop (o+P0+len*i.size+Y d)⟩) h0 h1 ht S R hi (T w rfl).1 (T w rfl).2 (len:=len) (cap:=(ρ b).2.1-k) (base:=C ⟨(ρ b).1,o+P0,none⟩) g (λh=>by cases h) (λa h=>by have:=dM h;subst this;rwa[add_lit]);refine⟨_,_,ρ.at s1.next ((ρ b).1,(ρ b).2.1-k,P0+o),hr,?_,?_⟩;have:=VR.mark (A:=cU A s1.next (((s1.aL b).put b none).new (.jo (old++new) elem)).next) (ρ:=ρ.at s1.next ((ρ b).1,(ρ b).2.1-k,P0+o)) (b:=s1.next) (o:=0) (l:=len+n) (c:=cl) (.inr ⟨fG _,aq⟩);rw[hmk];simpa[cj,gQ,Cb P0 o] using this;refine Good.Wh (o:=O) (o':=.jo (old++new) elem) (q:=((ρ b).1,(ρ b).2.1-k,P0+o)) (ρ:=ρ) (by dsimp only) p.st p.dr p.lt hX Z (λc=>by simp) aq ((ay.gx _ _).wr b (ix _ b _)) ?_ (setRow_heap w _ _ _ _ _ r1) ?_ (Fr.setRow w _ _);have:=iV ((s1.aL b).put b none) (.jo (old++new) elem);simpa using this;refine⟨pre++c'.take o,(c'.drop o).take (len*i.size)++d,(c'.drop (o+len*i.size)++rest).drop (Y d),?_,?_,K,?_,by rwa[F],by show(ρ b).2.1-k<=maxLen;omega⟩;rw[N,IY _ _ d _ Q];simp only[iD];show(Y (pre++c'.take o))=P0+o;rw[dB,de,r2];omega;show(Y (old++new))+Y ((c'.drop (o+len*i.size)++rest).drop (Y d))=((ρ b).2.1-k)*P.cellsOf elem;rw[F,G,fq,dB,fq,Nat.sub_mul,<-ho,<-r8,mO];omega;have u:(firstCells i.size len (.slice (C ⟨(ρ b).1,o+P0,none⟩) len ((ρ b).2.1-k))).run P w.drew= .ok ⟨(c'.drop o).take (len*i.size)⟩ w.drew:=by unfold firstCells;rw[gy P (w:=w.drew) r1 (o+P0) (len*i.size) (by simp only[dB];omega)];congr 2;rw[KI,xC aa,kG,r2,Nat.add_sub_cancel,Al aa,tP (by rw[fq];omega)]
 have hr:=jr (ty:=ty) h0 h1 ht S R hi hz (T w rfl).1 (T w.drew rfl).2 (len:=len) (cap:=(ρ b).2.1-k) (base:=C ⟨(ρ b).1,o+P0,none⟩) u g cg W;have r:Good P X A ρ s1 ((s1.aL b).put b none) w w ρ:=Good.drop (o:=O) p.st p.dr (λc=>by simp) aq (ix _ b _) hX Z (Fr.refl w _);have hp2:nK P X (cU A s1.next ((s1.aL b).put b none).next) ρ ((s1.aL b).put b none) (((s1.aL b).put b none).new (.jo (old++new) elem)) w:=
  ⟨λj e=>by obtain e|e:=e;have:=p.lt j e;simp;exact this;simp at e;omega,λc hc=>r.dr c hc,p.cC,r.state⟩
 obtain⟨v',w',er,g1,g2,g3⟩:=Tf (cap:=(ρ b).2.1-k) (m:=Builtin.append_ V ty #[.slice (C ⟨(ρ b).1,o+P0,none⟩) len ((ρ b).2.1-k),x']) hp2 (K.mono (λi hi=>.inl hi) (λ_ _=>rfl)) hi hzs D (len:=len+n) G cg (hr.trans (by rw[Wo]));refine⟨v',w',er,g1,?_,?_⟩;refine VR.mono (g2) (λj e=>?_) (λ_ _=>rfl);obtain(e|e)|e:=e;exact .inl e;simp at e;omega;exact .inr (by simpa using e);exact Good.trans p.cC ((ay.aL s1 b).trans (ay.put _ b _ (by rw[eT,Z];simp))) (ay.gx _ _) p.lt r g3
def IZ (hE:cW E P){elem t xt:TypeId}{xd:TypeDesc}{i:TypeInfo}{z:Value}{base:aP}{len cap n:Nat}{new:aV}{s1:St}
  (h:iU elem i.size base len cap n new s1=C (v,s'))(hi:P.info? elem=C i)(hz:i.zero=C z)(R:z.cells.size=i.size)(L:0<i.size)(D:i.bytes<=1000000)(K:Y new=n*i.size)(G:∀v∈new,flat v=J)(cg:len+n<=1000000)
  (ht:P.underlying t=C (.slice elem))(Q:P.underlying xt=C xd)(N:isInt xd=U):
  ay s1 s'/\∀X A ρ w b' x' d (S:Array TypeId) ty,nK P X A ρ s1 s' w->VR A ρ (.slice base len cap) b'->LR A ρ new d->S[0]?=C t->S[1]?=C xt->
   (∀w2,w2.heap=w.heap->(Builtin.lenOf x').run P w2= .ok n w2/\(firstCells i.size n x').run P w2= .ok ⟨d⟩ w2)->cw P X A ρ s1 s' w v (Builtin.append_ S ty #[b',x']):=by
 have F:P.cellsOf elem=i.size:=by simp[Program.cellsOf,hi]
 unfold iU at h;split at h;rename_i b o;obtain⟨c,e,wd,p,W⟩:=mq h;obtain⟨hc,j⟩:=bw W;simp only[ep,lH,mm] at hc;obtain⟨⟨⟨⟨⟨hw,he⟩,f⟩,ho⟩,r⟩,q⟩:=hc;subst hw he;obtain⟨old,a,j⟩:=aG j;rw[mZ] at a;obtain⟨Z,h6⟩:=jd a;cases aF j;refine⟨((ay.aL s1 b).trans (ay.put _ b _ (by rw[eT,p];simp))).trans (ay.gx _ _),λX A ρ w b' x' d S ty u hb g h0 V hx=>?_⟩;have hX:X b:=u.cC b ((ay.gx _ _).cC b (eL _ b _));obtain⟨hA,c',rest,fr,r1,r2,r3,r4,T,r6⟩:=u.st.row hX p;obtain⟨r7,r8,r9,r10⟩:=T rfl;rw[F] at r8;subst r7;refine Ld (O:=.cells c e J) (P0:=0) hE hi hz R L D K G cg ht Q N (k:=cap-cl) ho r q Z h6 p u ⟨[],c',rest,r1,rfl,r2,r3,r8,r10⟩ ?_ g h0 V hx;rw[hb.gj,wu];unfold cj;rw[ai f];rename_i b o;obtain⟨c,e,p,W⟩:=IS h;obtain⟨hc,j⟩:=bw W;simp only[ep,lH,mm] at hc;obtain⟨⟨⟨⟨he,f⟩,ho⟩,r⟩,q⟩:=hc;subst he;obtain⟨old,a,j⟩:=aG j;rw[mZ] at a;obtain⟨Z,h6⟩:=jd a;cases aF j;refine⟨((ay.aL s1 b).trans (ay.put _ b _ (by rw[eT,p];simp))).trans (ay.gx _ _),λX A ρ w b' x' d S ty u hb g h0 V hx=>?_⟩;have hX:X b:=u.cC b ((ay.gx _ _).cC b (eL _ b _));obtain⟨hA,pre,c',rest,r1,r2,r3,r4,T,r6,r7⟩:=u.st.jo hX p;rw[F] at T;refine Ld (O:=.jo c e) (P0:=(ρ b).2.2) hE hi hz R L D K G cg ht Q N (k:=cap-cl) ho r q Z h6 p u ⟨pre,c',rest,r1,r2,r3,r4,T,r7⟩ ?_ g h0 V hx;rw[hb.O1];unfold cj;rw[ai f];cases h
def O4 (g:cW E P){k:List TypeId}(h:u6 E s k x y=C (v,s')):ay s s'/\∀X A ρ w x' y' ty,nK P X A ρ s s' w->VR A ρ x x'->VR A ρ y y'->cw P X A ρ s s' w v (Builtin.append_ ⟨k⟩ ty #[x',y']):=by
 obtain⟨t,elem,ht,hd,Z⟩:=vc h;obtain⟨xt,K,h2⟩:=aG Z;obtain⟨xd,G,h3⟩:=aG h2;obtain⟨D,h4⟩:=bw h3;obtain⟨i,hi,h5⟩:=aG h4;obtain⟨z,hz,h6⟩:=aG h5;obtain⟨hc,h7⟩:=bw h6;obtain⟨n,new,s1,h8,V,W,e3,R,ajS,F⟩:=RI (P:=P) h7;obtain⟨c,h9⟩:=bw h8;obtain⟨e,f⟩:=bw h9;clear h Z h2 h3 h4 h5 h6 h7 h8 h9;rw[ec] at ht K;simp only[ep,mm,lH,cR,jq] at hc;obtain⟨⟨p,q⟩,r⟩:=hc;have c:Y new=n*i.size:=by simpa using c
 have e:=(rq new).1 e;split at f;rename_i base len cap;obtain⟨cg,d⟩:=bw f;have cg:len+n<=1000000:=xA cg;have hI:=g.ty _ _ hi;have j:ay s1 s'/\∀X A ρ w b' x' a (k:Array TypeId) ty,nK P X A ρ s1 s' w->VR A ρ (.slice base len cap) b'->LR A ρ new a->k[0]?=C t->k[1]?=C xt->
                                                                                                                                (∀w2,w2.heap=w.heap->(Builtin.lenOf x').run P w2= .ok n w2/\(firstCells i.size n x').run P w2= .ok ⟨a⟩ w2)->cw P X A ρ s1 s' w v (Builtin.append_ k ty #[b',x']):=by
                                                                                                                                rw[dC] at d;split at d
                                                                                                                                .exact IZ g d hI hz (by simpa using r) p q c e cg (eA g hd) (eA g G) (by simpa using D)
                                                                                                                                .exact Lc g d hI hz (by simpa using r) p q c e cg (eA g hd) (eA g G) (by simpa using D)
 obtain⟨u,hk⟩:=j;refine⟨R.trans u,λX A ρ w x' y' ty S hx hy=>?_⟩;obtain⟨a,o,h13,L⟩:=F X A ρ w y' (λb hb=>S.cC b (u.cC b hb)) S.st hy;refine(hk X A ρ w x' y' a ⟨k⟩ ty (S.IX V W λ_ h=>h) hx o (by simpa using ht) (by simpa using K) λw2 T=>?_).IX V W;obtain⟨N,Q⟩:=L w2 T;refine⟨N,?_⟩;rw[Q n (fG _),za (by rw[o.akc,c];exact fG _)];cases f
def Wp (hE:cW E P){Q:List TypeId}(h:copyV E s Q x y=C (v,s')):ay s s'/\∀X A ρ w x' y' ty,nK P X A ρ s s' w->VR A ρ x x'->VR A ρ y y'->cw P X A ρ s s' w v (Builtin.copy_ ⟨Q⟩ ty #[x',y']):=by
 unfold copyV at h;split at h;rename_i b o n cap;obtain⟨t,e,ht,hd,h1⟩:=vc h;obtain⟨sz,wm,h2⟩:=aG h1;obtain⟨k,new,s1,W,e1,e2,e3,hg1,ON,F⟩:=RI (P:=P) h2;unfold zc at W;obtain⟨f,h4⟩:=bw W;obtain⟨G,Wq,h5⟩:=aG h4;obtain⟨c,K,wd,hg,h6⟩:=mq h5;obtain⟨cs,Z,h7⟩:=aG h6;cases aF h7;clear h h1 h2 W h4 h5 h6 h7;rw[ec] at ht;have f:=(rq new).1 f;obtain⟨h8,L⟩:=jd Wq;have z:Cp k n=Nat.min k n:=by unfold Cp;rw[dC];simp only[mm];show _=min k n;rw[Nat.min_def]
 rw[z] at h8 L⊢;have hmk:Nat.min k n<=k:=Nat.min_le_left k n;have hmul:mul (Nat.min k n) sz=Nat.min k n*sz:=rfl;rw[hmul] at h8 L;obtain⟨h10,i⟩:=pC _ _ Z;have q:ay s1 ((s1.aL b).put b (C (.cells cs K wd))):=(ay.aL s1 b).trans (ay.put _ b _ (by rw[eT,hg];simp));refine⟨hg1.trans q,λX A ρ w x' y' ty N hx hy=>?_⟩;have hX:X b:=N.cC b (eL _ b _);have g:nK P X A ρ s1 ((s1.aL b).put b (C (.cells cs K wd))) w:=N.IX e1 e2 λ_ h=>h;obtain⟨hA,c',rest,fr,r1,r2,r3,r4,r5,r6⟩:=g.st.row hX hg;obtain⟨a,R,h13,S⟩:=F X A ρ w y' (λj hj=>N.cC j (q.cC j hj)) N.st hy;obtain⟨T,V⟩:=S w rfl;rw[hx.gj];have d:LR A ρ G (a.take (Nat.min k n*sz)):=by rw[L];exact R.take _
 have r:=d.akc;have FA:=rC (P:=P) r1 r4 o (a.take (Nat.min k n*sz)) (by rw[r,dB];omega) (d.kr λu hu=>by rw[L] at hu;exact f u (An hu));have hf:=V _ hmk;have hu:=eA hE hd;have D:(Builtin.copy_ ⟨Q⟩ ty #[.slice (C ⟨(ρ b).1,o,O⟩) n (cj (ρ b) cap),y']).run P w= .ok (.int .i64 (.ofNat (Nat.min k n))) (w.setRow (ρ b).1 ⟨(c'++rest).take o++a.take (Nat.min k n*sz)++(c'++rest).drop (o+Y (a.take (Nat.min k n*sz)))⟩):=by unfold Builtin.copy_;(have ht':(⟨Q⟩:Array TypeId)[0]?=C t:=by simpa using ht);simp only[ht',Gx,List.getElem?_cons_zero,Rn,run_bind,run_underlying hu,andThen_ok,T,run_sizeOf hE wm,hf,FA];rfl
 refine cw.IX e1 e2 ⟨_,_,ρ,D,VR.int _ _,?_⟩;refine Good.bz (o:=.cells c K wd) (o':=.cells cs K wd) g.st g.dr hX hg (λc=>by simp) aq (ix _ b _) (setRow_heap w _ _ _ _ _ r1) ?_ (Fr.setRow w _ _);have p:Y cs=Y c:=by rw[i];simp;omega
 refine⟨c'.take o++a.take (Nat.min k n*sz)++c'.drop (o+Y (a.take (Nat.min k n*sz))),rest,fr,?_,?_,?_,?_⟩;rw[RJ c' rest _ _ aa];rw[i,r];exact((r2.take _).append d).append (r2.drop _);rw[p];exact r5;rw[p];exact r6;cases h
def FB (h:pB x s=C (v,s')):ay s s'/\∀X A ρ w x' d ty,nK P X A ρ s s' w->VR A ρ x x'->cw P X A ρ s s' w v (Builtin.unsafeSliceData_ d ty #[x']):=by
 unfold pB at h;split at h;rename_i b n cap;obtain⟨hc,i⟩:=bw h;obtain⟨c,e,wd,p,j⟩:=mq i;obtain⟨g,k⟩:=bw j;cases aF k;have hc:cap=cl:=by simpa using hc
 subst hc;simp only[ep,mm,cR] at g;obtain⟨rfl,hl⟩:=g;refine⟨ay.aL s b,λX A ρ w x' d ty a f=>?_⟩;obtain⟨o,c',rest,fr,u,z,D,F,r,G⟩:=a.st.row (a.cC b (eP s b)) p;obtain⟨K,t,L,q⟩:=r rfl;rw[f.gj];refine cw.same a aq aq (Lib.run_unsafeSliceData_row w d ty _ n _ ?_) (VR.ptr o);simp only[cj,fG,iO,vG,Nat.sub_zero];rintro h0;rw[h0] at t;omega;cases aF h;refine⟨ay.refl _,λX A ρ w x' d ty a f=>?_⟩;rw[f.j5];exact cw.pure a (Lib.run_unsafeSliceData_nil w d ty _ _) (VR.ground aq);cases h
def O5 (v:Value)(l:aV):xT (v::l)=match v with
  |.int .u8 (.ofNat k)=>dq (ble (Nat.succ k) 256)<| ob (xT l) λr=>C (UInt8.ofNat k::r)
  |_=>O:=rfl
def Cz:∀(l:aV){bs:List UInt8},xT l=C bs->l=strCells bs
 |[],bs,h=>by have:=dM h;subst this;rfl
 |v::l,bs,h=>by rw[O5] at h;split at h;rename_i k;obtain⟨a,b⟩:=bw h;obtain⟨r,c,d⟩:=aG b;have:=dM d;subst this;(have e:k<256:=by simpa[B7] using a);have ih:=Cz l c;rw[strCells_eq,lF,ih,strCells_eq];congr 2;(have:(UInt8.ofNat k).toNat=k:=by simp[UInt8.toNat_ofNat,xJ e]);rw[this];rfl;cases h
def Fr.freeze (w:World)(g n:Nat):Fr w (w.freeze ⟨g,0,O⟩ n) λr=>r=g:=by unfold World.freeze;split;exact Fr.refl w _;refine⟨rfl,rfl,rfl,aq,λr hr a=>?_⟩;simp only[Cc];rw[af (λe=>a e.symm)]
def zl (L:cW E P){R:List TypeId}(h:lQ E R x y s=C (v,s')):ay s s'/\∀X A ρ w x' y' ty,nK P X A ρ s s' w->VR A ρ x x'->VR A ρ y y'->cw P X A ρ s s' w v (Builtin.unsafeString_ ⟨R⟩ ty #[x',y']):=by unfold lQ at h;split at h;rename_i pt it b n;obtain⟨c,e,wd,q,S⟩:=mq h;obtain⟨d,hd,i⟩:=aG S;split at i;rename_i e';obtain⟨sz,z,T⟩:=aG i;obtain⟨hc,V⟩:=bw T;obtain⟨l,hl,W⟩:=aG V;obtain⟨bs,k,Z⟩:=aG W;cases aF Z;simp only[ep,mm,lH] at hc;obtain⟨⟨⟨he,t⟩,hn1⟩,Wq⟩:=hc;subst he t;have hu:=eA L hd;refine⟨(ay.aL s b).trans (ay.put _ b _ (by rw[eT,q];simp)),λX A ρ w x' y' ty f D F=>?_⟩;have N:X b:=f.cC b (eL _ b _);obtain⟨hA,c',rest,fr,Q,r2,r3,r4,r5,r6⟩:=f.st.row N q;rw[D.pE,F.kJ];obtain⟨h7,G⟩:=jd hl;have K:=Cz _ k;(have cg:Y bs=n:=by have:=congrArg List.length K;rw[G,strCells_eq,fH,de] at this;omega);(have r:LR A ρ (strCells bs) (c'.take n):=by rw[<-K,G];exact r2.take n);(have p:c'.take n=strCells bs:=by rw[<-r.self,j6]);have a:=Lib.run_unsafeString_row (P:=P) w pt it ty e hu (by rw[pw L z]) (ρ b).1 (Y (c'++rest)) (by simp[World.shape?,Q]) bs (by rintro rfl;simp at cg;omega) (by rw[dB];omega) aa (λj u hu=>by rw[add_lit,kz,sx Q];(have hj:j<n:=by rw[<-cg];exact(qS.1 hu).1);rw[tw aa];(have:(c'.take n)[j]?=C (.int .u8 (u.toNat:Int)):=by rw[p,strCells_eq];simp[hu]);rwa[xI,ai hj] at this);rw[cg] at a;refine⟨_,_,ρ,a,VR.str _,?_⟩;exact Good.drop (o:=.cells c e wd) f.st f.dr (λc=>by simp) aq (ix _ b _) N q (Fr.freeze w _ n);cases i;cases aF h;refine⟨ay.refl _,λX A ρ w x' y' ty f D F=>?_⟩;have g:=D.self;simp only[zg] at g;rw[<-g,F.kJ];exact cw.pure f (Lib.run_unsafeString_none w _ _ _ O) (VR.str _);cases h
def Lf (bs:List UInt8):∀(cC:List UInt8),(bs.map λb=>(b.toNat:Int)).foldl (λ(r:ByteArray) n=>r.push (UInt8.ofNat n.toNat)) ⟨⟨cC⟩⟩=⟨⟨cC++bs⟩⟩:=by
 induction bs with
 |nil=>intro cC;simp
 |cons b bs ih=>
  intro cC;rw[lF,xE];have:(⟨⟨cC⟩⟩:ByteArray).push (UInt8.ofNat ((b.toNat:Int)).toNat)=⟨⟨cC++[b]⟩⟩:=by apply ByteArray.ext;simp[ByteArray.push]
  rw[this,ih];simp
def Ws (L:cW E P){src dst:TypeId}(h:qq E s src dst x=C (v,s')):ay s s'/\∀X A ρ w x',nK P X A ρ s s' w->VR A ρ x x'->cw P X A ρ s s' w v (convert src dst x'):=by
 obtain⟨ds,hs,h1⟩:=aG h;obtain⟨dd,hd,V⟩:=aG h1;clear h h1;have K:=eA L hs;have G:=eA L hd;split at V;rename_i k0 k k1 n;cases aF V;refine⟨ay.refl _,λX A ρ w x' f D=>cw.pure f (v':=.int k (pz k n)) ?_ (VR.int _ _)⟩;rw[D.kJ,kF];unfold convert;simp only[run_bind,run_underlying K,run_underlying G,andThen_ok];rfl;rename_i e a n c;obtain⟨d,S,Z⟩:=aG V;obtain⟨hb,F⟩:=bw Z;have p:=eA L S;have R:d= .int .u8:=by unfold isByte at hb;split at hb;rfl;cases hb
 subst R;have g:∀w x',(∀s,x'≠ .string s)->(∀k n,x'≠ .int k n)->(convert src dst x').run P w=(Conv.bytesToString x').run P w:=by intro w x' q1 q2;unfold convert;simp only[run_bind,run_underlying K,run_underlying G,andThen_ok];rw[run_underlying p];rfl
 unfold OU at F;split at F;cases aF F;refine⟨ay.refl _,λX A ρ w x' f D=>cw.pure f (v':=.string ⟨⟨[]⟩⟩) ?_ (VR.str _)⟩;rw[D.j5,g w _ aq aq];rfl;rename_i b o;obtain⟨cs,e2,wd,hg,N⟩:=mq F;obtain⟨l,hl,h6⟩:=aG N;obtain⟨bs,hbs,h7⟩:=aG h6;cases aF h7;refine⟨ay.aL s b,λX A ρ w x' f D=>?_⟩;obtain⟨hA,c',rest,fr,r1,r2,r3,r4,r5,r6⟩:=f.st.row (f.cC b (eP s b)) hg;rw[D.gj];rw[mZ] at hl;obtain⟨h8,h9⟩:=jd hl;rw[fq] at h8;have h10:=Cz _ hbs;(have hlr:LR A ρ (strCells bs) ((c'.drop o).take n):=by rw[<-h10,h9];exact(r2.drop o).take n);(have hc':(c'.drop o).take n=strCells bs:=by rw[<-hlr.self,j6]);refine cw.same f aq aq (v':=.string ⟨⟨bs⟩⟩) ?_ (VR.str _);rw[g w _ aq aq];(have afm:(loadCells ⟨(ρ b).1,o,O⟩ n).run P w= .ok ((bs.map λb=>(b.toNat:Int)).map (Value.int .u8)).toArray w:=by obtain h0|h0:=tG n;subst h0;(have:bs=[]:=by have:=congrArg List.length hc';simp[strCells_eq] at this;exact jG this.symm);subst this;rfl;rw[gy P r1 o n (by simp;omega)];rw[Al aa,tP (by simp;omega),hc',strCells_eq,Gp];rfl);rw[run_bytesToString w _ n _ _ afm];have:=Lf bs [];rw[kG] at this;rw[<-this];rfl;rename_i b o q;obtain⟨N,h6⟩:=bw F;have hn:n=0:=nN N;subst hn;cases aF h6;refine⟨ay.refl _,λX A ρ w x' f D=>cw.pure f (v':=.string ⟨⟨[]⟩⟩) ?_ (VR.str _)⟩;obtain⟨a',hx'⟩:=D.wG;rw[hx',g w _ aq aq,run_bytesToString w _ 0 _ [] rfl];rfl;rename_i t b;obtain⟨c,e,wd,hg,Z⟩:=mq V;obtain⟨sz,j,F⟩:=aG Z;obtain⟨hc,N⟩:=bw F;cases aF N;simp only[ep,mm,cR,ra] at hc;obtain⟨⟨rfl,hl⟩,GS⟩:=hc;refine⟨ay.aL s b,λX A ρ w x' f D=>?_⟩;obtain⟨hA,c',rest,fr,r1,r2,r3,r4,r5,r6⟩:=f.st.row (f.cC b (eP s b)) hg;obtain⟨i,hi1,hi2⟩:=BA L j;rw[D.pE];refine cw.same f aq aq (Lib.run_to_unsafe w ⟨(ρ b).1,0,O⟩ K G hi1 aa (e:=e) (cells:=Y (c'++rest)) (by simp[World.shape?,r1]) (by simp;omega)) (VR.ptr hA);rename_i u b;obtain⟨c,e,wd,hg,Z⟩:=mq V;obtain⟨sz,j,F⟩:=aG Z;obtain⟨hc,N⟩:=bw F;cases aF N;simp only[ep,lH,cR,ra] at hc;obtain⟨⟨⟨rfl,hl⟩,he⟩,hu⟩:=hc;subst he hu;refine⟨ay.aL s b,λX A ρ w x' f D=>?_⟩;obtain⟨hA,c',rest,fr,r1,r2,r3,r4,r5,r6⟩:=f.st.row (f.cC b (eP s b)) hg;obtain⟨i,hi1,hi2⟩:=BA L j;rcases(r6 rfl).1 with⟨h7,_⟩|⟨h7,_⟩;subst h7;rw[D.pE];refine cw.same f aq aq (Lib.run_from_unsafe w ⟨(ρ b).1,0,O⟩ K G hi1 (e:=E.Cn) (cells:=2) (by simp[World.shape?,r1,r3,hl]) L.Cn) (VR.ptr hA);exact absurd h7 L.aff;rename_i e z;obtain⟨d,S,Z⟩:=aG V;obtain⟨hb,F⟩:=bw Z;obtain⟨sz,j,N⟩:=aG F;obtain⟨hc,h6⟩:=bw N;cases aF h6;simp only[ep,lH,mm,cR] at hc;obtain⟨rfl,hlz⟩:=hc;have p:=eA L S;have R:d= .int .u8:=by unfold isByte at hb;split at hb;rfl;cases hb
 subst R;refine⟨ay.gx s _,λX A ρ w x' f D=>?_⟩;rw[D.ub];have acD:(⟨⟨z⟩⟩:ByteArray).size=Y z:=rfl;have Rh:=grownCap_ge w (Y z) 0 e;have T:(convert src dst (.string ⟨⟨z⟩⟩)).run P w= .ok (.slice (C ⟨w.heap.size,0,O⟩) (Y z) (grownCap w (Y z) 0 e)) ((w.drew.alloc (.cells ⟨strCells z++replicate (grownCap w (Y z) 0 e-Y z) (.int .u8 0)⟩ e)).freeze ⟨w.heap.size,grownCap w (Y z) 0 e,O⟩ 1):=by unfold convert;simp only[run_bind,run_underlying K,run_underlying G,andThen_ok,run_underlying p];have hch:(choose (.appendCap (Y z) 0 e)).run P w= .ok (grownCap w (Y z) 0 e) w.drew:=rfl;unfold Conv.stringToBytes;rw[acD];simp only[run_bind,hch,andThen_ok,pD];(have ahF:((⟨⟨z⟩⟩:ByteArray).data.map λb=>Value.int .u8 (b.toNat:Int))++Array.replicate (grownCap w (Y z) 0 e-Y z) (Value.int .u8 0)=⟨strCells z++replicate (grownCap w (Y z) 0 e-Y z) (.int .u8 0)⟩:=by apply xD;simp[strCells_eq]);rw[ahF];(have Lh:((w.drew.alloc (.cells ⟨strCells z++replicate (grownCap w (Y z) 0 e-Y z) (.int .u8 0)⟩ e)).shape? w.heap.size)=C (e,grownCap w (Y z) 0 e):=by unfold World.shape?;rw[show w.heap.size=w.drew.heap.size from rfl,heap_alloc_new];simp only[o4,cu,tQ];show(strCells z++replicate (grownCap w (Y z) 0 e-Y z) (Value.int .u8 0)).length=_;rw[dB,sk,strCells_eq,fH];omega);unfold markStringish;have e1:w.drew.heap.size=w.heap.size:=rfl;simp only[run_bind,shape,freeze,Sem.run,e1,Lh,andThen_ok,Sem.run_pure]
 refine⟨_,_,ρ.at s.next (w.heap.size,grownCap w (Y z) 0 e,0),T,?_,?_⟩;have:=VR.slice (A:=cU A s.next (s.new (.cells (strCells z) e U)).next) (ρ:=ρ.at s.next (w.heap.size,grownCap w (Y z) 0 e,0)) (b:=s.next) (o:=0) (l:=Y z) (c:=cl) (.inr ⟨fG _,aq⟩);simpa[cj,bA] using this;refine Good.alloc (o:=.cells (strCells z) e U) (x:=.cells ⟨strCells z++replicate (grownCap w (Y z) 0 e-Y z) (.int .u8 0)⟩ e (grownCap w (Y z) 0 e,grownCap w (Y z) 0 e+1)) f.st f.dr f.lt (λc=>by simp) aq (iV s _) (fG _) ?_ ?_ ?_;unfold World.freeze;rw[af cx];simp only[Cc];rw[ai trivial,show w.heap.size=w.drew.heap.size from rfl,heap_alloc_new];rfl;refine⟨strCells z,_,_,rfl,λer _=>j6 z er,(λh=>by cases h),λ_=>⟨.inr ⟨p,pw L j,?_⟩,by rwa[strCells_eq,fH]⟩⟩;rw[strCells_eq,fH,sk];simp;omega;refine⟨rfl,rfl,rfl,?_,λr hr _=>?_⟩;unfold World.freeze;rw[af cx];simp;unfold World.freeze;rw[af cx];simp only[Cc];rw[af aa];exact(Fr.zh w _).block r hr (λh=>h);rename_i e0 e b o n c;obtain⟨d,S,Z⟩:=aG V;obtain⟨hb,F⟩:=bw Z;obtain⟨cs,e',wd,hg,N⟩:=mq F;obtain⟨sz,j,h6⟩:=aG N;obtain⟨d',ahG,h7⟩:=aG h6;obtain⟨hc,h8⟩:=bw h7;cases aF h8;simp only[ep,lH] at hb hc;obtain⟨hb,rfl⟩:=hb;obtain⟨ZU,rfl⟩:=hc;have he0:e0=e:=by rw[hs] at hd;cases hd;rfl
 subst he0;have h8:∀{d:TypeDesc},isByte d=J->d= .int .u8:=λhb=>by unfold isByte at hb;split at hb;rfl;cases hb
 have R:=h8 hb;subst R;have ahH:=h8 ZU;subst ahH;have p:=eA L S;have ahI:=eA L ahG;refine⟨(ay.aL s b).trans (ay.put _ b _ (by rw[eT,hg];simp)),λX A ρ w x' f D=>?_⟩;have hX:X b:=f.cC b (eL _ b _);obtain⟨hA,c',rest,fr,r1,r2,r3,r4,r5,r6⟩:=f.st.row hX hg;rw[D.gj];have Q:P.cellsOf e'=1:=pw L j;have cg:(⟨c'++rest⟩:Array Value).size=Y cs+Y rest:=by show(c'++rest).length=_;rw[dB,r3]
 have T:(convert src src (.slice (C ⟨(ρ b).1,o,O⟩) n (cj (ρ b) c))).run P w= .ok (.slice (C ⟨(ρ b).1,o,O⟩) n (cj (ρ b) c)) (w.freeze ⟨(ρ b).1,Y cs+Y rest,O⟩ 1):=by unfold convert;simp only[run_bind,run_underlying K,run_underlying G,andThen_ok,run_underlying p];(have Lh:w.shape? (ρ b).1=C (e',Y cs+Y rest):=by unfold World.shape?;rw[r1];simp only[o4,cu,tQ];exact cg);(have heq:(src== src)=J:=by simp);rw[heq];simp only[run_underlying p,andThen_ok];unfold markStringish;simp only[run_bind,shape,freeze,Sem.run,Lh,andThen_ok,Sem.run_pure]
 have hfz:∃W:Nat×Nat,(w.freeze ⟨(ρ b).1,Y cs+Y rest,O⟩ 1).heap[(ρ b).1]?=C (.cells ⟨c'++rest⟩ e' W)/\Y cs+Y rest<=W.1:=by unfold World.freeze;rw[af cx];simp only[Cc];rw[ai trivial,r1];obtain⟨lo,hi⟩:=fr;refine⟨_,rfl,?_⟩;split;exact fG _;rename_i GX;obtain h|h:=r4;cases h;exact absurd GX aq;rw[dB,r3] at h;simp only;simp only at h;omega
 obtain⟨W,hf1,hf2⟩:=hfz;refine⟨_,_,ρ,T,?_,?_⟩;exact VR.slice (.inl hA);refine Good.bz (o:=.cells cs e' wd) (o':=.cells cs e' U) f.st f.dr hX hg (λc=>by simp) aq (ix _ b _) hf1 ?_ ?_;exact⟨c',rest,W,rfl,r2,(λh=>by cases h),λ_=>⟨.inr ⟨ahI,Q,hf2⟩,by
  cases wd with
  |false=>exact(r6 rfl).2
  |true=>have h8:=(r5 rfl).2.1;rw[Q,sh] at h8;omega⟩⟩
 refine⟨rfl,rfl,rfl,?_,λr hr V=>?_⟩;unfold World.freeze;rw[af cx];simp;unfold World.freeze;rw[af cx];simp only[Cc];rw[af (λh=>V h.symm)];cases V
def O6 (t:TypeId):∀X A ρ w,nK P X A ρ s (s.new (.map [])) w->cw P X A ρ s (s.new (.map [])) w (.map (C s.next)) (Instr.makeMap t O):=by intro X A ρ w a;refine⟨.map (C w.heap.size),w.alloc (.map #[] 0),ρ.at s.next (w.heap.size,0,0),rfl,?_,?_⟩;have:=VR.ahA (A:=cU A s.next (s.new (.map [])).next) (ρ:=ρ.at s.next (w.heap.size,0,0)) (b:=s.next) (.inr ⟨fG _,aq⟩);simpa using this;refine Good.alloc (o:=.map []) (x:=.map #[] 0) a.st a.dr a.lt (λc=>by simp) aq (iV s _) (fG _) (heap_alloc_new w _) ?_ (Fr.alloc w _);exact⟨[],0,rfl,LR.nil,LR.nil⟩
def VR.Li {b:Nat}(h:VR A ρ (.map (C b)) v'):v'= .map (C (ρ b).1):=by rw[<-h.self,GQ]
def bytes_beq (a b:List UInt8):((⟨⟨a⟩⟩:ByteArray)== (⟨⟨b⟩⟩:ByteArray))=(a== b):=by have h:((⟨⟨a⟩⟩:ByteArray)== (⟨⟨b⟩⟩:ByteArray))=((⟨a⟩:Array UInt8)== (⟨b⟩:Array UInt8)):=rfl;rw[h,o6];simp
def OT (k:Value)(p:Value×Value)(l:List (Value×Value)):tV k (p::l)=ob (ku k p.1) λb=>bo b (C (C p.2)) (tV k l):=rfl
def zm (k:Value)(p:Value×Value)(l:List (Value×Value)):aaa k (p::l)=ob (ku k p.1) λb=>bo b (C l) (ob (aaa k l) λr=>C (p::r)):=rfl
def GY (k v:Value)(p:Value×Value)(l:List (Value×Value)):OV k v (p::l)=ob (ku k p.1) λb=>bo b (C ((k,v)::l)) (ob (OV k v l) λr=>C (p::r)):=rfl
def IH {k a:Value}{b:Bool}(h:ku k a=C b)(ρ:iw):bZ ρ a=a:=by unfold ku at h;split at h;have:=(ud _ _ _ h).2 ρ;simp[this];simp;simp;cases h
def Lj {x y:Value}(h:lJ x y=C J):x=y:=by
 unfold lJ at h;split at h;rw[kl] at h;simp at h;rw[h];rw[fk] at h;simp at h;rw[h];rename_i a b;cases a<;>cases b<;>first|rfl|cases h
 cases h
def I0 (xs:aV):∀(ys:aV),gi xs ys=C J->xs=ys:=by
 induction xs with
 |nil=>intro ys h;cases ys with
  |nil=>rfl
  |cons y ys=>cases h
 |cons x xs ih=>
  intro ys h;cases ys with
  |nil=>cases h
  |cons y ys=>
   rw[lg] at h;obtain⟨e,f,b⟩:=aG h;obtain⟨r,c,d⟩:=aG b;have a:=dM d;cases e with
   |false=>cases a
   |true=>rw[ff] at a;subst a;rw[Lj f,ih _ c]
def CA {k b:Value}(h:ku k b=C J):b=k:=by unfold ku at h;split at h;rw[I0 _ _ h];obtain⟨c,a⟩:=bw h;have:=vb c;subst this;rw[kl] at a;simp at a;rw[a];rw[fk] at h;simp at h;rw[h];cases h
def sC {kt:TypeId}{d:TypeDesc}{k:Value}(h:wA E kt d k=J):((∃j,d= .int j)/\(∃j n,k= .int j n))\/(d= .string/\∃z,k= .string ⟨⟨z⟩⟩)\/(((∃fs,d= .struct fs)\/∃n e,d= .array n e)/\∃cs,k= .agg ⟨cs⟩/\xS kt cs E.eqs=J):=by unfold wA at h;split at h;exact .inr (.inr ⟨.inl ⟨_,rfl⟩,_,rfl,h⟩);exact .inr (.inr ⟨.inr ⟨_,_,rfl⟩,_,rfl,h⟩);exact .inl ⟨⟨_,rfl⟩,_,_,rfl⟩;rename_i s;obtain⟨⟨z⟩⟩:=s;exact .inr (.inl ⟨rfl,z,rfl⟩);cases h
def ug {kt:TypeId}{d:TypeDesc}{k:Value}(h:wA E kt d k=J):(∀ρ,bZ ρ k=k):=by intro ρ;obtain⟨_,j,n,rfl⟩|⟨_,z,rfl⟩|⟨_,cs,rfl,a⟩:=sC h;simp;simp;simp[K9 a ρ]
def Tg {kt:TypeId}{k e:Value}{b:Bool}{d:TypeDesc}(h:ku k e=C b)(hd:(∃j,d= .int j)/\(∃j n,k= .int j n)\/(d= .string/\∃z,k= .string ⟨⟨z⟩⟩)):Instr.sameNow d k e=C b:=by obtain⟨⟨o,rfl⟩,j,n,rfl⟩|⟨rfl,z,rfl⟩:=hd;unfold ku at h;split at h;simp_all;rename_i p a i a' c;obtain⟨f,g⟩:=bw h;have:=vb f;subst this;have:=dM g;subst this;cases c;simp[Instr.sameNow,kl];simp_all;cases h;unfold ku at h;split at h;simp_all;simp_all;rename_i a b' c;have:=dM h;subst this;cases c;simp[Instr.sameNow,fk,bytes_beq];cases h
def rD (A:Nat->Prop)(ρ:iw)(k:Value)(es:List (Value×Value))(xs:List MapEntry)(i:Nat)(r:Option Value)(a:Option (Nat×Value)):Prop:=match r with
 |none=>a=O/\aaa k es=C es
 |some v=>∃j v',a=C (i+j,v')/\VR A ρ v v'/\(xs[j]?).map (·.key)=C k/\aaa k es=C (es.eraseIdx j)/\∀u,OV k u es=C (es.set j (k,u))
def rD.step {k:Value}{p:Value×Value}{x:MapEntry}{es:List (Value×Value)}{xs:List MapEntry}{i:Nat}{r:Option Value}{c:Option (Nat×Value)}(hb:ku k p.1=C U)(h:rD A ρ k es xs (i+1) r c):rD A ρ k (p::es) (x::xs) i r c:=by
 cases r with
 |none=>obtain⟨a,b⟩:=h;refine⟨a,?_⟩;rw[zm,hb,b];rfl
 |some v=>obtain⟨j,v',a,b,d,e,f⟩:=h;refine⟨j+1,v',by rw[a];congr 2;omega,b,by simpa using d,?_,λu=>?_⟩;rw[zm,hb,e];rfl;rw[GY,hb,f];rfl
def rD.here {k:Value}{p:Value×Value}{x:MapEntry}{es:List (Value×Value)}{xs:List MapEntry}{i:Nat}{v':Value}(hb:ku k p.1=C J)(a:x.key=k)(h:VR A ρ p.2 v'):rD A ρ k (p::es) (x::xs) i (C p.2) (C (i,v')):=by refine⟨0,v',rfl,h,by simp[a],?_,λu=>?_⟩;rw[zm,hb];rfl;rw[GY,hb];rfl
def LR.split {es:List (Value×Value)}{p:Value×Value}{xs:List MapEntry}(h1:LR A ρ ((p::es).map (·.1)) (xs.map (·.key)))(h2:LR A ρ ((p::es).map (·.2)) (xs.map (·.val))):∃x a,xs=x::a/\VR A ρ p.1 x.key/\VR A ρ p.2 x.val/\LR A ρ (es.map (·.1)) (a.map (·.key))/\LR A ρ (es.map (·.2)) (a.map (·.val)):=by
 cases xs with
 |nil=>have:=h1.akc;simp at this
 |cons x xs=>simp only[lF] at h1 h2;obtain⟨u,us,e,hu,d⟩:=h1.iP;simp only[List.cons.injEq] at e;obtain⟨rfl,rfl⟩:=e;obtain⟨h,g,f,c,b⟩:=h2.iP;simp only[List.cons.injEq] at f;obtain⟨rfl,rfl⟩:=f;exact⟨x,xs,rfl,hu,c,d,b⟩
def CB {k:Value}{d:TypeDesc}(hd:(∃j,d= .int j)/\(∃j n,k= .int j n)\/(d= .string/\∃z,k= .string ⟨⟨z⟩⟩)):∀(es:List (Value×Value))(xs:List MapEntry)(i:Nat){r:Option Value},tV k es=C r->LR A ρ (es.map (·.1)) (xs.map (·.key))->LR A ρ (es.map (·.2)) (xs.map (·.val))->
  ∃a,Instr.findNow d k xs i=C a/\rD A ρ k es xs i r a
 |[],xs,i,r,h,h1,h2=>by
  have:=dM h;subst this;cases xs with
  |nil=>exact⟨O,rfl,rfl,rfl⟩
  |cons x xs=>have:=h1.akc;simp at this
 |p::es,xs,i,r,h,h1,h2=>by
  refine' zaR;have hs:=Tg (kt:=0) hb hd;unfold Instr.findNow;rw[hk,hs];cases b with
  |true=>rw[ff] at h3;have:=dM h3;subst this;exact⟨_,rfl,rD.here hb (by rw[hk,CA hb]) hu2⟩
  |false=>rw[ey] at h3;obtain⟨a,c,e⟩:=CB hd es xs (i+1) h3 hus ae5;exact⟨a,c,rD.step hb e⟩
def vW (d:cW E P){kt:TypeId}{cs:aV}(e:xS kt cs E.eqs=J):∀(es:List (Value×Value))(xs:List MapEntry)(i:Nat){r:Option Value},tV (.agg ⟨cs⟩) es=C r->LR A ρ (es.map (·.1)) (xs.map (·.key))->LR A ρ (es.map (·.2)) (xs.map (·.val))->
  ∃a,(∀w,(Instr.findAsking kt (.agg ⟨cs⟩) xs i).run P w= .ok a w)/\rD A ρ (.agg ⟨cs⟩) es xs i r a
 |[],xs,i,r,h,h1,h2=>by
  have:=dM h;subst this;cases xs with
  |nil=>exact⟨O,λw=>rfl,rfl,rfl⟩
  |cons x xs=>have:=h1.akc;simp at this
 |p::es,xs,i,r,h,h1,h2=>by
  refine' zaR;obtain⟨ys,f⟩:∃ys,p.1= .agg ⟨ys⟩:=by revert hb;cases p.1<;>intro hb<;>first|cases hb|(rename_i q;exact⟨q.toList,rfl⟩)
  have c:gi cs ys=C b:=by rwa[f] at hb
  have hs:∀w,(Op.equal kt (.agg ⟨cs⟩) x.key).run P w= .ok b w:=λw=>by rw[hk,f];exact(d.eqs kt cs e ys b c w).1
  cases b with
  |true=>rw[ff] at h3;have:=dM h3;subst this;refine⟨C (i,x.val),λw=>?_,rD.here hb (by rw[hk,CA hb]) hu2⟩;unfold Instr.findAsking;simp only[run_bind,hs,andThen_ok,iO,Sem.run_pure]
  |false=>rw[ey] at h3;obtain⟨a,g,j⟩:=vW d e es xs (i+1) h3 hus ae5;refine⟨a,λw=>?_,rD.step hb j⟩;unfold Instr.findAsking;simp only[run_bind,hs,andThen_ok,jS,ib,g]
def wI (f:cW E P){kt:TypeId}{d:TypeDesc}{k:Value}(hu:P.underlying kt=C d)(g:wA E kt d k=J){es:List (Value×Value)}{xs:List MapEntry}{r:Option Value}(h:tV k es=C r)(h1:LR A ρ (es.map (·.1)) (xs.map (·.key)))(h2:LR A ρ (es.map (·.2)) (xs.map (·.val))):
  ∃a,(∀w,(Instr.findKey kt k xs).run P w= .ok a w)/\rD A ρ k es xs 0 r a:=by
 have go:((∃j,d= .int j)/\(∃j n,k= .int j n)\/(d= .string/\∃z,k= .string ⟨⟨z⟩⟩))->∃a,(∀w,(Instr.findKey kt k xs).run P w= .ok a w)/\rD A ρ k es xs 0 r a:=λhd=>by obtain⟨a,b,c⟩:=CB hd es xs 0 h h1 h2;refine⟨a,λw=>?_,c⟩;unfold Instr.findKey;simp only[run_bind,run_underlying hu,andThen_ok,b,Sem.run_pure]
 obtain hd|hd|⟨hd,cs,rfl,i⟩:=sC g;exact go (.inl hd);exact go (.inr hd);obtain⟨a,b,c⟩:=vW f i es xs 0 h h1 h2;refine⟨a,λw=>?_,c⟩;unfold Instr.findKey;simp only[run_bind,run_underlying hu,andThen_ok];cases xs with
 |nil=>have:=b w;unfold Instr.findNow;simpa[Instr.findAsking] using this
 |cons x xs=>
  have:Instr.findNow d (.agg ⟨cs⟩) (x::xs) 0=O:=by unfold Instr.findNow;obtain⟨fs,rfl⟩|⟨n,e,rfl⟩:=hd<;>rfl
  rw[this];exact b w
def run_checkKey (a:cW E P)(b:Bool){t:TypeId}{d:TypeDesc}{k:Value}(hu:P.underlying t=C d)(c:wA E t d k=J)(w:World):(checkKey b 10000 t k).run P w= .ok () w:=by obtain⟨⟨f,rfl⟩,j,n,rfl⟩|⟨rfl,z,rfl⟩|⟨hd,cs,rfl,e⟩:=sC c;show(checkKey b (9999+1) t _).run P w=_;unfold checkKey;simp only[run_bind,run_underlying hu,andThen_ok];rfl;show(checkKey b (9999+1) t _).run P w=_;unfold checkKey;simp only[run_bind,run_underlying hu,andThen_ok];rfl;exact a.keys t cs e b w
def CC:∀(xs:aV)(ks:List Nat),fA xs ks=J->∀n,(xs.zip xs).all (λ(x,y)=>Instr.sameBits n x y)=J
 |[],_,_,n=>rfl
 |v::xs,[],h,n=>by cases h
 |v::xs,k::ks,h,n=>by
  obtain⟨a,d,b⟩:=nb h;have ih:=CC xs ks b n;have c:k=0\/k=1\/k=2:=by omega
  have:Instr.sameBits n v v=J:=by obtain h|h|h:=c;obtain⟨m,rfl⟩:=zi (a.trans h);simp[Instr.sameBits];obtain⟨m,rfl⟩:=zj (a.trans h);simp[Instr.sameBits,bytes_beq];obtain⟨m,rfl⟩:=wH (a.trans h);simp[Instr.sameBits]
  simpa[this] using ih
def I1 {kt:TypeId}{d:TypeDesc}{k:Value}(b:wA E kt d k=J)(w:World):(Instr.keyThatStays k k).run P w= .ok k w:=by
 have h:Instr.sameBits 10000 k k=J:=by obtain⟨_,j,n,rfl⟩|⟨_,z,rfl⟩|⟨_,cs,rfl,c⟩:=sC b;simp[Instr.sameBits];simp[Instr.sameBits,bytes_beq];obtain⟨ks,_,a⟩:=x4 kt cs _ c;have:=CC cs ks a 9999;show Instr.sameBits (9999+1) (.agg ⟨cs⟩) (.agg ⟨cs⟩)=J;unfold Instr.sameBits;simp only[beq_self_eq_true,wo];exact this
 unfold Instr.keyThatStays;simp only[h,iO,Sem.run_pure]
def uh {o:fa}{es:List (Value×Value)}(h:mapOf o=C es):o= .map es:=by
 cases o with
 |cells c e w=>cases h
 |map a=>have:=dM h;subst this;rfl
 |ji z p=>cases h
 |rl m=>cases h
 |mX ws=>cases h
 |jo c e=>cases h
def O7 (g:cW E P){t:TypeId}{ok:Bool}(h:u7 E s t x y ok=C (v,s')):ay s s'/\∀X A ρ w x' y',nK P X A ρ s s' w->VR A ρ x x'->VR A ρ y y'->cw P X A ρ s s' w v (Instr.lookup t x' y' ok):=by
 obtain⟨d,hd,K⟩:=aG h;clear h;split at K;rename_i kt e b;obtain⟨kd,N,h2⟩:=aG K;obtain⟨a,h3⟩:=bw h2;obtain⟨z,V,h4⟩:=aG h3;obtain⟨o,ho,h5⟩:=aG h4;obtain⟨es,L,h6⟩:=aG h5;obtain⟨r,hr,k⟩:=aG h6;have:=uh L;subst this;have hu:=eA g hd;have i:=eA g N;have q:s'=s.aL b:=by split at k;have:=aF k;simp only[cu] at this;exact this.2.symm▸rfl;have:=aF k;simp only[cu] at this;exact this.2.symm▸rfl
 refine⟨by rw[q];exact ay.aL s b,λX A ρ w x' y' G hx hy=>?_⟩;obtain⟨hA,xo,S,xs,Z,rfl,Q,R⟩:=G.st.iC b _ (G.cC b (by rw[q];exact eP s b)) ho;have T:y'=y:=by rw[<-hy.self,ug a]
 subst T;rw[hx.Li];obtain⟨r',p,c⟩:=wI g i a hr Q R;have f:(getObj (ρ b).1).run P w= .ok (.map ⟨xs⟩ Z) w:=by simp[getObj,Sem.run,S]
 have n:(Instr.findKey kt y' (⟨xs⟩:Array MapEntry).toList).run P w= .ok r' w:=p w;split at k;rename_i u;obtain⟨j,W,rfl,D,_⟩:=c;cases aF k;refine cw.same G aq aq (v':=if ok then .tuple #[W,.bool J] else W) ?_ ?_;unfold Instr.lookup;simp only[run_bind,run_underlying hu,andThen_ok,f,Sem.run_pure,run_checkKey g _ i a,n];cases ok with
 |true=>exact VR.tuple (LR.cons D (LR.cons (VR.bool _) LR.nil))
 |false=>exact D
 obtain⟨c,_⟩:=c;subst c;cases aF k;refine cw.same G aq aq (v':=if ok then .tuple #[z,.bool U] else z) ?_ ?_;unfold Instr.lookup;simp only[run_bind,run_underlying hu,andThen_ok,f,Sem.run_pure,run_checkKey g _ i a,n,lT g V];have F:VR A ρ z z:=VR.ground (oD g V);cases ok with
 |true=>exact VR.tuple (LR.cons F (LR.cons (VR.bool _) LR.nil))
 |false=>exact F
 cases K
def LR.setAt {l l':aV}(h:LR A ρ l l')(hv:VR A ρ v v')(j:Nat):LR A ρ (l.set j v) (l'.set j v'):=λer e=>by rw[KJ,h er e,hv er e]
def modify_eq_set {α:Type}(f:α->α):∀(l:List α)(j:Nat)(x:α),l[j]?=C x->l.modify j f=l.set j (f x)
 |[],j,x,h=>by simp at h
 |y::l,0,x,h=>by simp at h;subst h;simp
 |y::l,j+1,x,h=>by simp at h;simp[modify_eq_set f l j x h]
def Good.BB {b:Nat}{o o':fa}{x x':Obj}(i:nK P X A ρ s (s.put b (C o')) w)(k:s.heap.get b=C o)(j:w.heap[(ρ b).1]?=C x)(d:∀c e f,x≠ .cells c e f)(hr:Bj P A ρ (ρ b) o' x'):
  (setObj (ρ b).1 x').run P w= .ok () {w with heap:=w.heap.setIfInBounds (ρ b).1 x'}/\Good P X A ρ s (s.put b (C o')) w {w with heap:=w.heap.setIfInBounds (ρ b).1 x'} ρ:=by refine⟨by cases x<;>first|(exact absurd rfl (d _ _ _))|(simp[setObj,Sem.run,j]),?_⟩;have a:=(tJ.1 j).1;refine Good.bz (o:=o) (o':=o') (x':=x') i.st i.dr (i.cC b (eL s b _)) k (λc=>by simp) aq (ix s b _) ?_ hr ?_;simp[a];refine⟨rfl,rfl,rfl,aq,λr hr g=>?_⟩;simp only[Array.getElem?_setIfInBounds];rw[af (λe=>g e.symm)]
def FC (Q:cW E P){t:TypeId}{u:Value}(h:sq E s t x y u=C (v,s')):ay s s'/\v= .tuple ⟨[]⟩/\∀X A ρ w x' y' q,nK P X A ρ s s' w->VR A ρ x x'->VR A ρ y y'->VR A ρ u q->∃w' er,(Instr.mapUpdate t x' y' q).run P w= .ok () w'/\Good P X A ρ s s' w w' er:=by
 obtain⟨d,hd,h1⟩:=aG h;clear h;split at h1;rename_i kt e b;obtain⟨kd,hkd,h2⟩:=aG h1;obtain⟨c,h3⟩:=bw h2;obtain⟨o,T,h5⟩:=aG h3;obtain⟨es,GZ,h6⟩:=aG h5;obtain⟨r,hr,h7⟩:=aG h6;have:=uh GZ;subst this;have hu:=eA Q hd;have D:=eA Q hkd;have k:s.heap.get b≠O:=by rw[show s.heap.get b=C (.map es) from T];simp
 split at h7;obtain⟨es2,he2,h8⟩:=aG h7;cases aF h8;refine⟨ay.put s b _ k,rfl,λX A ρ w x' y' q K hx Z L=>?_⟩;obtain⟨hA,xo,p,xs,z,rfl,g,i⟩:=K.st.iC b _ (K.cC b (eL s b _)) T;(have N:y'=y:=by rw[<-Z.self,ug c]);subst N;rw[hx.Li];obtain⟨r',G,j,v2,rfl,hv2,F,ajT,V⟩:=wI Q D c hr g i;have R:es2=es.set j (y',u):=dM (he2.symm.trans (V u));subst R;(have f:(getObj (ρ b).1).run P w= .ok (.map ⟨xs⟩ z) w:=by simp[getObj,Sem.run,p]);obtain⟨x0,W,hk0⟩:=Gy.1 F;have hjl:=(qS.1 W).1;obtain⟨n,a⟩:=Good.BB (x':=.map ⟨xs.set j {x0 with key:=y',val:=q}⟩ z) K T p aq (by refine⟨xs.set j {x0 with key:=y',val:=q},z,rfl,?_,?_⟩;rw[KJ,KJ];exact g.setAt Z j;rw[KJ,KJ];exact i.setAt L j);refine⟨_,ρ,?_,a⟩;unfold Instr.mapUpdate;(have S:(⟨xs⟩:Array MapEntry).modify (0+j) (λe=>{e with key:=y',val:=q})=⟨xs.set j {x0 with key:=y',val:=q}⟩:=by apply xD;rw[Array.toList_modify,kz];simp only;rw[modify_eq_set _ _ _ _ W]);(have hold:(((⟨xs⟩:Array MapEntry)[0+j]?).map (·.key)).getD y'=y':=by rw[kz];simp only[Gx,F,lI]);simp only[run_bind,run_underlying hu,andThen_ok,f,run_checkKey Q _ D c,G,hold,I1 c,S,n];cases aF h7;refine⟨ay.put s b _ k,rfl,λX A ρ w x' y' q K hx Z L=>?_⟩;obtain⟨hA,xo,p,xs,z,rfl,g,i⟩:=K.st.iC b _ (K.cC b (eL s b _)) T;have N:y'=y:=by rw[<-Z.self,ug c]
 subst N;rw[hx.Li];obtain⟨r',G,Th,_⟩:=wI Q D c hr g i;subst Th;have f:(getObj (ρ b).1).run P w= .ok (.map ⟨xs⟩ z) w:=by simp[getObj,Sem.run,p]
 obtain⟨n,a⟩:=Good.BB (x':=.map ((⟨xs⟩:Array MapEntry).push {key:=y',val:=q,born:=z}) (z+1)) K T p aq (by refine⟨xs++[{key:=y',val:=q,born:=z}],z+1,aq,?_,?_⟩;rw[qR,qR];exact g.append (LR.cons Z LR.nil);rw[qR,qR];exact i.append (LR.cons L LR.nil));refine⟨_,ρ,?_,a⟩;unfold Instr.mapUpdate;simp only[run_bind,run_underlying hu,andThen_ok,f,run_checkKey Q _ D c,G,n];cases h1
def aao (h:aab x y s=C (v,s')):s'=s/\∀A ρ x' y' c ty,VR A ρ x x'->VR A ρ y y'->∃v',(∀w,(Builtin.min_ c ty #[x',y']).run P w= .ok v' w)/\VR A ρ v v':=by unfold aab at h;split at h;rename_i k a i b;obtain⟨g,d⟩:=bw h;cases aF d;refine⟨rfl,λA ρ x' y' c ty e f=>⟨_,λw=>?_,VR.int _ _⟩⟩;rw[e.kJ,f.kJ];simp only[Builtin.min_,List.foldlM,Builtin.min2];simp[dC,qV];cases h
def O8 (r:cW E P){t ty:TypeId}{b:Nat}(h:Bw E s t b=C (v,s')):ay s s'/\∀X A ρ w x' k,nK P X A ρ s s' w->VR A ρ (.map (C b)) x'->k[0]?=C t->cw P X A ρ s s' w v (Builtin.len_ k ty #[x']):=by
 obtain⟨d,hd,c⟩:=aG h;clear h;split at c;obtain⟨o,z,p⟩:=aG c;obtain⟨es,e,q⟩:=aG p;have:=uh e;subst this;cases aF q;refine⟨ay.aL s b,λX A ρ w x' k g D i=>?_⟩;obtain⟨F,G,j,xs,n,rfl,f,u⟩:=g.st.iC b _ (g.cC b (eP s b)) z;have cg:Y xs=Y es:=by have:=f.akc;simp at this;omega
 refine cw.same g aq aq (v':=.int .i64 (.ofNat (Y es))) ?_ (by rw[cR];exact VR.int _ _);rw[D.Li];have a:(getObj (ρ b).1).run P w= .ok (.map ⟨xs⟩ n) w:=by simp[getObj,Sem.run,j]
 simp[Builtin.len_,i,run_underlying (eA r hd),a,goInt,cg];cases c
def Ti (D:cW E P){t:TypeId}(h:IJ E s t x=C (v,s')):ay s s'/\∀X A ρ w x',nK P X A ρ s s' w->VR A ρ x x'->cw P X A ρ s s' w v (Instr.range t x'):=by
 obtain⟨d,hd,j⟩:=aG h;clear h;have hu:=eA D hd;split at j;rename_i z;cases aF j;refine⟨ay.gx s _,λX A ρ w x' a n=>?_⟩;refine⟨.pointer (C ⟨w.heap.size,0,O⟩),w.alloc (.stringIter ⟨⟨z⟩⟩ 0),ρ.at s.next (w.heap.size,0,0),?_,?_,?_⟩;rw[n.ub];unfold Instr.range;simp only[run_bind,run_underlying hu,andThen_ok,Sem.run_pure];rfl;have:=VR.ptr (A:=cU A s.next (s.new (.ji z 0)).next) (ρ:=ρ.at s.next (w.heap.size,0,0)) (b:=s.next) (o:=0) (.inr ⟨fG _,aq⟩);simpa using this;refine Good.alloc (o:=.ji z 0) (x:=.stringIter ⟨⟨z⟩⟩ 0) a.st a.dr a.lt (λc=>by simp) aq (iV s _) (fG _) (heap_alloc_new w _) ?_ (Fr.alloc w _);rfl;rename_i kt e b;obtain⟨o,L,r⟩:=aG j;obtain⟨es,k,u⟩:=aG r;have:=uh k;subst this;cases aF u;refine⟨(ay.aL s b).trans (ay.gx _ _),λX A ρ w x' a n=>?_⟩;have g:In ((s.aL b).new (.rl b)).cC b:=(ay.gx (s.aL b) (.rl b)).cC b (eP s b);obtain⟨q,N,p,xs,f,rfl,G,K⟩:=a.st.iC b _ (a.cC b g) L;have i:(getObj (ρ b).1).run P w= .ok (.map ⟨xs⟩ f) w:=by simp[getObj,Sem.run,p]
 have F:b≠s.next:=by have:=a.lt b q;omega
 refine⟨.pointer (C ⟨w.heap.size,0,O⟩),w.alloc (.mapIter (C (ρ b).1) f #[] f),ρ.at s.next (w.heap.size,0,0),?_,?_,?_⟩;rw[n.Li];unfold Instr.range;simp only[run_bind,run_underlying hu,andThen_ok,Sem.run_pure,i];rfl;have:=VR.ptr (A:=cU A s.next ((s.aL b).new (.rl b)).next) (ρ:=ρ.at s.next (w.heap.size,0,0)) (b:=s.next) (o:=0) (.inr ⟨fG _,aq⟩);simpa using this;refine Good.alloc (o:=.rl b) (x:=.mapIter (C (ρ b).1) f #[] f) a.st a.dr a.lt (λc=>by simp) aq (by have:=iV (s.aL b) (.rl b);simpa using this) (fG _) (heap_alloc_new w _) ?_ (Fr.alloc w _);exact⟨q,f,f,rfl⟩;cases j
def I2 (z:List UInt8)(p:Nat)(c:UInt8)(h:z[p]?=C c)(hc:c.toNat<128):Utf8.decode ⟨⟨z⟩⟩ p=(c.toNat,1):=by
 unfold Utf8.decode;have a:p<Y z:=(qS.1 h).1;have h0:((⟨⟨z⟩⟩:ByteArray).get! (p+0)).toNat=c.toNat:=by
  have:(⟨⟨z⟩⟩:ByteArray).get! (p+0)=c:=by show(⟨z⟩:Array UInt8)[p+0]! =c;rw[wu];simp[getElem!_def,h]
  rw[this]
 simp only[h0];rw[ai aa]
def Wt (hE:cW E P){str:Bool}(h:GM s x str=C (v,s')):ay s s'/\∀X A ρ w x' ty,nK P X A ρ s s' w->VR A ρ x x'->cw P X A ρ s s' w v (Instr.next x' str ty):=by
 unfold GM at h;split at h;rename_i b;obtain⟨o,t,L⟩:=aG h;clear h;have K:s.heap.get b=C o:=t;split at L;rename_i z p;obtain⟨i,q⟩:=bw L;subst i;unfold Av at q;split at q;rename_i D;rw[ec] at D;cases aF q;refine⟨ay.aL s b,λX A ρ w x' ty g u=>?_⟩;obtain⟨Q,F,f,d⟩:=g.st.iC b _ (g.cC b (eP s b)) t;have d:F= .stringIter ⟨⟨z⟩⟩ p:=d;subst d;(have e:(getObj (ρ b).1).run P w= .ok (.stringIter ⟨⟨z⟩⟩ p) w:=by simp[getObj,Sem.run,f]);refine cw.same g aq aq (v':=.tuple #[.bool U]) ?_ (VR.tuple (LR.cons (VR.bool _) LR.nil));rw[u.pE];(have n:¬p<(⟨⟨z⟩⟩:ByteArray).size:=by have Z:(⟨⟨z⟩⟩:ByteArray).size=Y z:=rfl;have:=List.getElem?_eq_none_iff.1 D;omega);unfold Instr.next;simp only[run_bind,e,andThen_ok,af n,Sem.run_pure];rename_i c D;rw[ec] at D;rw[dC] at q;split at q;rename_i hc;have R:c.toNat<128:=xA hc;cases aF q;refine⟨ay.put s b _ (by rw[K];simp),λX A ρ w x' ty g u=>?_⟩;obtain⟨Q,F,f,d⟩:=g.st.iC b _ (g.cC b (eL s b _)) t;have d:F= .stringIter ⟨⟨z⟩⟩ p:=d;subst d;(have e:(getObj (ρ b).1).run P w= .ok (.stringIter ⟨⟨z⟩⟩ p) w:=by simp[getObj,Sem.run,f]);obtain⟨k,j⟩:=Good.BB (x':=.stringIter ⟨⟨z⟩⟩ (p+1)) g t f aq (show Bj P A ρ (ρ b) (.ji z (Nat.succ p)) _ from rfl);refine⟨.tuple #[.bool J,.int .i64 (.ofNat p),.int .i32 (.ofNat c.toNat)],_,ρ,?_,VR.tuple (LR.cons (VR.bool _) (LR.cons (VR.int _ _) (LR.cons (VR.int _ _) LR.nil))),j⟩;rw[u.pE];have n:p<(⟨⟨z⟩⟩:ByteArray).size:=(qS.1 D).1;unfold Instr.next;simp only[run_bind,e,andThen_ok,ai n,I2 z p c D R,k,Sem.run_pure];rfl;cases aF q;refine⟨ay.put s b _ (by rw[K];simp),λX A ρ w x' ty g u=>?_⟩;obtain⟨Q,F,f,d⟩:=g.st.iC b _ (g.cC b (eL s b _)) t;have d:F= .stringIter ⟨⟨z⟩⟩ p:=d;subst d;(have e:(getObj (ρ b).1).run P w= .ok (.stringIter ⟨⟨z⟩⟩ p) w:=by simp[getObj,Sem.run,f]);obtain⟨k,j⟩:=Good.BB (x':=.stringIter ⟨⟨z⟩⟩ (p+(Utf8.decode ⟨⟨z⟩⟩ p).2)) g t f aq (show Bj P A ρ (ρ b) (.ji z (Nat.add p (Utf8.decode ⟨⟨z⟩⟩ p).2)) _ from rfl);refine⟨.tuple #[.bool J,.int .i64 (.ofNat p),.int .i32 (.ofNat (Utf8.decode ⟨⟨z⟩⟩ p).1)],_,ρ,?_,VR.tuple (LR.cons (VR.bool _) (LR.cons (VR.int _ _) (LR.cons (VR.int _ _) LR.nil))),j⟩;rw[u.pE];have n:p<(⟨⟨z⟩⟩:ByteArray).size:=(qS.1 D).1;unfold Instr.next;simp only[run_bind,e,andThen_ok,ai n,k,Sem.run_pure];rfl;rename_i m;obtain⟨i,q⟩:=bw L;(have i:str=U:=by simpa using i);subst i;obtain⟨o2,V,Z⟩:=aG q;obtain⟨es,S,N⟩:=aG Z;have:=uh S;subst this;split at N;cases aF N;refine⟨(ay.aL s b).trans (ay.aL _ m),λX A ρ w x' ty g u=>?_⟩;have G:In ((s.aL b).aL m).cC b:=(ay.aL (s.aL b) m).cC b (eP s b);obtain⟨Q,F,f,hAm,since,bW,rfl⟩:=g.st.iC b _ (g.cC b G) t;obtain⟨hA2,xo2,d,xs,ck,rfl,T,hl2⟩:=g.st.iC m _ (g.cC m (eP (s.aL b) m)) V;have W:xs=[]:=by
  have:=T.akc;cases xs with
  |nil=>rfl
  |cons a l=>simp at this
 subst W;(have e:(getObj (ρ b).1).run P w= .ok (.mapIter (C (ρ m).1) since #[] bW) w:=by simp[getObj,Sem.run,f]);(have r:(getObj (ρ m).1).run P w= .ok (.map #[] ck) w:=by simp[getObj,Sem.run,d]);refine cw.same g aq aq (v':=.tuple #[.bool U]) ?_ (VR.tuple (LR.cons (VR.bool _) LR.nil));rw[u.pE];unfold Instr.next;simp[e,r,Question.forced];cases N;cases L;cases h
variable {call:gw}{o:Oper}{ev:Operand->Value}
abbrev oT (P:Program)(X A:Nat->Prop)(ρ:iw)(s s':St)(w:World)(v v':Value)(w':World):Prop:=∃er,VR (cU A s.next s'.next) er v v'/\Good P X A ρ s s' w w' er
def js (P:Program)(f:FuncId)(args:Array Value)(w:World)(R:Value->World->Prop):Prop:=
 (∃v w',(callFunc f args).run P w= .ok (.value v) w'/\R v w')\/(∃g a w',(callFunc f args).run P w= .ok (.enter g a) w'/\Calls P g a w' λe b=>∃v,e= .returned v/\R v b)
def dW (P:Program)(call:gw):Prop:=∀f args s v s',call f args s=C (v,s')->ay s s'/\∀X A ρ w a,nK P X A ρ s s' w->Gl A ρ->LR A ρ args a->js P f ⟨a⟩ w λv' w'=>oT P X A ρ s s' w v v' w'
def afn (P:Program)(o:Oper)(ev:Operand->Value)(s s':St)(v:Value):Prop:=
 ay s s'/\∀X A ρ w (a:Act)(Q:Exit->Act->World->Prop),nK P X A ρ s s' w->Gl A ρ->(∀x∈o.op.operands,VR A ρ (ev x) (a.eval x))->o.wp P a w (λa' w'=>∃v',a'=a.put o.dst v'/\oT P X A ρ s s' w v v' w') Q
def dx {a:Act}{Q:Exit->Act->World->Prop}{m:Sem Value}(e:execOp a.eval o=(do pure (.value (<-m))))(h:cw P X A ρ s s' w v m):o.wp P a w (λa' w'=>∃v',a'=a.put o.dst v'/\oT P X A ρ s s' w v v' w') Q:=by obtain⟨v',w',er,b,c,d⟩:=h;unfold Oper.wp;rw[e];simp only[run_bind,b,andThen_ok,Sem.run_pure,Oper.upon];exact⟨v',rfl,er,c,d⟩
def RL {a:Act}{Q:Exit->Act->World->Prop}{m:Sem Unit}(d:execOp a.eval o=(do m;pure .skip))(hv:v= .tuple ⟨[]⟩)(h:∃w' er,m.run P w= .ok () w'/\Good P X A ρ s s' w w' er):o.wp P a w (λa' w'=>∃v',a'=a.put o.dst v'/\oT P X A ρ s s' w v v' w') Q:=by obtain⟨w',er,b,c⟩:=h;unfold Oper.wp;rw[d];simp only[run_bind,b,andThen_ok,Sem.run_pure,Oper.upon];exact⟨undef,rfl,er,by rw[hv];exact VR.undef,c⟩
def wp_pure {a:Act}{Q:Exit->Act->World->Prop}(c:(execOp a.eval o).run P w= .ok (.value v') w)(b:nK P X A ρ s s w)(hv:VR A ρ v v'):o.wp P a w (λa' w'=>∃v',a'=a.put o.dst v'/\oT P X A ρ s s w v v' w') Q:=by unfold Oper.wp;rw[c];exact⟨v',rfl,ρ,hv.mono (λi hi=>.inl hi) (λ_ _=>rfl),Good.refl b.st b.dr⟩
def VR.aap {t:TypeId}{x:Value}(h:VR A ρ (.iface t x) v'):∃x',v'= .iface t x'/\VR A ρ x x':=by refine⟨bZ ρ x,by rw[<-h.self];simp[bZ],λer e=>?_⟩;have a:=h er e;have b:=h.self;rw[<-b] at a;simpa[bZ] using a
def VR.iface {t:TypeId}{x x':Value}(h:VR A ρ x x'):VR A ρ (.iface t x) (.iface t x'):=λer e=>by have:=h er e;simp[bZ,this]
def I3 {lo:Option Operand}{a:Act}(h:∀x,lo=C x->VR A ρ (ev x) (a.eval x)):KD A ρ (dN ev lo) (lo.map a.eval):=by
 cases lo with
 |none=>simp[dN,KD]
 |some x=>exact h x rfl
def I4 {l:List Operand}{a:Act}(h:∀x∈l,VR A ρ (ev x) (a.eval x)):LR A ρ (Bi ev l) (l.map a.eval):=by
 rw[u9];induction l with
 |nil=>exact LR.nil
 |cons x xs ih=>exact LR.cons (h x aq) (ih λy b=>h y (by simp[b]))
def Tj (p:dW P call){f:Value}{args:aV}(h:zd call f args s=C (v,s')):ay s s'/\∀X A ρ w d a,nK P X A ρ s s' w->Gl A ρ->VR A ρ f d->LR A ρ args a->
  ∃g first cap,d= .func (.func g) ⟨first⟩ ⟨cap⟩/\js P g ⟨first++(a++cap)⟩ w λv' w'=>oT P X A ρ s s' w v v' w':=by
 unfold zd at h;split at h;rename_i g first cap
 obtain⟨k,n⟩:=p _ _ _ _ _ h;refine⟨k,λX A ρ w d a q e hf ha=>?_⟩;obtain⟨b,c,rfl,i,j⟩:=hf.Cw;exact⟨g,b,c,rfl,n X A ρ w _ q e (i.append (ha.append j))⟩;cases h
def Tk (G:cW E P)(S:dW P call){c:Call}(h:OW E call ev s c=C (v,s'))(dst:Option Tmp)(type:TypeId)(pos:String)(after:Array Edge)(guard:Option (Nat×Bool)):afn P ⟨dst,.call c,type,pos,after,guard⟩ ev s s' v:=by
 obtain⟨callee,args,argTypes⟩:=c;unfold OW at h;cases callee with
 |invoke r m=>cases h
 |value f=>
  simp only at h;obtain⟨p,k⟩:=Tj S h;refine⟨p,λX A ρ w a Q n j i=>?_⟩;have d:∀x∈args.toList,VR A ρ (ev x) (a.eval x):=λx D=>i x (by simp only[Op.operands,Call.operands,Array.mem_append];exact .inr (by simpa using D));obtain⟨g,first,cap,hf,z⟩:=k X A ρ w _ _ n j (i f (by simp[Op.operands,Call.operands])) (I4 d);have N:(execOp a.eval ⟨dst,.call ⟨.value f,args,argTypes⟩,type,pos,after,guard⟩).run P w=(callFunc g ⟨first++(args.toList.map a.eval++cap)⟩).run P w:=by simp only[execOp,resolve,hf,Deferred.ofValue,run_bind,Sem.run_pure,andThen_ok,invoke];congr 2;apply xD;simp
  unfold Oper.wp;rw[N];obtain⟨v',w',K,L⟩|⟨W,R,w',K,L⟩:=z;rw[K];exact⟨v',rfl,L⟩;rw[K];simp only[Oper.upon];refine L.mono λe V N=>?_
  obtain⟨v',rfl,T⟩:=N;exact⟨v',rfl,T⟩
 |builtin b=>simp only at h;have d:∀(a:Act) A ρ,(∀x∈(Op.call ⟨.builtin b,args,argTypes⟩).operands,VR A ρ (ev x) (a.eval x))->∀x∈args.toList,VR A ρ (ev x) (a.eval x):=λa A ρ i x D=>i x (by simp only[Op.operands,Call.operands,Array.mem_append];exact .inr (by simpa using D));obtain⟨args⟩:=args;obtain⟨argTypes⟩:=argTypes;simp only at h d;unfold xU at h;split at h;rename_i x;unfold tW at h;split at h;obtain⟨t,ht,p⟩:=aG h;rw[ec] at ht;split at p;rename_i b hb;obtain⟨k,q⟩:=O8 G p (ty:=type);refine⟨k,λX A ρ w a Q n j i=>dx (m:=Builtin.len_ ⟨argTypes⟩ type #[a.eval x]) (by simp[execOp,resolve,invoke,builtin]) (q X A ρ w _ ⟨argTypes⟩ n ?_ (by simpa using ht))⟩;have:=d a A ρ i x aq;rwa[hb] at this;obtain⟨u,hu,k⟩:=aG p;cases aF k;refine⟨ay.refl _,λX A ρ w a Q n j i=>?_⟩;obtain⟨v',q,F⟩:=aak G hu (ty:=type) A ρ _ ⟨argTypes⟩ (d a A ρ i x aq) (by simpa using ht);exact dx (m:=Builtin.len_ ⟨argTypes⟩ type #[a.eval x]) (by simp[execOp,resolve,invoke,builtin]) (cw.pure n (q w) F);obtain⟨p,k⟩:=FB (P:=P) h;exact⟨p,λX A ρ w a Q n j i=>dx (m:=Builtin.unsafeSliceData_ ⟨argTypes⟩ type #[a.eval x]) (by simp[execOp,resolve,invoke,builtin]) (k X A ρ w _ ⟨argTypes⟩ type n (d a A ρ i x aq))⟩;cases h;rename_i x y;unfold K1 at h;split at h;obtain⟨p,k⟩:=O4 G h;exact⟨p,λX A ρ w a Q n j i=>dx (m:=Builtin.append_ ⟨argTypes⟩ type #[a.eval x,a.eval y]) (by simp[execOp,resolve,invoke,builtin]) (k X A ρ w _ _ type n (d a A ρ i x aq) (d a A ρ i y aq))⟩;obtain⟨rfl,k⟩:=aal (P:=P) h;refine⟨ay.refl _,λX A ρ w a Q n j i=>?_⟩;obtain⟨v',q,F⟩:=k A ρ _ _ ⟨argTypes⟩ type (d a A ρ i x aq) (d a A ρ i y aq);exact dx (m:=Builtin.max_ ⟨argTypes⟩ type #[a.eval x,a.eval y]) (by simp[execOp,resolve,invoke,builtin]) (cw.pure n (q w) F);obtain⟨rfl,k⟩:=aao (P:=P) h;refine⟨ay.refl _,λX A ρ w a Q n j i=>?_⟩;obtain⟨v',q,F⟩:=k A ρ _ _ ⟨argTypes⟩ type (d a A ρ i x aq) (d a A ρ i y aq);exact dx (m:=Builtin.min_ ⟨argTypes⟩ type #[a.eval x,a.eval y]) (by simp[execOp,resolve,invoke,builtin]) (cw.pure n (q w) F);obtain⟨p,k⟩:=Wp G h;exact⟨p,λX A ρ w a Q n j i=>dx (m:=Builtin.copy_ ⟨argTypes⟩ type #[a.eval x,a.eval y]) (by simp[execOp,resolve,invoke,builtin]) (k X A ρ w _ _ type n (d a A ρ i x aq) (d a A ρ i y aq))⟩;obtain⟨p,k⟩:=zl G h;exact⟨p,λX A ρ w a Q n j i=>dx (m:=Builtin.unsafeString_ ⟨argTypes⟩ type #[a.eval x,a.eval y]) (by simp[execOp,resolve,invoke,builtin]) (k X A ρ w _ _ type n (d a A ρ i x aq) (d a A ρ i y aq))⟩;cases h;cases h
def I5 (j:cW E P)(W:dW P call)(h:IP E call ev s o.op=C (v,s')):afn P o ev s s' v:=by
 obtain⟨dst,op,type,pos,after,guard⟩:=o;cases op<;>simp only[IP,reduceCtorEq] at h;case move x=>
  refine' zaN
 case assign x=>
  refine' zaN
 case pick c p q=>
  unfold Rz at h;split at h
  .rename_i b hc;cases b with
   |true=>
    cases aF h;refine⟨ay.refl _,λX A ρ w a Q hp ma hx=>wp_pure ?_ hp (hx p (by simp[Op.operands]))⟩;have:=hx c (by simp[Op.operands]);rw[hc] at this;simp[execOp,this.su,asBool]
   |false=>
    cases aF h;refine⟨ay.refl _,λX A ρ w a Q hp ma hx=>wp_pure ?_ hp (hx q (by simp[Op.operands]))⟩;have:=hx c (by simp[Op.operands]);rw[hc] at this;simp[execOp,this.su,asBool]
  .cases h
 case alloc t=>
  obtain⟨g,e⟩:=S6 j h;exact⟨g,λX A ρ w a Q hp ma hx=>dx (m:=Instr.alloc t J (.tuple #[])) rfl (e X A ρ w hp)⟩
 case box t x=>
  obtain⟨g,e⟩:=RG (P:=P) h;refine⟨g,λX A ρ w a Q hp ma hx=>dx (m:=Instr.box t (a.eval x)) rfl ?_⟩;have:=e X A ρ w _ hp (by rw[jq];exact(hx x (by simp[Op.operands])).cells);exact this
 case build t ps=>
  obtain⟨rfl,e⟩:=Tb j h;refine⟨ay.refl _,λX A ρ w a Q hp ma hx=>?_⟩;obtain⟨v',z,D⟩:=e A ρ a.eval (λp hp=>hx p.2 (by simp only[Op.operands,List.mem_toArray,qj];exact⟨p,by simpa using hp,rfl⟩));refine dx (m:=Instr.build t (ps.map λx=>(x.1,a.eval x.2))) rfl (cw.pure hp ?_ D);rw[<-z w];congr 2;apply xD;simp
 case buildSlice t n ps=>
  obtain⟨g,e⟩:=Cy j h;refine⟨g,λX A ρ w a Q hp ma hx=>dx (m:=Instr.buildSlice t n (ps.map λx=>(x.1,a.eval x.2))) rfl ?_⟩;have:=e X A ρ w a.eval hp (λp hp=>hx p.2 (by simp only[Op.operands,List.mem_toArray,qj];exact⟨p,by simpa using hp,rfl⟩));rwa[show(ps.map λx=>(x.1,a.eval x.2))=(ps.toList.map λx=>(x.1,a.eval x.2)).toArray by apply xD;simp]
 case load t x=>
  obtain⟨g,e⟩:=aah j h;exact⟨g,λX A ρ w a Q hp ma hx=>dx (m:=Instr.loadAt t (a.eval x)) rfl (e X A ρ w _ hp (hx x (by simp[Op.operands])))⟩
 case store t x y=>
  obtain⟨g,e⟩:=Wi j h;refine⟨g,λX A ρ w a Q hp ma hx=>?_⟩;obtain⟨z,D⟩:=e X A ρ w _ _ hp (hx x (by simp[Op.operands])) (hx y (by simp[Op.operands]));exact RL (m:=Instr.storeAt t (a.eval x) (a.eval y)) rfl z D
 case makeInterface t x=>
  obtain⟨d,hd,g⟩:=aG h;obtain⟨hc,e⟩:=bw g;cases aF e;refine⟨ay.refl _,λX A ρ w a Q hp ma hx=>?_⟩;refine dx (m:=Instr.makeInterface t (a.eval x)) rfl (cw.pure hp (v':=.iface t (a.eval x)) ?_ (VR.iface (hx x (by simp[Op.operands]))));unfold Instr.makeInterface;simp only[run_bind,run_underlying (eA j hd),andThen_ok];cases d<;>first|rfl|cases hc
 case nilCheck x=>
  unfold K2 at h;split at h
  .rename_i m t b c L;obtain⟨f,hf,h0⟩:=aG h;cases aF h0;refine⟨ay.refl _,λX A ρ w a Q hp ma hx=>?_⟩;have hv:=hx x (by simp[Op.operands]);rw[L] at hv;refine wp_pure (v':=a.eval x) ?_ hp hv;obtain⟨p',V,K,R,_⟩:=hv.Cw;obtain⟨y,r,rfl,Z,hr⟩:=R.iP;have:r=[]:=jG (by simpa using hr.akc);subst this;obtain⟨y',rfl,T⟩:=Z.aap;obtain⟨b',rfl⟩:=T.IT;simp only[execOp,K];have g:((⟨[Value.iface t (.pointer (C b'))]⟩:Array Value)[0]?:Option Value)=C (.iface t (.pointer (C b'))):=rfl;simp only[g,run_bind];have e:(program).run P w= .ok P w:=rfl;simp only[e,andThen_ok,j.afg t m f hf];rfl
  rename_i x' N;clear N;obtain⟨rfl,rfl,e⟩:=aan h;refine⟨ay.refl _,λX A ρ w a Q hp ma hx=>?_⟩;have hv:=hx x (by simp[Op.operands]);obtain⟨q,F⟩|⟨f,p,q,F⟩:=e
  .rw[F] at hv⊢;refine wp_pure (v':=a.eval x) ?_ hp hv;obtain⟨V,S⟩:=hv.IT;simp only[execOp,S,Sem.run_pure]
  .obtain⟨p⟩:=p;obtain⟨q⟩:=q;rw[F] at hv⊢;obtain⟨p',V,K,_,_⟩:=hv.Cw;refine wp_pure (v':=a.eval x) ?_ hp hv;simp only[execOp,K,Sem.run_pure]
 case binOp op t x y yt=>
  obtain⟨u,hu,g⟩:=aG h;cases aF g;refine⟨ay.refl _,λX A ρ w a Q hp ma hx=>?_⟩;obtain⟨v',e,z⟩:=aaj j hu (hx x (by simp[Op.operands])) (hx y (by simp[Op.operands])) w;exact dx (m:=do eqGuard op t x y (a.eval x) (a.eval y);binOp op t (a.eval x) (a.eval y)) rfl (cw.pure hp e z)
 case unOp op t x=>
  obtain⟨rfl,e⟩:=adA (P:=P) h;refine⟨ay.refl _,λX A ρ w a Q hp ma hx=>?_⟩;obtain⟨v',z,D⟩:=e A ρ _ (hx x (by simp[Op.operands]));exact dx (m:=Op.unary op (a.eval x)) rfl (cw.pure hp (z w) D)
 case convert src d x=>
  obtain⟨g,e⟩:=Ws j h;exact⟨g,λX A ρ w a Q hp ma hx=>dx (m:=convert src d (a.eval x)) rfl (e X A ρ w _ hp (hx x (by simp[Op.operands])))⟩
 case makeFunc fn f c=>
  cases aF h;refine⟨ay.refl _,λX A ρ w a Q hp ma hx=>?_⟩;refine wp_pure (v':=.func fn ⟨f.toList.map a.eval⟩ ⟨c.toList.map a.eval⟩) ?_ hp (VR.func (I4 λx G=>hx x ?_) (I4 λx G=>hx x ?_))
  .simp only[execOp,Instr.makeFunc,run_bind,Sem.run_pure,andThen_ok]
   congr 3<;>(apply xD;simp)
  .simp only[Op.operands,Array.mem_append];exact .inl (by simpa using G)
  .simp only[Op.operands,Array.mem_append];exact .inr (by simpa using G)
 case makeMap t r=>
  cases r with
  |some r=>cases h
  |none=>
   cases aF h;exact⟨ay.gx s _,λX A ρ w a Q hp ma hx=>dx (m:=Instr.makeMap t O) rfl (O6 t X A ρ w hp)⟩
 case makeSlice t l c=>
  obtain⟨g,e⟩:=Fz j h;exact⟨g,λX A ρ w a Q hp ma hx=>dx (m:=Instr.makeSlice t (a.eval l) (a.eval c)) rfl (e X A ρ w _ _ hp (hx l (by simp[Op.operands])) (hx c (by simp[Op.operands])))⟩
 case slice t x lo hi mx=>
  obtain⟨g,e⟩:=S9 j h;exact⟨g,λX A ρ w a Q hp ma hx=>dx (m:=Instr.sliceAt t (a.eval x) (lo.map a.eval) (hi.map a.eval) (mx.map a.eval)) rfl (e X A ρ w _ _ _ _ hp (hx x (by simp[Op.operands])) (I3 λq F=>hx q (by subst F;simp[Op.operands])) (I3 λq F=>hx q (by subst F;simp[Op.operands])) (I3 λq F=>hx q (by subst F;simp[Op.operands])))⟩
 case fieldAddr t x i=>
  obtain⟨rfl,e⟩:=Fx j h;refine⟨ay.refl _,λX A ρ w a Q hp ma hx=>?_⟩;obtain⟨v',z,D⟩:=e A ρ _ (λ_ _ _=>trivial) (hx x (by simp[Op.operands]));exact dx (m:=Instr.fieldAt t (a.eval x) i) rfl (cw.pure hp (z w) D)
 case field t x i=>
  obtain⟨rfl,e⟩:=S8 j h;refine⟨ay.refl _,λX A ρ w a Q hp ma hx=>?_⟩;obtain⟨v',z,D⟩:=e A ρ _ (hx x (by simp[Op.operands]));exact dx (m:=Instr.field t (a.eval x) i) rfl (cw.pure hp (z w) D)
 case indexAddr t x i=>
  obtain⟨rfl,e⟩:=Fy j h;refine⟨ay.refl _,λX A ρ w a Q hp ma hx=>?_⟩;obtain⟨v',z,D⟩:=e A ρ _ _ (hx x (by simp[Op.operands])) (hx i (by simp[Op.operands]));exact dx (m:=Instr.indexAt t (a.eval x) (a.eval i)) rfl (cw.pure hp (z w) D)
 case index t x i=>
  obtain⟨rfl,e⟩:=S7 j h;refine⟨ay.refl _,λX A ρ w a Q hp ma hx=>?_⟩;obtain⟨v',z,D⟩:=e A ρ _ _ (hx x (by simp[Op.operands])) (hx i (by simp[Op.operands]));exact dx (m:=Instr.index t (a.eval x) (a.eval i)) rfl (cw.pure hp (z w) D)
 case lookup t m k ok=>
  obtain⟨g,e⟩:=O7 j h;exact⟨g,λX A ρ w a Q hp ma hx=>dx (m:=Instr.lookup t (a.eval m) (a.eval k) ok) rfl (e X A ρ w _ _ hp (hx m (by simp[Op.operands])) (hx k (by simp[Op.operands])))⟩
 case mapUpdate t m k u=>
  obtain⟨g,e,z⟩:=FC j h;exact⟨g,λX A ρ w a Q hp ma hx=>RL (m:=Instr.mapUpdate t (a.eval m) (a.eval k) (a.eval u)) rfl e (z X A ρ w _ _ _ hp (hx m (by simp[Op.operands])) (hx k (by simp[Op.operands])) (hx u (by simp[Op.operands])))⟩
 case extract x i=>
  obtain⟨rfl,e⟩:=La (P:=P) h;refine⟨ay.refl _,λX A ρ w a Q hp ma hx=>?_⟩;obtain⟨v',z,D⟩:=e A ρ _ (hx x (by simp[Op.operands]));exact dx (m:=Instr.extract (a.eval x) i) rfl (cw.pure hp (z w) D)
 case range t x=>
  obtain⟨g,e⟩:=Ti j h;exact⟨g,λX A ρ w a Q hp ma hx=>dx (m:=Instr.range t (a.eval x)) rfl (e X A ρ w _ hp (hx x (by simp[Op.operands])))⟩
 case next x str=>
  obtain⟨g,e⟩:=Wt j h;exact⟨g,λX A ρ w a Q hp ma hx=>dx (m:=Instr.next (a.eval x) str type) rfl (e X A ρ w _ type hp (hx x (by simp[Op.operands])))⟩
 case call c=>exact Tk j W h dst type pos after guard
variable {N:Nat}{tm jT:Tm}{a:Act}
mutual
def mb:Value->Bool
 |.agg ⟨cs⟩=>sD cs
 |.tuple ⟨cs⟩=>sD cs
 |.func _ ⟨f⟩ ⟨c⟩=>sD f&&sD c
 |.iface _ v=>mb v
 |.pointer (C _)=>U
 |.slice (C _) _ _=>U
 |.map (C _)=>U
 |_=>J
def sD:aV->Bool
 |[]=>J
 |v::vs=>mb v&&sD vs
end
mutual
def sE (ρ:iw):∀v,mb v=J->bZ ρ v=v
 |.agg ⟨cs⟩,h=>by rw[We,pF ρ cs (by simpa[mb] using h)]
 |.tuple ⟨cs⟩,h=>by rw[OZ,pF ρ cs (by simpa[mb] using h)]
 |.func fn ⟨f⟩ ⟨c⟩,h=>by simp only[mb,ep] at h;rw[S4,pF ρ f h.1,pF ρ c h.2]
 |.iface t v,h=>by have:=sE ρ v (by simpa[mb] using h);simp[bZ,this]
 |.pointer O,_=>by simp
 |.pointer (C _),h=>by simp[mb] at h
 |.slice O _ _,_=>by simp
 |.slice (C _) _ _,h=>by simp[mb] at h
 |.map O,_=>by simp[bZ]
 |.map (C _),h=>by simp[mb] at h
 |.bool _,_=>by simp
 |.int _ _,_=>by simp
 |.float _ _,_=>by simp[bZ]
 |.complex _ _ _,_=>by simp[bZ]
 |.string _,_=>by simp
 |.chan _,_=>by simp[bZ]
 |.nilFunc,_=>by simp
 |.nilIface,_=>by simp
def pF (ρ:iw):∀l:aV,sD l=J->l.map (bZ ρ)=l
 |[],_=>rfl
 |v::vs,h=>by simp only[sD,ep] at h;rw[lF,sE ρ v h.1,pF ρ vs h.2]
end
def I6 (x:Operand):Bool:=match x with
 |.const v=>mb v
 |.global g=>ble (Nat.succ g) 16
 |_=>J
def ui (N:Nat)(o:Oper):Bool:=(match o.dst with
 |some d=>ble (Nat.succ d) N
 |none=>J)&&o.op.operands.toList.all I6
def Gl.mono (h:Gl A ρ)(d:∀i,A i->B i)(c:∀i,A i->K6 i=ρ i):Gl B K6:=λg b=>⟨d g (h g b).1,by rw[c g (h g b).1];exact(h g b).2⟩
def OO (A:Nat->Prop)(ρ:iw)(N:Nat)(tm:Tm)(a:Act):Prop:=a.tmps.size=N/\∀t,VR A ρ (lR (tm.get t)) (a.tmps.getD t undef)
def OO.mono (h:OO A ρ N tm a)(c:∀i,A i->B i)(b:∀i,A i->K6 i=ρ i):OO B K6 N tm a:=⟨h.1,λt=>(h.2 t).mono c b⟩
noncomputable def Tm.iG (tm:Tm)(d:Option Tmp)(v:Value):Tm:=match d with
 |some d=>tm.set (Nat.succ d) d (C v)
 |none=>tm
def Tm.put_eq {β:Type}(tm:Tm)(d:Option Tmp)(v:Value)(k:Tm->β):tm.put d v k=k (tm.iG d v):=by cases d<;>simp[Tm.put,Tm.iG]
def Lk (a:Act)(d t:Nat)(v:Value)(hd:d<a.tmps.size):(a.put (C d) v).tmps.getD t undef=if t=d then v else a.tmps.getD t undef:=by simp only[Act.put,Ro,Array.getElem?_setIfInBounds];by_cases h:d=t;subst h;simp[hd];rw[af h,af (λe=>h e.symm)]
def OO.put {d:Option Tmp}{v v':Value}(h:OO A ρ N tm a)(hv:VR A ρ v v')(hd:∀t,d=C t->t<N):OO A ρ N (tm.iG d v) (a.put d v'):=by
 cases d with
 |none=>exact h
 |some d=>have hd:=hd d rfl;refine⟨by simp[Act.put,h.1],λt=>?_⟩;rw[Lk a d t v' (by rwa[h.1])];unfold Tm.iG;simp only[T.va];by_cases ht:t=d;simp only[ht,iO];exact hv;simp only[ht,ib];exact h.2 t
def BC {x:Operand}(d:I6 x=J)(c:Gl A ρ)(ht:∀t,x= .tmp t->VR A ρ (lR (tm.get t)) (a.tmps.getD t undef)):VR A ρ (aM tm x) (a.eval x):=by
 cases x with
 |tmp t=>exact ht t rfl
 |const v=>exact VR.ground λρ=>sE ρ v d
 |global g=>have b:g<16:=xA d;have:=VR.ptr (ρ:=ρ) (o:=0) (c g b).1;rwa[(c g b).2] at this
 |func f=>exact VR.ground λρ=>by simp[aM]
def Tn (v:Option Value)(want:Bool):tY v want=J↔v=C (.bool want):=by unfold tY;split;rename_i b;rw[dC];cases b<;>cases want<;>simp;rename_i h;simp only[jS,false_iff];rintro rfl;exact h want rfl
def I7 {b:Bool}(h:bZ ρ v= .bool b):v= .bool b:=by
 cases v<;>try(simp[bZ] at h;done)
 simpa using h;rename_i a;cases a with
 |none=>simp[bZ] at h
 |some a=>obtain⟨a',e⟩:=nQ ρ a;rw[e] at h;cases h
 rename_i a l c;cases a with
 |none=>simp[bZ] at h
 |some a=>obtain⟨a',e⟩:=rv ρ a l c;rw[e] at h;cases h
 rename_i a;cases a<;>simp[bZ] at h
def VR.Wu {b:Bool}(h:VR A ρ v v')(hv:v'= .bool b):v= .bool b:=I7 (ρ:=ρ) (by rw[h.self,hv])
def zn {aE:List Oper}{o:Oper}(hs:a.tmps.size=N)(r:∀p∈aE,∀d,p.dst=C d->d<N)
  (ht:∀j want,o.guard=C (j,want)->∀d,mE aE j=C d->VR A ρ (lR (tm.get d)) (a.tmps.getD d undef)):Region.wanted o (yielded ⟨aE⟩ a.tmps)=iN aE tm o.guard:=by
 unfold Region.wanted iN;cases i:o.guard with
 |none=>rfl
 |some p=>
  obtain⟨j,want⟩:=p;simp only;have c:((⟨aE⟩:Array Oper)[j]?).bind (·.dst)=mE aE j:=by unfold mE;rw[ec];simp only[Gx];cases aE[j]?<;>rfl
  unfold yielded;rw[c];cases hd:mE aE j with
  |none=>simp[tY]
  |some d=>
   have hv:=ht j want i d hd;(have g:d<a.tmps.size:=by unfold mE at hd;obtain⟨p,n,f⟩:=aG hd;rw[ec] at n;rw[hs];exact r p (Cd n) d f);(have e:a.tmps[d]?=C (a.tmps.getD d undef):=by simp[g]);simp only[Ao,bF,e];generalize a.tmps.getD d undef=u at hv;rw[o6,Tn];constructor;intro h;(have hu:u= .bool want:=by split at h;rename_i b hb;simp at hb h;rw[hb,h];simp at h);have:=hv.Wu hu;cases k:tm.get d with
   |none=>rw[k] at this;cases this
   |some q=>rw[k] at this;exact congrArg C this
   intro h;rw[h] at hv;rw[hv.su];simp
def cU.lt {n m:Nat}(c:∀i,A i->i<n)(h:n<=m):∀i,cU A n m i->i<m:=by rintro i (b|b);have:=c i b;omega;exact b.2
def cU.self {n:Nat}{i:Nat}:cU A n n i↔A i:=by constructor;rintro(h|h);exact h;omega;exact .inl
def cU.join {n m k:Nat}(h1:n<=m)(h2:m<=k){i:Nat}(h:cU (cU A n m) m k i):cU A n k i:=by obtain(h|h)|h:=h;exact .inl h;exact .inr ⟨h.1,aa⟩;exact .inr ⟨aa,h.2⟩
def nR {o:Oper}(h:ui N o=J):∀d,o.dst=C d->d<N:=by intro d hd;unfold ui at h;rw[hd] at h;simp only[ep] at h;exact xA h.1
def Ax {o:Oper}(h:ui N o=J):∀x∈o.op.operands,I6 x=J:=by unfold ui at h;simp only[ep,o5] at h;intro x b;exact h.2 x (by simpa using b)
structure Left (P:Program)(X A:Nat->Prop)(ρ:iw)(N:Nat)(s s':St)(w:World)(a:Act)(jT:Tm)(a':Act)(w':World):Prop where
 defers:a'.defers=a.defers
 left:∃er,OO (cU A s.next s'.next) er N jT a'/\Good P X A ρ s s' w w' er
def zo (aE:List Oper)(o:Oper)(l:List Oper)(tm:Tm)(s:St):K3 E call aE (o::l) tm s=bo (iN aE tm o.guard) (ob (IP E call (aM tm) s o.op) λp=>match p with
        |(v,s)=>tm.put o.dst v λtm=>K3 E call aE l tm s)
   (tm.put o.dst (.tuple ⟨[]⟩) λtm=>K3 E call aE l tm s):=rfl
def uj (a:Act)(d:Option Tmp)(v:Value):(a.put d v).defers=a.defers:=by cases d<;>rfl
def I8 (Z:cW E P)(W:dW P call)(aE:List Oper)(g:∀o∈aE,ui N o=J):∀(l:List Oper)(k:Nat)(tm:Tm)(s:St){jT:Tm}{s':St},l=aE.drop k->K3 E call aE l tm s=C (jT,s')->
  ay s s'/\∀X A ρ w a Q,nK P X A ρ s s' w->Gl A ρ->OO A ρ N tm a->(∀a' w',Left P X A ρ N s s' w a jT a' w'->Q Exit.normal a' w')->wpOps P ⟨aE⟩ Q (List.range' k (Y l)) a w
 |[],k,tm,s,jT,s',hl,h=>by cases dM h;refine⟨ay.refl s,λX A ρ w a Q f G ht K=>?_⟩;exact K a w ⟨rfl,ρ,ht.mono (λi hi=>.inl hi) (λ_ _=>rfl),Good.refl f.st f.dr⟩
 |o::l,k,tm,s,jT,s',hl,h=>by
  have hk:aE[k]?=C o:=by have:=congrArg (·[0]?) hl;simpa using this.symm
  have R:l=aE.drop (k+1):=by have:=congrArg (List.drop 1) hl;simpa[wx,Cb] using this
  have ho:o∈aE:=Cd hk;have S:=g o ho;rw[zo] at h;have z:=nR S;cases T:iN aE tm o.guard with
  |true=>rw[T,ff] at h;obtain⟨⟨v,s1⟩,h1,h2⟩:=aG h;simp only[Tm.put_eq] at h2;obtain⟨r,BD⟩:=I5 Z W h1;obtain⟨q,n⟩:=I8 Z W aE g l (k+1) _ _ R h2;refine⟨r.trans q,λX A ρ w a Q f G ht K=>?_⟩;rw[fS,vQ];unfold wpOps;(have D:(⟨aE⟩:Array Oper)[k]?=C o:=by simpa using hk);simp only[D];rw[zn (A:=A) (ρ:=ρ) (tm:=tm) ht.1 (λp f d hd=>nR (g p f) d hd) (λj want _ d _=>ht.2 d),T];simp only[iO];left;have hp1:nK P X A ρ s s1 w:=⟨f.lt,f.dr,λb hb=>f.cC b (q.cC b hb),f.st⟩;refine Oper.wp_mono (λa1 w1 F=>?_) (BD X A ρ w a Q hp1 G λx hx=>BC (Ax S x hx) G λt _=>ht.2 t);obtain⟨v',rfl,ρ1,hv,c⟩:=F;(have L:∀i,A i->ρ1 i=ρ i:=λi hi=>c.same i (by have:=f.lt i hi;omega));have ht1:OO (cU A s.next s1.next) ρ1 N (tm.iG o.dst v) (a.put o.dst v'):=(ht.mono (λi hi=>.inl hi) L).put hv z;(refine n X (cU A s.next s1.next) ρ1 w1 _ Q ⟨cU.lt f.lt r.next,c.dr,f.cC,c.state⟩ (G.mono (λi hi=>.inl hi) L) ht1 λV w2 e=>K V w2 ?_);obtain⟨hd,K6,ht2,u⟩:=e;refine⟨hd.trans (uj _ _ _),K6,ht2.mono (λi hi=>cU.join r.next q.next hi) (λ_ _=>rfl),Good.trans f.cC r q f.lt c u⟩
  |false=>rw[T,ey] at h;simp only[Tm.put_eq] at h;obtain⟨q,n⟩:=I8 Z W aE g l (k+1) _ _ R h;refine⟨q,λX A ρ w a Q f G ht K=>?_⟩;rw[fS,vQ];unfold wpOps;(have D:(⟨aE⟩:Array Oper)[k]?=C o:=by simpa using hk);simp only[D];rw[zn (A:=A) (ρ:=ρ) (tm:=tm) ht.1 (λp f d hd=>nR (g p f) d hd) (λj want _ d _=>ht.2 d),T];simp only[jS,ib];(refine n X A ρ w _ Q f G (ht.put VR.undef z) λV w2 e=>K V w2 ?_);exact⟨e.1.trans (uj _ _ _),e.2⟩
variable {aE:Array Oper}{Q:Exit->Act->World->Prop}{a0:Act}
def zp (aE:Array Oper):Bool:=
 Region.noSelect aE&&(List.range aE.size).all λj=>match aE[j]? with
  |none=>J
  |some b=>(match b.guard with
    |none=>J
    |C (g,_)=>b.after.any λe=>binds .any e&&e.on== g)&&(b.after.all λe=>!binds .any e||decide (e.on<j))&&
   (List.range j).all λi=>match aE[i]? with
    |none=>J
    |some c=>(b.after.any λe=>binds .any e&&e.on== i)||c.apart aE b
def iG (aE:Array Oper)(a0:Act)(has:Nat->Bool)(vals:Nat->Value):Nat->Act
 |0=>a0
 |k+1=>if has k then(iG aE a0 has vals k).put ((aE[k]?).bind (·.dst)) (vals k) else iG aE a0 has vals k
def Wv (a:Act)(d:Option Tmp)(v:Value):(a.put d v).tmps.size=a.tmps.size:=by cases d<;>simp[Act.put]
def oE (aE:Array Oper)(a0:Act)(has:Nat->Bool)(vals:Nat->Value)(k:Nat):(iG aE a0 has vals k).tmps.size=a0.tmps.size:=by
 induction k with
 |zero=>rfl
 |succ k ih=>unfold iG;split<;>simp[Wv,ih]
def G0 (aE:Array Oper)(a0:Act){has has':Nat->Bool}{vals vals':Nat->Value}(k:Nat)(h:∀j,j<k->has j=has' j)(hv:∀j,j<k->has j=J->vals j=vals' j):iG aE a0 has vals k=iG aE a0 has' vals' k:=by
 induction k with
 |zero=>rfl
 |succ k ih=>unfold iG;rw[ih (λj b=>h j aa) (λj b=>hv j aa),<-h k aa];split;rename_i c;rw[hv k aa c];rfl
def aaq (aE:Array Oper)(a0:Act){has:Nat->Bool}{vals:Nat->Value}{i:Nat}(v:Value)(hi:has i=U)(n:Nat)(hn:i<n)
  (hd:∀j,i<j->j<n->has j=J->∀d,(aE[i]?).bind (·.dst)=C d->(aE[j]?).bind (·.dst)≠C d):
  iG aE a0 (λj=>if j=i then J else has j) (λj=>if j=i then v else vals j) n=(iG aE a0 has vals n).put ((aE[i]?).bind (·.dst)) v:=by
 induction n with
 |zero=>omega
 |succ n ih=>
  unfold iG;obtain h|h:=jc i n;rw[ih h (λj c g=>hd j c aa)];(have b:n≠i:=by omega);simp only[b,ib];split;rename_i f;rw[Act.put_comm _ _ _ (hd n h aa f)];rfl;have:n=i:=by omega
  subst this;simp only[iO,hi,jS,ib];rw[G0 aE a0 n (has':=has) (vals':=vals) (λj e=>by (have:j≠n:=by omega);simp[this]) (λj e _=>by (have:j≠n:=by omega);simp[this])]
def FD {a b:Act}(d:Option Tmp)(v:Value)(x:Operand)(hs:a.tmps.size=b.tmps.size)(h:a.eval x=b.eval x):(a.put d v).eval x=(b.put d v).eval x:=by
 cases d with
 |none=>exact h
 |some d=>
  cases x with
  |tmp t=>simp only[Act.eval,Act.put,Ro,Array.getElem?_setIfInBounds] at h⊢;by_cases c:d=t;subst c;simp only[iO,hs];simp only[af c];exact h
  |_=>rfl
def Ww (aE:Array Oper)(a0:Act){has:Nat->Bool}{vals:Nat->Value}(i:Nat)(x:Operand)(n:Nat)
  (h1:∀j,j<i->has j=U->∀d,(aE[j]?).bind (·.dst)=C d->x≠ .tmp d)
  (h2:∀j,i<=j->has j=J->∀d,(aE[j]?).bind (·.dst)=C d->x≠ .tmp d):
  (iG aE a0 has vals n).eval x=(iG aE a0 (λ_=>J) vals (min n i)).eval x:=by
 induction n with
 |zero=>simp[iG]
 |succ n ih=>
  obtain h|h:=jc n i;rw[tH aa] at ih;rw[tH aa];unfold iG;simp only[iO];by_cases b:has n=J;rw[ai b];exact FD _ _ _ (by rw[oE,oE]) ih;rw[af b,Act.eval_put (h1 n h (by simpa using b))];exact ih;rw[Nat.min_eq_right aa] at ih;rw[Nat.min_eq_right aa];conv=>lhs;unfold iG
  by_cases b:has n=J;rw[ai b,Act.eval_put (h2 n h b)];exact ih;rw[af b];exact ih
def x7 {a b:Act}{d:Option Tmp}{v v':Value}(hs:a.tmps.size=b.tmps.size)(h:b.put d v=b.put d v'):a.put d v=a.put d v':=by
 cases d with
 |none=>rfl
 |some d=>simp only[Act.put] at h⊢;by_cases hd:d<b.tmps.size;have f:=congrArg (λc=>c.tmps[d]?) h;simp[hd] at f;rw[f];have e:∀u:Value,a.tmps.setIfInBounds d u=a.tmps:=λu=>Array.setIfInBounds_eq_of_size_le (by rw[hs];exact Nat.le_of_not_lt hd);rw[e,e]
def afo {P:Program}{o:Oper}{a b:Act}{u:World}{R:Value->World->Prop}{Q:Exit->Act->World->Prop}(hs:a.tmps.size=b.tmps.size)(j:execOp a.eval o=execOp b.eval o)
  (h:o.wp P b u (λb' w'=>∃v,b'=b.put o.dst v/\R v w') (λ_ _ _=>False)):o.wp P a u (λa' w'=>∃v,a'=a.put o.dst v/\R v w') Q:=by
 unfold Oper.wp at *
 rw[j];generalize(execOp b.eval o).run P u=r at *
 cases r with
 |ok n w'=>
  cases n with
  |value v=>obtain⟨v',g,i⟩:=h;exact⟨v',x7 hs g,i⟩
  |skip=>obtain⟨v',g,i⟩:=h;exact⟨v',x7 hs g,i⟩
  |defer d=>obtain⟨v',g,_⟩:=h;have:=congrArg (λa=>Y a.defers) g;cases hd:o.dst<;>simp[Act.put,hd] at this
  |enter f args=>
   refine Calls.mono h λe k j=>?_;cases e with
   |returned v=>obtain⟨v',g,i⟩:=j;exact⟨v',x7 hs g,i⟩
   |panicked c=>exact j.elim
   |outgrown=>obtain⟨_,_,hf⟩:=j;exact hf.elim
  |row f args=>exact Rows.mono h λv k ⟨v',g,i⟩=>⟨v',x7 hs g,i⟩
  |_=>exact h.elim
 |halt x w'=>
  cases x with
  |panic v=>exact h.elim
  |_=>exact h.elim
def G1 {α:Type}{p q:α->Bool}:∀{L:List α},(∀x,q x=J->p x=J)->(∃x∈L,p x=J/\q x=U)->L.countP q<L.countP p
 |[],_,⟨x,b,_⟩=>by simp at b
 |y::L,h,⟨x,b,d,e⟩=>by
  have hle:L.countP q<=L.countP p:=List.countP_mono_left λx _=>h x;simp only[tF];obtain rfl|b:=cA.1 b
  simp[d,e];omega;have:=G1 (L:=L) h ⟨x,b,d,e⟩;by_cases c:q y=J;simp[c,h y c];omega;simp[c];split<;>omega
def Ay {aE:Array Oper}(h:zp aE=J):Region.noSelect aE=J/\∀j c,aE[j]?=C c->
  (∀e∈c.after,binds .any e=J->e.on<j)/\
  (∀i p,i<j->aE[i]?=C p->(∃e∈c.after,binds .any e=J/\e.on=i)\/p.apart aE c=J)/\
  (∀g b,c.guard=C (g,b)->∃e∈c.after,binds .any e=J/\e.on=g):=by unfold zp at h;rw[ep] at h;refine⟨h.1,λj c t=>?_⟩;have n:j<aE.size:=(tJ.1 t).1;have q:=(o5.1 h.2) j (B4.2 n);simp only[t,ep] at q;obtain⟨⟨r,ha⟩,u⟩:=q;refine⟨λe d hb=>?_,λi p k hi=>?_,λg b f=>?_⟩;have:=Array.all_eq_true_iff_forall_mem.1 ha e d;simpa[hb] using this;have:=(o5.1 u) i (B4.2 k);simp only[hi,km] at this;obtain h|h:=this;obtain⟨e,d,hb⟩:=Array.any_eq_true'.1 h;simp only[ep,rj] at hb;exact .inl ⟨e,d,hb.1,hb.2⟩;exact .inr h;rw[f] at r;obtain⟨e,d,hb⟩:=Array.any_eq_true'.1 r;simp only[ep,rj] at hb;exact⟨e,d,hb.1,hb.2⟩
def Ll {a b:Array Value}{d:Nat}(hs:a.size=b.size)(h:a.getD d undef=b.getD d undef):a[d]?=b[d]?:=by
 obtain c|c:=jc d a.size;have e:d<b.size:=by omega
 rw[Rp c,Rp e];simpa[c,e] using h;rw[KP c,KP aa]
def sF (aE:Array Oper)(L:Nat->Bool):Prop:=∀j b,aE[j]?=C b->L j=J->∀e∈b.after,binds .any e=J->L e.on=J
def ij {α:Type}(L:Nat->α)(i:Nat)(x:α):Nat->α:=λj=>if j=i then x else L j
def To (x8:zp aE=J)(Inv:(Nat->Bool)->(Nat->Value)->World->Prop)
  (afp:∀(L:Nat->Bool)(vals:Nat->Value)(w:World)(i:Nat)(o:Oper),aE[i]?=C o->L i=U->(∀e∈o.after,binds .any e=J->L e.on=J)->sF aE L->(∀j,L j=J->j<aE.size)->Inv L vals w->
    (Region.wanted o (yielded aE (iG aE a0 (λ_=>J) vals i).tmps)=J->o.wp P (iG aE a0 (λ_=>J) vals i) w (λa' w'=>∃v,a'=(iG aE a0 (λ_=>J) vals i).put o.dst v/\Inv (ij L i J) (ij vals i v) w') (λ_ _ _=>False))/\
    (Region.wanted o (yielded aE (iG aE a0 (λ_=>J) vals i).tmps)=U->Inv (ij L i J) (ij vals i undef) w))
  (ahJ:∀(L:Nat->Bool)(vals:Nat->Value)(w:World),(∀i,i<aE.size->L i=J)->Inv L vals w->Q .normal (iG aE a0 (λ_=>J) vals aE.size) w):
  ∀(fuel:Nat)(cp:Array Bool)(vals:Nat->Value)(u:World),cp.size=aE.size->sF aE (λi=>cp.getD i U)->Inv (λi=>cp.getD i U) vals u->
   (List.range aE.size).countP (λi=>!cp.getD i U)<=fuel->
   wpAny P .any aE Q fuel cp (iG aE a0 (λi=>cp.getD i U) vals aE.size) u:=by
 obtain⟨hns,z⟩:=Ay x8;have done:∀(cp:Array Bool)(vals:Nat->Value)(u:World),Inv (λi=>cp.getD i U) vals u->(∀i,i<aE.size->cp.getD i U=J)->
                                     Q .normal (iG aE a0 (λi=>cp.getD i U) vals aE.size) u:=λcp vals u hI D=>by
  rw[G0 aE a0 (has':=λ_=>J) (vals':=vals) aE.size (λj hj=>D j hj) (λ_ _ _=>rfl)];exact ahJ _ vals u D hI
 have n:∀(cp:Array Bool)(i:Nat),i<cp.size->cp.getD i J=cp.getD i U:=λcp i hi=>by simp[hi]
 have hin:∀(cp:Array Bool),cp.size=aE.size->∀k,cp.getD k U=J->k<aE.size:=λcp hs k hk=>by obtain h|h:=jc k cp.size;omega;simp[KP h] at hk
 intro fuel;induction fuel with
 |zero=>
  intro cp vals u wm Tc hI hc;have D:∀i,i<aE.size->cp.getD i U=J:=λi hi=>by (have h0:(List.range aE.size).countP (λi=>!cp.getD i U)=0:=by omega);have:=Ac.1 h0 i (B4.2 hi);simpa using this
  refine⟨?_,done cp vals u hI D⟩;cases hr:Region.ready .any aE cp with
  |nil=>rfl
  |cons x xs=>(have hx:x∈Region.ready .any aE cp:=by rw[hr];simp);obtain⟨h0,o,Z,_⟩:=mem_ready.1 hx;have G:x<aE.size:=(tJ.1 Z).1;have h1:=D x G;rw[n cp x aa] at h0;rw[h0] at h1;cases h1
 |succ fuel ih=>
  intro cp vals u wm Tc hI hc;refine⟨λhr=>done cp vals u hI ?_,λi hi=>?_⟩;intro i;induction i using Nat.strongRecOn with
  |ind i ihi=>
   intro G;cases hl:cp.getD i U with
   |true=>rfl
   |false=>(have hm:i∈Region.ready .any aE cp:=by rw[mem_ready];refine⟨by rwa[n cp i aa],aE[i],Rp G,λe W f=>?_⟩;have h1:=(z i _ (Rp G)).1 e W f;exact ihi e.on h1 aa);rw[hr] at hm;cases hm
  obtain⟨h0,o,Z,r⟩:=mem_ready.1 hi;have G:i<aE.size:=(tJ.1 Z).1;have V:cp.getD i U=U:=by rwa[<-n cp i aa]
  obtain⟨ahf,afq,ahK⟩:=z i o Z;have FA:=afp (λi=>cp.getD i U) vals u i o Z V r Tc (hin cp wm) hI;have ahL:=Region.noSelect_spec hns;have Ln:∀d,d∈o.looksAt aE->(iG aE a0 (λi=>cp.getD i U) vals aE.size).eval (.tmp d)=(iG aE a0 (λ_=>J) vals i).eval (.tmp d):=λd0 hd0=>by
   have key:=Ww aE a0 (has:=λi=>cp.getD i U) (vals:=vals) i (.tmp d0) aE.size ?_ ?_;rw[Nat.min_eq_right aa] at key;exact key;intro j hj T d hd hxd;cases c:aE[j]? with
   |none=>simp[c] at hd
   |some oj=>simp only[c,Ao] at hd;obtain⟨e,W,f,K⟩|hap:=afq j oj hj c;have:=r e W f;rw[K] at this;rw[this] at T;cases T;refine(Oper.apart_spec hap).1 d hd ?_;cases hxd;exact hd0
   intro j hj T d hd hxd;(have GX:j≠i:=λe=>by rw[e,V] at T;cases T);cases c:aE[j]? with
   |none=>simp[c] at hd
   |some oj=>simp only[c,Ao] at hd;rcases(z j oj c).2.1 i o aa Z with⟨e,W,f,K⟩|hap;have:cp.getD e.on U=J:=Tc j oj c T e W f;rw[K,V] at this;cases this;refine(Oper.apart_spec hap).2.2 d hd ?_;cases hxd;exact hd0
  have W:execOp (iG aE a0 (λi=>cp.getD i U) vals aE.size).eval o=execOp (iG aE a0 (λ_=>J) vals i).eval o:=by
   refine execOp_congr o (λcs b=>ahL i o cs b Z) λx hx=>?_;cases x with
   |tmp t=>exact Ln t (im _ (List.mem_filterMap.2 ⟨.tmp t,by simpa using hx,rfl⟩))
   |_=>rfl
  have Wx:Region.wanted o (yielded aE (iG aE a0 (λi=>cp.getD i U) vals aE.size).tmps)=Region.wanted o (yielded aE (iG aE a0 (λ_=>J) vals i).tmps):=by
   unfold Region.wanted;cases hg:o.guard with
   |none=>rfl
   |some p=>
    obtain⟨g,b⟩:=p;simp only;congr 1;unfold yielded;cases hd:(aE[g]?).bind (·.dst) with
    |none=>rfl
    |some d=>have h1:=Ln d (by unfold Oper.looksAt;refine dt _ ?_;rw[hg];simp only[hd];simp);simp only[Ao];(have ahM:(iG aE a0 (λi=>cp.getD i U) vals aE.size).tmps.size=(iG aE a0 (λ_=>J) vals i).tmps.size:=by rw[oE,oE]);(have h2:(iG aE a0 (λi=>cp.getD i U) vals aE.size).tmps[d]?=(iG aE a0 (λ_=>J) vals i).tmps[d]?:=by exact Ll ahM h1);rw[h2]
  have F:∀j,(cp.setIfInBounds i J).getD j U=if j=i then J else cp.getD j U:=λj=>by by_cases S:j=i;subst S;simp[wm,G];simp only[S,ib];exact getD_set_ne U (Ne.symm S)
  have adB:ij (λj=>cp.getD j U) i J=λj=>(cp.setIfInBounds i J).getD j U:=funext λj=>(F j).symm;have afr:∀v,iG aE a0 (λj=>(cp.setIfInBounds i J).getD j U) (ij vals i v) aE.size=(iG aE a0 (λi=>cp.getD i U) vals aE.size).put o.dst v:=λv=>by
   have hli:=aaq aE a0 (has:=λi=>cp.getD i U) (vals:=vals) (i:=i) v V aE.size G (λj hij hjn hjl d hd=>by
    simp only[Z,Ao] at hd;cases c:aE[j]? with
    |none=>simp
    |some oj=>simp only[Ao];rcases(z j oj c).2.1 i o hij Z with⟨e,W,f,K⟩|hap;have:cp.getD e.on U=J:=Tc j oj c hjl e W f;rw[K,V] at this;cases this;exact(Oper.apart_spec hap).2.1 d hd)
   simp only[Z,Ao] at hli;rw[<-hli,<-adB];rfl
  have afs:sF aE (λj=>(cp.setIfInBounds i J).getD j U):=λj oj c hj e W f=>by show(cp.setIfInBounds i J).getD e.on U=J;rw[F];by_cases K:e.on=i;simp[K];rw[af K];by_cases S:j=i;subst S;rw[Z] at c;cases c;exact r e W f;have hj2:(cp.setIfInBounds i J).getD j U=J:=hj;rw[F,af S] at hj2;exact Tc j oj c hj2 e W f
  have R:(List.range aE.size).countP (λj=>!(cp.setIfInBounds i J).getD j U)<=fuel:=by have:=G1 (p:=λi=>!cp.getD i U) (q:=λj=>!(cp.setIfInBounds i J).getD j U) (L:=List.range aE.size) (λx hx=>by rw[F] at hx;by_cases hxi:x=i;simp[hxi] at hx;simpa[hxi] using hx) ⟨i,B4.2 G,by simp only[V];rfl,by simp only[F,iO];rfl⟩;omega
  unfold wpOp;simp only[Z];rw[Wx];by_cases hw:Region.wanted o (yielded aE (iG aE a0 (λ_=>J) vals i).tmps)=J;rw[ai hw];refine .inl ?_;refine Oper.wp_mono (λa' w' ⟨v,ha,hI'⟩=>?_) (afo (Q:=Q) (by rw[oE,oE]) W (FA.1 hw));subst ha;rw[<-afr v];rw[adB] at hI';exact ih _ _ w' (by simpa using wm) afs hI' R;rw[af hw];rw[<-afr undef];have hI':=FA.2 (by simpa using hw);rw[adB] at hI';exact ih _ _ u (by simpa using wm) afs hI' R
def FE {id:Nat}{W:World}(hm:P.follows .mixedOrders=J)(g:zp aE=J)(Inv:(Nat->Bool)->(Nat->Value)->World->Prop)
  (b:∀(L:Nat->Bool)(vals:Nat->Value)(w:World)(i:Nat)(o:Oper),aE[i]?=C o->L i=U->(∀e∈o.after,binds .any e=J->L e.on=J)->sF aE L->(∀j,L j=J->j<aE.size)->Inv L vals w->
    (Region.wanted o (yielded aE (iG aE a0 (λ_=>J) vals i).tmps)=J->o.wp P (iG aE a0 (λ_=>J) vals i) w (λa' w'=>∃v,a'=(iG aE a0 (λ_=>J) vals i).put o.dst v/\Inv (ij L i J) (ij vals i v) w') (λ_ _ _=>False))/\
    (Region.wanted o (yielded aE (iG aE a0 (λ_=>J) vals i).tmps)=U->Inv (ij L i J) (ij vals i undef) w))
  (c:∀(L:Nat->Bool)(vals:Nat->Value)(w:World),(∀i,i<aE.size->L i=J)->Inv L vals w->Q .normal (iG aE a0 (λ_=>J) vals aE.size) w)
  (h0:Inv (λ_=>U) (λ_=>undef) W.drew):(Code.region id aE J).wp P Q a0 W:=by
 refine wp_region_any hm ?_;have d:∀i,(Array.replicate aE.size U).getD i U=U:=λi=>by by_cases h:i<aE.size<;>simp[h]
 have hf:(λi=>(Array.replicate aE.size U).getD i U)=λ_=>U:=funext d;have:=To g Inv b c aE.size (Array.replicate aE.size U) (λ_=>undef) W.drew aq (by rw[hf];intro j n _ h;cases h) (by rwa[hf]) (by refine jR (Ce) aq);have f:∀k,iG aE a0 (λi=>(Array.replicate aE.size U).getD i U) (λ_=>undef) k=a0:=λk=>by
  induction k with
  |zero=>rfl
  |succ k ih=>unfold iG;rw[af (by rw[d];decide),ih]
 rwa[f] at this
end Go.Ev
