/- Lemmas of the proof. No conditions. -/
import Derived.Test.YtnealhiolaklpaaGreatDoorAd4
import Derived.Test.YtnealhiolaklpaaGreatDoorAe1
set_option maxRecDepth 100000
set_option maxHeartbeats 4000000
set_option linter.all false
open Bool renaming false->U,true->J
open Option renaming none->O,some->C
open List renaming length->Y
open Go.Value renaming slice->H,bool->M,int->I
open Go.Proofs.Tryz
open Nat (beq ble mul)
open Go.Result (andThen_ok)
open Go.Sem (run_bind)
open Go.Region (binds)
open List (replicate)
open Int (toNat)
open Go.Builtin (firstCells)
open Go.Instr (checkKey)
namespace Go.Pl
open Go Go.Ev Go.Lg Go.Proofs
variable {E:hJ}{X:fb}{Γ:ng}{l:Kn}{L R:cq}{K:KO}{g:FuncId}{xs:List Operand}{ts:Array TypeId}{vs:aV}{a:aP}{c:Nat}{p:List cB}{q:ot}{r:Value}{s:St}{n sz:Nat}{cs:aV}
variable {ch:UInt8}
def adk {f:FuncId}{fn:Func}{args:aV}{s:St}{v:Value}(h1:aZ.fn.get f=C fn)(h2:∀k,vU aW f args s k=C (v,s)):bM f args s [] v:=λe h i=>lE.Ji h1 (s':=s) (v:=v) h2 ⟨[],⟨λ_ _ _=>rfl,fG _,λx d=>(by cases d),λx d=>(by cases d),ta,λb hb=>.inl hb,λb hb=>.inl hb,λb hb=>.inl hb,λb hb=>.inl hb⟩,rfl,rfl⟩
def lE.ext {E:hJ}{X:fb}{f:FuncId}{fn:Func}{args:aV}{s s':St}{v:Value}{K:Value->St->Prop}(hf:E.fn.get f=C fn)(hb:fn.body=O)(i:wE X f=U)(b:OX X f args s=C (v,s'))(d:K v s'):lE E X f args s K:=by
 refine⟨v,s',⟨1,λn hn lf e=>?_⟩,d⟩;obtain⟨n,rfl⟩:∃q,n=q+1:=⟨n-1,aa⟩;show(ob (E.fn.get f) λfn=>vU X f args s<| match fn.body with
   |none=>OX X f args s
   |some c=>bo (beq f X.look) (GP args s)<| dq (ble (dJ args) fn.ntmps)<| RC E fn (lS E (qv E X lf [] n) lf c (k9 args (nat_lit 0) .nil) s))=_
 refine' zaD;rw[CQ i,hb];exact b
def abC {f:FuncId}{fn:Func}{args:aV}{s:St}{v:Value}(h1:aZ.fn.get f=C fn)(hb:fn.body=O)(d:wE aW f=U)(h2:OX aW f args s=C (v,s)):bM f args s [] v:=λe h i=>lE.ext h1 hb d h2 ⟨[],⟨λ_ _ _=>rfl,fG _,λx d=>(by cases d),λx d=>(by cases d),ta,λb hb=>.inl hb,λb hb=>.inl hb,λb hb=>.inl hb,λb hb=>.inl hb⟩,rfl,rfl⟩
def OQ (ch:UInt8)(z:aw):Option Nat:=z.findIdx? λb=>decide (b=ch)
def agG (b ch:UInt8):beq b.toNat ch.toNat=decide (b=ch):=by by_cases h:b=ch;rw[h];simp;rw[kX h,<-tK,lH];exact λe=>h (tz.1 e)
def Y3:∀(z:aw)(i:Nat),wC ch.toNat z i=match OQ ch z with
  |some j=>((i+j:Nat):Int)
  |none=>-1
 |[],i=>rfl
 |b::z,i=>by
  have h:wC ch.toNat (b::z) i=bo (beq b.toNat ch.toNat) (.ofNat i) (wC ch.toNat z (i+1)):=rfl;rw[h,dC,Y3 z (i+1),agG];unfold OQ;rw[GA];by_cases hb:b=ch;rw[ai (by simpa using hb),ai (by simpa using hb)];rfl;rw[af (by simpa using hb),af (by simpa using hb)];cases z.findIdx? λb=>decide (b=ch) with
  |none=>rfl
  |some j=>show(((i+1+j:Nat)):Int)=((i+(j+1):Nat):Int);omega
def abD (s:St)(z:aw):bM 290 [sv z,bv ch] s [] (iv (oI (OQ ch z))):=by
 refine abC (fn:=f290) bV rfl bV ?_;have hb:ble (Nat.succ ch.toNat) (nat_lit 256)=J:=by rw[mm];exact ch.toNat_lt
 show ob (dq (ble (Nat.succ ch.toNat) (nat_lit 256)) (C (Value.int .i64 (wC ch.toNat z 0)))) (λv=>aD v s)=_;rw[hb];show aD (Value.int .i64 (wC ch.toNat z 0)) s=_;rw[Y3];cases OQ ch z with
 |none=>rfl
 |some j=>show aD (Value.int .i64 ((0+j:Nat):Int)) s=_;rw[kz];rfl
def J0 (s:St)(z:aw):bM 277 [sv z,bv ch] s [] (iv (oI (OQ ch z))):=by refine a8 f277 ?_;(repeat' first|(apply ag;exact aj;exact λs=>abD s _;intros)|refine' Ux|fail)
def J1 (s:St)(z:aw):bM 254 [sv z,sv [ch]] s [] (iv (oI (OQ ch z))):=by
 refine a8 f254 ?_;(repeat' first|(apply ag;exact aj;exact λs=>J0 s _;intros)|refine' cY|fail);all_goals refine' aC
 all_goals first|rfl|(have e:[ch]=z:=by assumption
                      subst e;unfold OQ;rw[GA,ai aq];rfl)
def Y4 (s:St)(z:aw):bM 231 [sv z,sv [ch]] s [] (iv (oI (OQ ch z))):=by refine a8 f231 ?_;(repeat' first|(apply ag;exact aj;exact λs=>J1 s _;intros)|refine' Ux|fail)
def mw (ch:UInt8)(z:aw):Nat:=Y (z.filter λb=>beq b.toNat ch.toNat)
def abE (s:St)(z:aw):bM 270 [sv z,bv ch] s [] (iv (mw ch z:Int)):=adk (fn:=f270) bV λk=>by
 have hb:ble (Nat.succ ch.toNat) (nat_lit 256)=J:=by rw[mm];exact ch.toNat_lt
 show dq (ble (Nat.succ ch.toNat) (nat_lit 256)) (aD (Value.int .i64 (Int.ofNat (dJ (z.filter λb=>beq b.toNat ch.toNat)))) s)=_;rw[hb];show aD (Value.int .i64 (Int.ofNat (dJ (z.filter λb=>beq b.toNat ch.toNat)))) s=_;rw[cR];rfl
def Y5 (s:St)(z:aw):bM 230 [sv z,sv [ch]] s [] (iv (mw ch z:Int)):=by refine a8 f230 ?_;(repeat' first|(apply ag;exact aj;exact λs=>abE s _;intros)|refine' nJ|fail)
def kj (x:UInt8)(s:aw):cut ch (x::s)=if x=ch then []::cut ch s else match cut ch s with
  |[]=>[[x]]
  |w::r=>(x::w)::r:=rfl
def yR:∀s:aw,cut ch s≠[]
 |[]=>by simp[cut]
 |x::s=>by rw[kj];split;simp;split<;>simp
def yS:∀z:aw,Y (cut ch z)=mw ch z+1
 |[]=>rfl
 |x::z=>by
  have ih:=yS z;have hc:mw ch (x::z)=if x=ch then mw ch z+1 else mw ch z:=by unfold mw;rw[vN];rw[agG];by_cases b:x=ch;rw[ai (by simpa using b),ai b];rfl;rw[af (by simpa using b),af b]
  rw[hc,kj];by_cases b:x=ch;rw[ai b,ai b,fS,ih];rw[af b,af b];cases h:cut ch z with
  |nil=>exact absurd h (yR z)
  |cons w r=>rwa[h] at ih
def Nq (x:UInt8)(z:aw):OQ ch (x::z)=if x=ch then C 0 else(OQ ch z).map (·+1):=by unfold OQ;rw[GA];by_cases b:x=ch;rw[ai (by simpa using b),ai b];rw[af (by simpa using b),af b]
def zS:∀z:aw,OQ ch z=O->cut ch z=[z]
 |[],_=>rfl
 |x::z,h=>by
  rw[Nq] at h;by_cases b:x=ch;rw[ai b] at h;cases h;rw[af b] at h;have d:OQ ch z=O:=by simpa using h
  rw[kj,af b,zS z d]
def zT:∀(z:aw)(m:Nat),OQ ch z=C m->m<Y z/\cut ch z=z.take m::cut ch (z.drop (m+1))
 |[],m,h=>by cases h
 |x::z,m,h=>by rw[Nq] at h;by_cases b:x=ch;rw[ai b] at h;cases h;exact⟨aq,by rw[kj,ai b];rfl⟩;rw[af b] at h;obtain⟨k,d,rfl⟩:=Gy.1 h;obtain⟨e,f⟩:=zT z k d;refine⟨by simpa using e,?_⟩;rw[kj,af b,f];rfl
def Em (all:List aw)(i:Nat):List aw:=all.take i++replicate (Y all-i) []
def En (all:List aw){i:Nat}(hi:i<=Y all):Y (Em all i)=Y all:=by unfold Em;rw[dB,de,sk];omega
def Nr (all:List aw){i:Nat}(hi:i<Y all){w:aw}{r:List aw}(b:all.drop i=w::r):(Em all i).set i w=Em all (i+1)/\all.drop (i+1)=r:=by
 have d:all[i]=w:=by have:=xF hi;rw[b] at this;exact(KU this).1.symm
 have e:all.drop (i+1)=r:=by have:=xF hi;rw[b] at this;exact(KU this).2.symm
 refine⟨?_,e⟩;unfold Em;rw[show Y all-i=(Y all-(i+1))+1 by omega,Rk,List.set_append_right _ _ (by rw[de];omega),de,tH aa,vG,List.set_cons_zero,<-d,vS,c8 hi,Option.toList_some,iD];rfl
def Ns (s:St)(z:aw)(G:Y z<=100000):eD aZ aW 158 [sv z,sv [ch],iv 0,iv (-1)] s [] 9 (cut ch z):=by
 have d:=yS (ch:=ch) z;have hle:mw ch z<=Y z:=KW _ _;refine a8 f158 ?_;(repeat' first|(apply ag;exact aj;exact λs=>Y5 s _;intros)|refine' cY|fail);rw[show min ((mw ch z:Int)+1) ((Y z:Int)+1)-1=(mw ch z:Int) by omega];rw[show(min ((mw ch z:Int)+1) ((Y z:Int)+1)).toNat=mw ch z+1 by omega];have u:replicate (mw ch z+1) ([]:aw)=Em (cut ch z) 0:=by unfold Em;rw[d];rfl
 rw[u];rw[show(Em (cut ch z) 0).length=mw ch z+1 by rw[En _ (jl _),d]];refine W.bu (λm l L=>∃(i:Nat)(y:aw)(c:Nat)(w:List aw),Le [(0,sv y),(1,sv [ch]),(2,iv 0),(3,iv (mw ch z:Int)),(9,H (ko bm) (mw ch z+1) c),(10,iv (i:Int))] l/\cb [.aU (H (ko bm) (mw ch z+1) c) 9 1 (ab w)] L/\m=mw ch z-i/\i<=mw ch z/\w=Em (cut ch z) i/\(cut ch z).drop i=cut ch y/\Y y<=100000)
                                                                                              (λl L=>∃(y:aw)(c:Nat)(w:List aw),Le [(0,sv y),(9,H (ko bm) (mw ch z+1) c),(10,iv (mw ch z:Int))] l/\cb [.aU (H (ko bm) (mw ch z+1) c) 9 1 (ab w)] L/\w=Em (cut ch z) (mw ch z)/\(cut ch z).drop (mw ch z)=cut ch y) _ ⟨0,z,_,_,bd,ak,rfl,aa,rfl,rfl,G⟩ ?_ ?_
 .rintro m l L ⟨i,y,c,w,hl,B,rfl,Q,e,b,A⟩;refine' cP;have v:Y w=mw ch z+1:=by rw[e,En _ aa,d]
  by_cases hi:i<mw ch z
  ·
   cases hs:OQ ch y with
   |none=>
    exfalso;rw[zS y hs] at b;have:=congrArg List.length b;rw[fq,d] at this;simp at this;omega
   |some j=>
    obtain⟨N,g2⟩:=zT y j hs;rw[g2] at b;obtain⟨f,x⟩:=Nr (cut ch z) aa b;have t:∀s,bM 231 [sv y,sv [ch]] s [] (iv (j:Int)):=λs=>by have:=Y4 (ch:=ch) s y;rwa[hs] at this
    have D:(Y ([ch]:aw):Int)=1:=rfl;(repeat' first|(apply ag;exact aj;(exact t);intros)|refine' cY|fail);all_goals exact⟨_,aa,i+1,y.drop (j+1),c,w.set i (y.take j),bd,ak,rfl,aa,by rw[e];exact f,x,by rw[fq];omega⟩
  have o:i=mw ch z:=by omega
  subst o;refine' iK;all_goals exact⟨y,c,w,bd,ak,e,b⟩
 rintro l L ⟨y,c,w,hl,B,e,b⟩;refine' gh;have v:Y w=mw ch z+1:=by rw[e,En _ aa,d]
 have k:(cut ch z).drop (mw ch z)=[y]:=by
  have A:Y (cut ch y)=1:=by rw[<-b,fq,d];omega
  cases hs:OQ ch y with
  |none=>rw[b,zS y hs]
  |some j=>rw[(zT y j hs).2,fS] at A;have:=yS (ch:=ch) (y.drop (j+1));omega
 obtain⟨f,x⟩:=Nr (cut ch z) aa k;repeat' first|refine' aio|refine' cY|fail
 have F:w.set (mw ch z) y=cut ch z:=by rw[e,f];unfold Em;rw[<-d,vG,List.replicate_zero,fT,lG]
 rw[F,<-d];refine' kT;all_goals rfl
def Eo (s:St)(z:aw)(e:Y z<=100000):eD aZ aW 101 [sv z,sv [ch]] s [] 9 (cut ch z):=by
 refine a8 f101 ?_;(repeat' first|(apply lp;exact aj;exact λs=>Ns s _ aT;intro _ _ b d _ _)|refine' eI|fail);all_goals refine' kT
 all_goals rfl
def Ep (s:St)(z:aw)(d:Y z<=100000)(ha:∀c∈z,c.toNat<128):bM 160 [sv z] s [] (M (!bG z)):=by have b:∀s,bM 25 [sv z] s [] (M (bG z)):=λs=>DL s z d ha;refine a8 f160 ?_;(repeat' first|(apply ag;exact aj;exact λs=>b s;intros)|refine' Ux|fail)
def abF (s:St)(a:aP)(c:Nat)(p:List aw)(y:Y p<=100000)(hn:∀e∈p,Y e<=100000/\∀c∈e,c.toNat<128)(hr:bJ s a (Y p) 1 (ab p)):bM 232 [H a (Y p) c,.func (.func 160) ⟨[]⟩ ⟨[]⟩] s (ah a) (iv (oI (p.findIdx? λz=>!bG z))):=by
 have hd:=Rd.of hr (A:=ah a) λb hb=>hb;refine a8 f232 ?_;refine' iK;refine W.bu (λm l L=>∃(i:Nat),Le [(0,H a (Y p) c),(1,.func (.func 160) ⟨[]⟩ ⟨[]⟩),(7,iv (Y p:Int)),(8,iv (i:Int))] l/\cb [] L/\m=Y p-i/\i<=Y p/\∀j:Nat,j<i->bG (p.getD j au.ad)=J)
  (λl L=>Le [] l/\cb [] L/\∀j:Nat,j<Y p->bG (p.getD j au.ad)=J) _ ⟨0,bd,ak,rfl,aa,λj h=>by omega⟩ ?_ ?_
 .rintro m l L ⟨i,hl,w,rfl,x,k⟩;refine' cP;by_cases hi:i<Y p;obtain⟨v,g2⟩:=hn _ (a7 hi au.ad);cases hb:bG (p.getD i au.ad) with
  |true=>(have f:∀s,bM 160 [sv (p.getD i au.ad)] s [] (M U):=λs=>by have:=Ep s _ v g2;rwa [hb] at this);(repeat' first|refine' zC|(apply ag;exact aj;(exact f);intros)|refine' cY|fail);all_goals exact⟨_,aa,i+1,bd,ak,rfl,aa,λj t=>by by_cases u:j=i;rw[u];exact hb;exact k j aa⟩
  |false=>(have f:∀s,bM 160 [sv (p.getD i au.ad)] s [] (M J):=λs=>by have:=Ep s _ v g2;rwa [hb] at this);(repeat' first|refine' zC|(apply ag;exact aj;(exact f);intros)|refine' cY|fail);(have e:(p.findIdx? λz=>!bG z)=C i:=nU (d:=au.ad (α:=aw)) hi (by rw[hb];rfl) λj t o=>by rw[k j t] at o;cases o);(all_goals refine' aC);all_goals(rw[e];rfl)
  (refine' iK);all_goals exact⟨bd,ak,λj t=>k j aa⟩
 rintro l L ⟨hl,w,k⟩;refine' gh;have e:(p.findIdx? λz=>!bG z)=O:=yb au.ad λj t o=>by rw[k j t] at o;cases o
 refine' eR;all_goals refine' aC
 all_goals(rw[e];rfl)
def J2 (s:St)(a:aP)(c:Nat)(p:List aw)(d:Y p<=100000)(hn:∀e∈p,Y e<=100000/\∀c∈e,c.toNat<128)(hr:bJ s a (Y p) 1 (ab p)):bM 159 [H a (Y p) c,.func (.func 160) ⟨[]⟩ ⟨[]⟩] s (ah a) (M (!p.all bG)):=by
 have hd:=Rd.of hr (A:=ah a) λb hb=>hb;have hix:=λs=>abF s a c p d hn;have e:(p.findIdx? λz=>!bG z).isSome= !p.all bG:=by rw[Rv,List.not_all_eq_any_not]
 rw[<-e];clear e hn;cases hf:p.findIdx? λz=>!bG z with
 |none=>
  rw[hf] at hix;refine a8 f159 ?_;refine' abj;all_goals refine' aC
  all_goals rfl
 |some i=>
  rw[hf] at hix;refine a8 f159 ?_;refine' abj;all_goals refine' aC
  all_goals(unfold oI;simp;rfl)
def Ic (s:St)(m:Int)(hm:0<=m/\m<=100000):bM 108 [sv [0],iv m] s [] (sv (Ev.FH [0] m.toNat)):=by obtain⟨n,rfl⟩:=tI hm.1;refine adk (fn:=f108) bV λk=>?_;show dq (ble (1*n) 1000000&&ble n 1000000) (aD (sv (Ev.FH [0] n)) s)=_;rw[dQ aa,dQ aa];rfl
variable {e:Nat}
def Er:∀p:List aw,Lt (ab p)=C p
 |[]=>rfl
 |x::p=>by show(Lt (ab p)).map (x::·)=_;rw[Er p];rfl
def zU:∀z:aw,eQ [47] (cut 47 z)=z
 |[]=>rfl
 |x::z=>by
  have ih:=zU z;rw[kj];cases h:cut 47 z with
  |nil=>exact absurd h (yR z)
  |cons w r=>
   rw[h] at ih;by_cases b:x=47;rw[ai b,b];show []++([47]++eQ [47] (w::r))=_;rw[ih];rfl;rw[af b];cases r with
   |nil=>show x::w=_;rw[show w=z from ih]
   |cons y r=>show(x::w)++_=_;rw[jk];exact congrArg (x::·) ih
def uU {s:St}{A:List Nat}:Inv ⟨s,([]:cq).flatMap It.bC,A⟩ s []:=
 ⟨λ_ _ _=>rfl,fG _,λx d=>(by cases d),λx d=>(by cases d),ta,λb hb=>.inl hb,λb hb=>.inl hb,λb hb=>.inl hb,λb hb=>.inl hb⟩
def tg.fr {s:St}{L:cq}(h:tg Γ.s0 a n c e sz)(hi:Inv Γ s L)(j:∀b∈ah a,b∉Γ.M):tg s a n c e sz:=by obtain h|⟨b,o,cs,w,rfl,d,f,i⟩:=h;exact .inl h;exact .inr ⟨b,o,cs,w,rfl,vF d hi.le,(hi.fr b d (j b (by simp[ah]))).trans f,i⟩
def zE {E:hJ}{X:fb}{l:Kn}{L:cq}{K:KO}{g:FuncId}{xs:List Operand}{ts:Array TypeId}{vs:aV}{cs:aV}{r:Value}(f:iu l xs vs)(h:∀s,bJ s a n sz cs->tg s a n c e sz->jA E X g vs s (ah a) r)(hd:Rd Γ a n sz cs)(hv:tg Γ.s0 a n c e sz)(k:∀m b,gk L m->m<=b->K r L m b (iI (ah a) [] m b) (iJ [] m b)):WC E X Γ l g xs ts L K:=
 dZ f (λs hi=>by have d:=(ga.rd (L:=L) hd).row hi;exact⟨d.2,h s d.1 (tg.fr hv hi hd.M)⟩) k
def abG (s:St)(a:aP)(c:Nat)(p:List aw)(h1:1<=Y p)(h2:Y p<=1000)(hl:Y (eQ [47] p)<=1000000)(hr:bJ s a (Y p) 1 (ab p))(hv:tg s a (Y p) c 9 1):bM 99 [H a (Y p) c,sv [47]] s (ah a) (sv (eQ [47] p)):=λi j m=>by
 have f:=uU (s:=s) (A:=ah a);obtain⟨d,⟨h,_⟩|⟨b,o,cs,e,w,rfl,hb,hg,ht⟩⟩:=hr;omega;rw[sh] at ht;have cg:o+Y p<=Y cs:=by have h4:=congrArg List.length ht;rw[de,fq,d] at h4;omega
 refine' zaq;refine lE.Ji (fn:=f99) bV (s':=s.aL b) (v:=sv (eQ [47] p)) (λk=>?_) ⟨[],f.aL ⟨hb,.inl (by simp[ah])⟩,rfl,rfl⟩;show(s.row b λcs e _ s=>dq (ble (o+Y p) (Y cs)&&((ble (Nat.succ c) cl&&ble (Y p) c)||(ble cl c&&beq o (c-cl)&&beq e 9))&&ble 1 (Y p)&&ble (Y p) 1000)<| ob (Lt ((cs.drop o).take (Y p))) λl=>dq (ble (Y (eQ [47] l)) 1000000)<| aD (.string ⟨⟨eQ [47] l⟩⟩) s)=_;unfold St.row St.look;rw[hg];simp only[bF];rw[agy,dQ cg,dQ h1,dQ h2,ht,Er];show dq (ble (Y (eQ [47] p)) 1000000) _=_;rw[dQ hl];rfl
def AT (s:St)(a:aP)(c:Nat)(p:List aw)(h1:1<=Y p)(h2:Y p<=1000)(hl:Y (eQ [47] p)<=1000000)(hr:bJ s a (Y p) 1 (ab p))(hv:tg s a (Y p) c 9 1):bM 43 [H a (Y p) c] s (ah a) (sv (47::eQ [47] p)):=by have hd:=Rd.of hr (A:=ah a) λb hb=>hb;have d:=λs=>abG s a c p h1 h2 hl;refine a8 f43 ?_;(repeat' first|(apply zE;exact aj;(intro s hr hv;exact d s hr hv);(exact hd);(exact hv);intros)|refine' Ux|fail)
def U3 (s:St)(a:aP)(c:Nat)(p:List aw)(h1:1<=Y p)(h2:Y p<=1000)(hl:Y (eQ [47] p)<=1000000)(hn:∀e∈p,Y e<=100000/\∀c∈e,c.toNat<128)(hr:bJ s a (Y p) 1 (ab p))(hv:tg s a (Y p) c 9 1)(ok:Bool)(d:ok=(decide (Y p<=4)&&p.all bG)):bM 102 [H a (Y p) c] s (ah a) (.tuple ⟨[sv (if ok then 47::eQ [47] p else []),M ok]⟩):=by
 have hd:=Rd.of hr (A:=ah a) λb hb=>hb;have PW:=λs=>AT s a c p h1 h2 hl;have hct:=λs=>J2 s a c p aa hn;clear hn;by_cases f:Y p<=4;rw[gZ f,wo] at d;rw[<-d] at hct;clear d;cases ok with
 |true=>refine a8 f102 ?_;repeat' first|refine' ad9|refine' aea|refine' nJ|fail
 |false=>refine a8 f102 ?_;repeat' first|refine' ad9|refine' aea|refine' nJ|fail
 rw[kX f,tO] at d;subst d;refine a8 f102 ?_;repeat' first|refine' ad9|refine' aea|refine' nJ|fail
variable {z:aw}
def J3 (s:St)(z:aw)(b:Y z<=100000):bM 228 [sv z,sv [47]] s [] (M (decide (z.take 1=[47]))):=by
 refine a8 f228 ?_;refine' iK;all_goals refine' aC
 all_goals first|rfl|(cases z with
  |nil=>rfl
  |cons x z=>exfalso;simp only[fS,jm] at sN;omega)
def Nt (s:St)(z:aw)(d:Y z<=100000):bM 157 [sv z,sv [47]] s [] (.tuple ⟨[sv (if z.take 1=[47] then z.drop 1 else z),M (decide (z.take 1=[47]))]⟩):=by
 have b:=λs=>J3 s z d;by_cases h:z.take 1=[47]
 .rw[ai h,gZ h];rw[gZ h] at b;have f:1<=Y z:=by have:=congrArg List.length h;rw[de] at this;simp at this;omega
  refine a8 f157 ?_;(repeat' first|(apply ag;exact aj;(exact b);intros)|refine' nJ|fail)
 rw[af h,kX h];rw[kX h] at b;refine a8 f157 ?_;(repeat' first|(apply ag;exact aj;(exact b);intros)|refine' nJ|fail)
def J4 (s:St)(z:aw)(f:Y z<=100000):bM 100 [sv z,sv [47]] s [] (.tuple ⟨[sv (if z.take 1=[47] then z.drop 1 else z),M (decide (z.take 1=[47]))]⟩):=by
 have d:=λs=>Nt s z f;generalize(if z.take 1=[47] then z.drop 1 else z)=y at *
 generalize decide (z.take 1=[47])=b at *
 refine a8 f100 ?_;(repeat' first|(apply ag;exact aj;(exact d);intros)|refine' nJ|fail)
def zF {Γ:ng}{K:KO}{g:FuncId}{xs:List Operand}{ts:Array TypeId}{vs:aV}{a:aP}{n c d j:Nat}{cs:aV}{r:Value}(o:iu l xs vs)(hm:It.aU (H a n c) j d cs∈L)(h:∀s,bJ s a n d cs->tg s a n c j d->jA E X g vs s (ah a) r)(k:∀m f,gk L m->m<=f->K r L m f (iI (ah a) [] m f) (iJ [] m f)):WC E X Γ l g xs ts L K:=
 dZ o (λs hi=>by have i:=(ga.aU (Γ:=Γ) hm).row hi;exact⟨i.2,h s i.1 (nV.slv (hi.it _ hm) λb hb=>(i.2 b hb).1)⟩) k
def W.vv {Γ:ng}{c:Code}{Q:Ex->Kn->cq->Prop}{e:TypeId}(h:W E X Γ c l (.aU (ew) e 1 (ab ([]:List aw))::L) Q):W E X Γ c l L Q:=λj s i d=>h j s i ⟨d.fr,d.le,λx f=>by
 obtain rfl|f:=cA.1 f;exact .inl ⟨rfl,rfl⟩;exact d.it x f,λx f b hb=>by
 obtain rfl|f:=cA.1 f;cases hb;exact d.lt x f b hb,d.nd,d.cC,d.wr,d.top,d.ye⟩
def Ie (h:z≠[47]):bQ z=(decide (z.take 1=[47])&&(decide (Y (cut 47 (z.drop 1))<=4)&&(cut 47 (z.drop 1)).all bG)):=by
 unfold bQ aH;rw[af h,af h];cases z with
 |nil=>rfl
 |cons x r=>rw[kj];show(if(x::r=[]||decide (x≠47))=J then U else _)=(decide ([x]=[47])&&(decide (Y (cut 47 r)<=4)&&(cut 47 r).all bG));by_cases b:x=47;subst b;rw[af aq,ai rfl];show((cut 47 r).all bG&&decide (Y (cut 47 r)<=4))=_;rw[gZ rfl,wo,Bool.and_comm];rw[ai (by simp[b]),kX (λe=>b (KU e).1),tO]
def zV:∀p:List aw,p≠[]->(∀e∈p,Y e<=4)->Y (eQ [47] p)+1<=5*Y p
 |[],h,_=>absurd rfl h
 |[x],_,h=>by have:=h x ed;show Y x+1<=5*1;omega
 |x::y::l,_,h=>by
  have d:=h x ed;have f:=zV (y::l) aq λe b=>h e (dI _ b);show(x++([47]++eQ [47] (y::l))).length+1<=_;rw[dB,dB,fS,fS (a:=x)];simp only[jm] at *
  omega
def Qq (h:bQ z=J):Y z<=20:=by
 by_cases h0:z=[47];rw[h0];decide;rw[Ie h0,ep,ep,gv,gv,o5] at h;obtain⟨i,j,b⟩:=h;have d:=zV _ (yR (z.drop 1)) λe f=>by have:=b e f;unfold bG at this;simp at this;omega
 rw[zU,fq] at d;omega
def Nu {P:UInt8->Prop}:∀z:aw,(∀c∈z,P c)->∀e∈cut 47 z,Y e<=Y z/\∀c∈e,P c
 |[],_,e,b=>by
  have:e=[]:=by simpa[cut] using b
  subst this;exact⟨fG _,λc hc=>by cases hc⟩
 |x::z,h,e,b=>by
  have ih:=Nu z λc hc=>h c (dI _ hc);rw[kj] at b;split at b;rcases cA.1 b with rfl|b;exact⟨jl _,λc hc=>by cases hc⟩;exact⟨Nat.le_succ_of_le (ih e b).1,(ih e b).2⟩
  split at b;rename_i hc;exact absurd hc (yR z);rename_i w r hc;obtain rfl|b:=cA.1 b;have:=ih w (by rw[hc];exact ed);exact⟨Nat.succ_le_succ this.1,λc hc=>by obtain rfl|hc:=cA.1 hc;exact h _ ed;exact this.2 c hc⟩;have:=ih e (by rw[hc];exact dI _ b);exact⟨Nat.le_succ_of_le this.1,this.2⟩
def F2 (s:St)(z:aw)(A:Y z<=100000)(ha:∀c∈z,c.toNat<128):et aZ aW 45 [sv z] s [] 9 (cm z) (bQ z):=by
 by_cases h0:z=[47]
 .subst h0;refine a8 f45 ?_;refine W.vv (e:=9) ?_;refine' Yg;all_goals try refine PN
  all_goals refine' zar
 have j:=Ie h0;have hcp:=λs=>J4 s z A;by_cases ht:z.take 1=[47]
 .rw[ai ht,gZ ht] at hcp;rw[gZ ht,wo] at j;by_cases hl:Y z<=20;have Sc:=λs=>Eo (ch:=47) s (z.drop 1) (by rw[fq];omega);have u:=zU (z.drop 1);have m:=yR (ch:=47) (z.drop 1);have f:=Nu (z.drop 1) λc hc=>ha c (List.mem_of_mem_drop hc);have t:=yS (ch:=47) (z.drop 1);have k:mw 47 (z.drop 1)<=20:=jR (KW _ _) (by rw[fq];omega);have i:aH z=cut 47 (z.drop 1):=by
   unfold aH;rw[af h0];cases z with
   |nil=>simp at ht
   |cons x r=>(have w:x=47:=by simpa using ht);rw[kj,ai w];rfl
  generalize cut 47 (z.drop 1)=p at *
  have o:47::eQ [47] p=z:=by
   rw[u];cases z with
   |nil=>simp at ht
   |cons x r=>(have w:x=47:=by simpa using ht);rw[w];rfl
  have v:1<=Y p:=by cases p with
   |nil=>exact absurd rfl m
   |cons x p=>simp
  (have hpo:∀s a c,bJ s a (Y p) 1 (ab p)->tg s a (Y p) c 9 1->bM 102 [H a (Y p) c] s (ah a) (.tuple ⟨[sv (if bQ z then z else []),M (bQ z)]⟩):=λs a c hr hv=>by have:=U3 s a c p v aa (by rw[u,fq];omega) (λe y=>⟨by have:=(f e y).1;rw[fq] at this;omega,(f e y).2⟩) hr hv (bQ z) j;rwa [o] at this);clear o u f j m t k;cases d:bQ z with
  |true=>(have b:cm z=p:=by unfold cm;rw[ai d,i]);rw[d] at hpo;rw[b];clear i b;refine a8 f45 ?_;refine' Yg;(all_goals try refine PN);(all_goals refine' eu);all_goals rfl
  |false=>(have b:cm z=[]:=by unfold cm;rw[d];rfl);rw[d] at hpo;rw[b];clear i b;refine a8 f45 ?_;refine W.vv (e:=9) ?_;refine' Yg;(all_goals try refine PN);all_goals refine' zar
  have d:bQ z=U:=by
   cases h:bQ z with
   |false=>rfl
   |true=>exact absurd (Qq h) hl
  (have b:cm z=[]:=by unfold cm;rw[d];rfl);rw[d,b];refine a8 f45 ?_;refine W.vv (e:=9) ?_;refine' Yg;(all_goals try refine PN);all_goals refine' zar
 rw[af ht,kX ht] at hcp;rw[kX ht,tO] at j;have b:cm z=[]:=by unfold cm;rw[j];rfl
 rw[j,b];refine a8 f45 ?_;refine W.vv (e:=9) ?_;refine' Yg;all_goals try refine PN
 all_goals refine' zar
end Go.Pl
namespace Go.Pl
open Go.Lg


variable {q:ot}{n:Int}
structure OkG (p:List cB)(q:ot):Prop where
 tl:1<=q.length/\q.length<=16
 st:nM q
 t0:∃x∈q,x.id=0/\x.ej=true
 tx:∀x∈q,(0<=x.id/\x.id<=15)/\(x.ej=true->x.b0=[])/\x.b0.length<=192
 sn:rI p
 nr:(⟨[47],0⟩:cB)∈p
 th:∀x∈p,(Jh q x.id).isSome=true
 up:∀x∈p,x.ar≠[47]->bG (bS x.ar).2=true/\∃w∈p,w.ar=(bS x.ar).1/\UP q w.id=true
 ct:∀n,UQ p n<=9
 cf:∀n,UP q n=true->UQ p n<=1
 cn:∀z,(p.countP λx=>decide (x.ar≠[47])&&decide ((bS x.ar).1=z))<=12
 al:∀x∈q,∃w∈p,w.id=x.id
def SD:∀(s:aw)(t:Nat),t<Y s->bP (s.take t) s=J
 |[],t,h=>by simp at h
 |c::s,0,_=>rfl
 |c::s,t+1,h=>by rw[Rj,pK,af (Aj _),af (Aj _)];exact SD s t (by simpa using h)
def Nv {z:aw}(h:bG (bS z).2=J):bP (bS z).1 z=J:=by
 unfold bS at h⊢;cases hl:iT z with
 |none=>rw[hl] at h;cases h
 |some t=>
  rw[hl] at h;have c:=zP z t hl;have h:bG (z.drop (t+1))=J:=h;have a:z.drop (t+1)≠[]:=λe=>by rw[e] at h;cases h
  have b:t+1<Y z:=by refine B6 λhn=>a (xC aa)
  exact SD z (max t 1) aa
def Y6 (p:List cB)(n:Int):UQ p n=cL p (Y p) n:=(zQ (λx:cB=>decide (x.id=n)) fp p).symm
def aeq {p:List cB}(hr:p.getD 0 fp=⟨[47],0⟩)(h0:∀j,1<=j->j<Y p->(p.getD j fp).ar≠[47])(z:aw):(p.countP λx=>decide (x.ar≠[47])&&decide ((bS x.ar).1=z))=cN p (Y p) z:=by unfold cN;rw[<-zQ (λx:cB=>decide (x.ar≠[47])&&decide ((bS x.ar).1=z)) fp p];refine acy λj a=>?_;have a:=B4.1 a;by_cases b:j=0;subst b;rw[hr];simp;have:=h0 j aa a;rw[gZ this,gZ (show 1<=j by omega)]
def OkG.f {p:List cB}(h:OkG p q):OkF ⟨p,q⟩:=by
 have v:0<Y p:=V3 h.nr;have r:∀j,j<Y p->p.getD j fp∈p:=λj c=>gX fp c;have d:∀i j,j<Y p->i<j->bP (p.getD i fp).ar (p.getD j fp).ar=J:=λi j c D=>uq h.sn fp D c;have a:p.getD 0 fp=⟨[47],0⟩:=by
  obtain⟨j,c,k⟩:=si h.nr;have k:p.getD j fp=⟨[47],0⟩:=by rwa[eX,c8 c]
  by_cases s:j=0;rw[<-s];exact k;exfalso;have g:=d 0 j c aa;rw[k] at g;have N:(p.getD 0 fp).ar≠[47]:=rH g;obtain⟨A,w,y,l,_⟩:=h.up _ (r 0 v) N;have b:=Nv A;rw[<-l] at b;obtain⟨m,hm,rfl⟩:=si y;by_cases E:m=0;subst E;rw[eX,c8 v] at b;have b:bP p[0].ar p[0].ar=J:=b;rw[kg] at b;cases b;have L:=d 0 m hm aa;rw[show p.getD m fp=p[m] by rw[eX,c8 hm];rfl] at L;have:=CP L;rw[b] at this;cases this
 have u:∀j,1<=j->j<Y p->(p.getD j fp).ar≠[47]:=λj g c e=>by have:=d 0 j c aa;rw[a,e,kg] at this;cases this
 obtain⟨R,K,o,z⟩:=h.t0;have x:(q.getD 0 nG).id=0/\(q.getD 0 nG).ej=J:=by
  obtain⟨j,c,rfl⟩:=si K;have e:q.getD j nG=q[j]:=by rw[eX,c8 c];rfl
  by_cases s:j=0;subst s;rw[e];exact⟨o,z⟩;exfalso;have g:=uq h.st nG (show 0<j by omega) c;rw[e,o] at g;have:=(h.tx _ (gX nG (show 0<Y q by omega))).1.1;omega
 refine⟨by have:=h.tl;show fI (Y q:Int) 1 16=J;unfold fI;simp only[ep,gv];omega,x.1,x.2,λi hi=>?_,by show Y p≠0;omega,a,λi hi=>⟨h.th _ (r i hi),λg=>?_,?_,λhf=>?_⟩,λi hi=>?_⟩;have g:=h.tx _ (gX nG hi);unfold tB fI;simp only[ep,gv,ra,rh,mW];refine⟨⟨⟨g.1,?_⟩,?_⟩,aa⟩;by_cases B:0<i;right;have:=uq h.st nG (show i-1<i by omega) hi;omega;exact .inl B;cases hb:(q.getD i nG).ej with
 |false=>exact .inl rfl
 |true=>exact .inr (λe=>e (g.2.1 hb))
 obtain⟨A,w,y,l,G⟩:=h.up _ (r i hi) (u i g hi);have b:=Nv A;obtain⟨m,hm,rfl⟩:=si y;have e:p.getD m fp=p[m]:=by rw[eX,c8 hm];rfl
 have F:m<i:=by (refine B6 λhn=>?_);rw[<-l,<-e] at b;obtain t|Q:=jc i m;have:=CP (d i m hm t);rw[b] at this;cases this;(have:m=i:=by omega);subst this;rw[kg] at b;cases b
 refine⟨d (i-1) i hi aa,⟨m,F,by rw[e];exact l,?_⟩,A,?_⟩;show UP q (p.getD m fp).id=J;rwa[e];refine jR (abv p _ (show i+1<=Y p by exact hi)) ?_;rw[<-aeq a u];exact h.cn _;refine jR (Sx p _ (show i+1<=Y p by exact hi)) ?_;rw[<-Y6];exact h.ct _;refine jR (Sx p _ (show i+1<=Y p by exact hi)) ?_;rw[<-Y6];exact h.cf _ hf;obtain⟨w,y,hid⟩:=h.al _ (gX nG hi);obtain⟨m,hm,rfl⟩:=si y;exact⟨m,hm,by show(p.getD m fp).id=_;rwa[eX,c8 hm]⟩
def SE:(Jh q n).isSome=J↔∃y∈q,y.id=n:=by unfold Jh;rw[Rv,Cj];simp
def Y7 (hs:nM q):UP q n=J↔∃y∈q,y.id=n/\y.ej=J:=by
 unfold UP;cases ht:Jh q n with
 |none=>refine⟨λe=>(by cases e),λ⟨y,a,hi,_⟩=>?_⟩;have:=SE.2 ⟨y,a,hi⟩;rw[ht] at this;cases this
 |some t=>
  obtain⟨c,d⟩:=YD ht;refine⟨λe=>⟨_,gX nG c,d,e⟩,λ⟨y,a,hi,hf⟩=>?_⟩;obtain⟨j,b,rfl⟩:=si a;have e:q.getD j nG=q[j]:=by rw[eX,c8 b];rfl
  have:=aej hs b;rw[e,hi,ht] at this;cases this;show(q.getD t nG).ej=J;rwa[e]

def U4 (z:aw)(x:cB):Bool:=decide (x.ar≠[47])&&decide ((bS x.ar).1=z)
structure OkP (p:List cB)(q:ot):Prop where
 tl:1<=q.length/\q.length<=16
 st:(q.map eF.id).Nodup
 t0:∃x∈q,x.id=0/\x.ej=true
 tx:∀x∈q,(0<=x.id/\x.id<=15)/\(x.ej=true->x.b0=[])/\x.b0.length<=192
 sn:(p.map cB.ar).Nodup
 nr:(⟨[47],0⟩:cB)∈p
 th:∀x∈p,∃y∈q,y.id=x.id
 up:∀x∈p,x.ar≠[47]->bG (bS x.ar).2=true/\∃w∈p,w.ar=(bS x.ar).1/\∃y∈q,y.id=w.id/\y.ej=true
 ct:∀n,UQ p n<=9
 cf:∀y∈q,y.ej=true->UQ p y.id<=1
 cn:∀z,p.countP (U4 z)<=12
 al:∀x∈q,∃w∈p,w.id=x.id
def Ig (x:cB):∀l:List cB,(Ev.uo x l).Perm (x::l)
 |[]=>.refl _
 |y::l=>by unfold Ev.uo;split;exact .refl _;exact((Ig x l).cons y).trans (.swap x y l)
def Es:∀l:List cB,(Ev.lW l).Perm l
 |[]=>.refl _
 |x::l=>(Ig x (Ev.lW l)).trans ((Es l).cons x)
def Ih (x:eF):∀l:ot,(Ev.FF x l).Perm (x::l)
 |[]=>.refl _
 |y::l=>by unfold Ev.FF;split;exact .refl _;exact((Ih x l).cons y).trans (.swap x y l)
def Et:∀l:ot,(Ev.AA l).Perm l
 |[]=>.refl _
 |x::l=>(Ih x (Ev.AA l)).trans ((Et l).cons x)
def OkP.g {p:List cB}{q:ot}(h:OkP p q):OkG (Ev.lW p) (Ev.AA q):=by
 have hs:=xk q h.st;have hl:=(Et q).length_eq;have hc:∀P,(Ev.lW p).countP P=p.countP P:=λP=>(Es p).countP_eq P;have d:∀n,UP (Ev.AA q) n=J↔∃y∈q,y.id=n/\y.ej=J:=λn=>by rw[Y7 hs];constructor;rintro⟨y,c,a⟩;exact⟨y,(lB q y).1 c,a⟩;rintro⟨y,c,a⟩;exact⟨y,(lB q y).2 c,a⟩
 refine⟨by rw[hl];exact h.tl,hs,?_,λx b=>h.tx x ((lB q x).1 b),sS p h.sn,(lA p _).2 h.nr,λx b=>?_,λx b i=>?_,λn=>?_,λn hn=>?_,λz=>?_,λx b=>?_⟩;obtain⟨x,b,a⟩:=h.t0;exact⟨x,(lB q x).2 b,a⟩;obtain⟨y,c,a⟩:=h.th x ((lA p x).1 b);exact SE.2 ⟨y,(lB q y).2 c,a⟩;obtain⟨a,w,f,e,j⟩:=h.up x ((lA p x).1 b) i;exact⟨a,w,(lA p w).2 f,e,(d _).2 j⟩;unfold UQ;rw[hc];exact h.ct n;obtain⟨y,c,rfl,e⟩:=(d n).1 hn;unfold UQ;rw[hc];exact h.cf y c e;rw[hc];exact h.cn z;obtain⟨w,f,a⟩:=h.al x ((lB q x).1 b);exact⟨w,(lA p w).2 f,a⟩
def Qr {p:List cB}(h:(p.map cB.ar).Nodup){x y:cB}(c:x∈p)(d:y∈p)(e:x.ar=y.ar):x=y:=by rw[Gn,Af] at h;obtain⟨i,hi,rfl⟩:=si c;obtain⟨j,b,rfl⟩:=si d;obtain a|a|a:=Ri i j;exact absurd e (Gm.1 h i j hi b a);subst a;rfl;exact absurd e.symm (Gm.1 h j i b hi a)
def Eu:∀(z r:aw)(s:Nat),iT r=C s->iT (z++r)=C (Y z+s)
 |[],r,s,h=>by rw[kG,h,jm,kz]
 |c::z,r,s,h=>by rw[jk];unfold iT;rw[Eu z r s h,fS];show C (Y z+s+1)=_;congr 1;omega
end Go.Pl
