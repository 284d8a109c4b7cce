/- Lemmas of the proof. No conditions. -/
import Derived.Test.YtnealhiolaklpaaGreatDoorAd4
set_option maxRecDepth 100000
set_option maxHeartbeats 4000000
set_option linter.all false
open Bool renaming false->U,true->J
open Option renaming none->O,some->C
open List renaming length->Y
open Go.Value renaming slice->H,bool->M,int->I
open Go.Proofs.Tryz
open Nat (beq ble mul)
open Go.Result (andThen_ok)
open Go.Sem (run_bind)
open Go.Region (binds)
open List (replicate)
open Int (toNat)
open Go.Builtin (firstCells)
open Go.Instr (checkKey)
namespace Go.Pl
open Go Go.Ev Go.Lg Go.Proofs
variable {E:hJ}{X:fb}{Γ:ng}{l:Kn}{L R:cq}{K:KO}
variable {g:FuncId}{xs:List Operand}{ts:Array TypeId}{vs:aV}{v:SA}{f f':Fs}{r:Value}
abbrev fsC (v:SA)(f:Fs):aV:=[H v.r 64 v.rc,H v.f 64 v.fc,H v.l 64 v.lc,iv f.st.dm,H v.g (Y f.st.aS) v.gc,iv f.st.iz,H v.d (Y f.st.bL) v.dc,M f.st.same,iv f.t.bU.row,iv f.t.bU.bE,iv f.t.bU.size,iv f.t.bU.sum,iv f.t.bU.level,iv f.t.depth,iv f.t.many,M f.dz]
abbrev kE (b:Nat)(v:SA)(f:Fs):cq:=.box b (fsC v f) 181 U::db v f.st
abbrev mK (E:hJ)(X:fb)(g:FuncId)(vs:aV)(s:St)(b:Nat)(v:SA)(f f':Fs)(r:Value):Prop:=eJ E X g vs s (kE b v f) [] λR L=>∃a:SA,R=r/\L=kE b a f'
section
variable {b:Nat}
def YG (e:iu l xs vs)(h:∀s,mK E X g vs s b v f f' r)(d:l3 (kE b v f) L R)(k:∀m a v',gk L m->m<=a->K r (kE b v' f'++R) m a (iI [] (kE b v f) m a) (iJ (kE b v f) m a)):WC E X Γ l g xs ts L K:=
 cI (Lm:=kE b v f) (R:=R) e d.bX (λs hi b hb=>by cases hb) (λs _=>h s) (by rintro r L' m a c hm ⟨v',rfl,rfl⟩;exact k m a v' c hm)
def oM {rs:List ResultVar}{x:Ex}{v':SA}{ws:aV}(c:x= .normal\/x= .ret)(hr:AE E l L rs ws)(a:cb (kE b v' f') L)(hv:fj ws=r):
  zt E rs (λR L=>∃v':SA,R=r/\L=kE b v' f') x l L:=⟨c,ws,_,hr,a,v',hv,rfl⟩
end
def sa (s:St)(b:Nat)(v:SA)(f:Fs)(h:cZ 80000 f.st)(ht:ee f.t)(k:Nat)(a:k<16)(n:dX):mK aZ aW 174 [bk b,iv k,nv n] s b v f (f.put k n) (.tuple ⟨[]⟩):=by
 unfold Fs.put;rw[px];refine a8 f174 ?_;dsimp only[kE,db];cases hf:f.dz with
 |true=>
  rw[ai rfl];repeat' first|refine' ac2|refine' eI|fail
  refine' acP;rfl
 |false=>
  rw[af cx];repeat' first|refine' ac2|refine' eI|fail
  refine' acP;rfl
variable {s:St}
structure lC (s:St)(b:Nat)(v:SA)(f:Fs):Prop where
 b:bJ s (ko b) 1 16 (fsC v f)
 st:cr s v f.st
structure Mc (Γ:ng)(L:cq)(b:Nat)(v:SA)(f:Fs):Prop where
 b:ga Γ L (ko b) 1 16 (fsC v f)
 st:cJ Γ L v f.st
abbrev sT (b:Nat)(v:SA):List Nat:=b::iB v
section
variable {b:Nat}
def Mc.row (h:Mc Γ L b v f)(hi:Inv Γ s L):lC s b v f/\∀i∈sT b v,qW Γ s i:=by refine⟨⟨(h.b.row hi).1,(h.st.row hi).1⟩,λi hb=>?_⟩;obtain rfl|hb:=cA.1 hb;exact(h.b.row hi).2 _ (by simp[ah]);exact(h.st.row hi).2 i hb
def vr (d:iu l xs vs)(c:Mc Γ L b v f)(h:∀s,lC s b v f->jA E X g vs s (sT b v) r)(k:∀m a,gk L m->m<=a->K r L m a (iI (sT b v) [] m a) (iJ [] m a)):WC E X Γ l g xs ts L K:=
 dZ d (λs hi=>⟨(c.row hi).2,h s (c.row hi).1⟩) k
def D9 {α:Type}{sz:Nat}{enc:au α sz}{e:TypeId}{p:List α}(j:iu l xs vs)(i:Mc Γ L b v f)(h:∀s,lC s b v f->eD E X g vs s (sT b v) e p)(k:∀m d a c,gk L m->m<=d->K (H a (Y p) c) (.aU (H a (Y p) c) e sz (ab (sz:=sz) p)::L) m d (iI (sT b v) [] m d) (iJ [] m d)):WC E X Γ l g xs ts L K:=
 oG j (λs hi=>⟨(i.row hi).2,h s (i.row hi).1⟩) k
def Ea.bx (h:lC s b v f):Rd ⟨s,([]:cq).flatMap It.bC,sT b v⟩ (ko b) 1 16 (fsC v f):=Rd.of h.b λ_ hb=>by simp[ah] at hb;subst hb;exact ed
def Ea.rw (h:lC s b v f):Rd ⟨s,([]:cq).flatMap It.bC,sT b v⟩ v.r 64 1 (ab f.st.dV):=Rd.of h.st.r λ_ hb=>dI _ (uO hb)
def Ea.rf (h:lC s b v f):Rd ⟨s,([]:cq).flatMap It.bC,sT b v⟩ v.f 64 1 (ab f.st.aI):=Rd.of h.st.f λ_ hb=>dI _ (uP hb)
def Ea.la (h:lC s b v f):Rd ⟨s,([]:cq).flatMap It.bC,sT b v⟩ v.l 64 1 (ab f.st.bW):=Rd.of h.st.l λ_ hb=>dI _ (uQ hb)
end
def sO (s:St)(b:Nat)(v:SA)(f:Fs)(h:cZ 100000 f.st)(ht:ee f.t)(k:Int)(i: -1000<=k/\k<=1000)(hr:lC s b v f):bM 179 [bk b,iv k] s (sT b v) (nv (f.node k)):=by
 have a:=Ea.bx hr;have e:=Ea.rw hr;have c:=Ea.rf hr;have d:=Ea.la hr;refine a8 f179 ?_;repeat' first|refine' ac1|refine' eI|fail
 refine' aC;rfl
def pf (s:St)(b:Nat)(v:SA)(f:Fs)(h:cZ 100000 f.st)(ht:ee f.t)(k:Int)(m: -1000<=k/\k<=1000)(hr:lC s b v f):eD aZ aW 173 [bk b,iv k] s (sT b v) 100 (f.aY k):=by have d:=Ea.bx hr;have j:=Ea.rw hr;have e:=Ea.rf hr;have i:=Ea.la hr;unfold Fs.aY;refine a8 f173 ?_;(repeat' first|refine' X2|(apply kU;exact aj;(first|exact λs hr=>l6 s _ _ aT _ hr|exact λs hr=>l6 s _ _ aT ⟨_,_,_,⟨⟨_,_,_,_,_⟩,_,_⟩⟩ hr);exact dO;intro _ _ a c _ _)|refine' eI|fail);refine' kT;rfl
section
variable {st:ae}
def Eb {a:aP}{n sz:Nat}{cs:aV}(d:iu l xs vs)(h:∀s,cr s v st->bJ s a n sz cs->jA E X g vs s (iB v++ah a) r)(c:cJ Γ L v st)(h2:ga Γ L a n sz cs)(k:∀m b,gk L m->m<=b->K r L m b (iI (iB v++ah a) [] m b) (iJ [] m b)):WC E X Γ l g xs ts L K:=
 dZ d (λs hi=>⟨λi hb=>by obtain hb|hb:=cG.1 hb;exact(c.row hi).2 i hb;exact(h2.row hi).2 i hb,h s (c.row hi).1 (h2.row hi).1⟩) k
end
def AO {st:ae}{n:dX}{l:List az}(h:bc st n=C l):Y l<=12/\∀e∈l,0<=e.id/\e.id<=15:=by refine' zag;unfold bg at x8;simp only[ep,o5,gv,fI] at x8;exact⟨x8.2,λe a=>by have:=(x8.1.1 e a).2;omega⟩
def Ec (s:St)(v:SA)(st:ae)(h:cZ 100000 st)(t:bt)(ht:ee t)(a:aP)(c:Nat)(p:List aw)(S:Y p<=1000)(hr:cr s v st)(h2:bJ s a (Y p) 1 (ab p)):
  bM 240 [eg v st,tv t,H a (Y p) c] s (iB v++ah a) (iv (oF (λi=>bc st ((ju st t i).getD aK)) p 0)):=by
 have F:Rd ⟨s,([]:cq).flatMap It.bC,iB v++ah a⟩ v.r 64 1 (ab st.dV):=Rd.of hr.r λ_ hb=>im _ (uO hb);have A:Rd ⟨s,([]:cq).flatMap It.bC,iB v++ah a⟩ v.f 64 1 (ab st.aI):=Rd.of hr.f λ_ hb=>im _ (uP hb);have B:Rd ⟨s,([]:cq).flatMap It.bC,iB v++ah a⟩ v.l 64 1 (ab st.bW):=Rd.of hr.l λ_ hb=>im _ (uQ hb);have D:Rd ⟨s,([]:cq).flatMap It.bC,iB v++ah a⟩ a (Y p) 1 (ab p):=Rd.of h2 λ_ hb=>dt _ hb;generalize z:(λi=>bc st ((ju st t i).getD aK))=E at *
 have u:∀i,E i=bc st ((ju st t i).getD aK):=λi=>by rw[<-z]
 refine a8 f240 ?_;refine' eR;refine W.bu (λk l L=>∃(i:Nat)(w:Int)(n o:Nat),Le [(2,H a (Y p) c),(3,bk n),(4,bk o),(7,iv w),(8,iv i)] l/\cb [.box n (lL v st) 29 U,.box o (eN t) 33 U] L/\k=Y p-i/\i<=Y p/\(0<=w/\w<=15)/\oF E p 0=oF E (p.drop i) w)
  (λl L=>Le [(7,iv (oF E p 0))] l/\cb [] L) (Y p) ⟨0,0,_,_,bd,ak,rfl,aa,aa,rfl⟩ ?_ ?_
 rintro k l L ⟨i,w,n,o,d,j,rfl,Q,T,b⟩;refine W.le ?_ d j;clear d j;by_cases hi:i<Y p;rw[drop_cons hi,oF,u] at b;cases m:bc st ((ju st t w).getD aK) with
 |none=>rw[m] at b;simp only at b;rw[b];(have af9:∀s,cr s v st->et aZ aW 154 [eg v st,nv ((ju st t w).getD aK)] s (iB v) 100 ([]:List az) U:=λs hr=>by have:=l6 s v st h ((ju st t w).getD aK) hr;rwa [m] at this);refine' Yj;(all_goals try exact z_3);refine' aC;rfl
 |some es=>
  rw[m] at b;simp only at b;(have af9:∀s,cr s v st->et aZ aW 154 [eg v st,nv ((ju st t w).getD aK)] s (iB v) 100 es J:=λs hr=>by have:=l6 s v st h ((ju st t w).getD aK) hr;rwa [m] at this);obtain⟨G,hid⟩:=AO m;cases rK:eH es (p.getD i au.ad) with
  |none=>(have e:Yn es (p.getD i au.ad)= -1:=by unfold Yn;rw[rK];rfl);rw[rK] at b;simp only at b;rw[b];refine' Yj;(all_goals try exact z_3);refine' aC;rfl
  |some q=>(have e:Yn es (p.getD i au.ad)=(q:Int):=by unfold Yn;rw[rK];rfl);(have N:q<Y es:=by unfold eH at rK;exact(Ae.1 rK).1);rw[rK] at b;simp only at b;refine' Yj;(all_goals try exact z_3);have y:=hid _ (a7 N au.ad);refine⟨_,?_,i+1,_,_,_,bd,ak,rfl,aa,?_,?_⟩;omega;rw[e];exact y;rw[e,b];rfl
 have x:i=Y p:=by omega
 subst x;rw[re,oF] at b;refine' OP;exact⟨by rw[b];exact bd,ak⟩;rintro l L ⟨d,j⟩;refine aJ ?_;refine W.le ?_ d j;clear d j;refine' eR;refine' aC;rfl
def Na {z:aw}(a:bQ z=J):Y (aH z)<=4:=by unfold bQ at a;split at a;rename_i h;unfold aH;rw[ai h];simp;split at a;cases a;simp only[ep,gv] at a;exact a.2
def Sz (st:ae)(g:Int->dX):∀(l:List aw)(w:Int),0<=w/\w<=15-> -1<=oF (λi=>bc st (g i)) l w/\oF (λi=>bc st (g i)) l w<=15
 |[],w,h=>by rw[oF];omega
 |s::l,w,h=>by
  rw[oF];cases a:bc st (g w) with
  |none=>simp only;omega
  |some es=>
   simp only;cases rK:eH es s with
   |none=>simp only;omega
   |some q=>simp only;(have b:q<Y es:=by unfold eH at rK;exact(Ae.1 rK).1);exact Sz st g l _ ((AO a).2 _ (a7 b _))
def pr (s:St)(b:Nat)(v:SA)(f:Fs)(h:cZ 100000 f.st)(ht:ee f.t)(z:aw)(o:Y z<=90000)(a:bQ z=J)(hr:lC s b v f):bM 178 [bk b,sv z] s (sT b v) (iv (f.dh z)):=by have e:=Ea.bx hr;have k:=Ea.rw hr;have i:=Ea.rf hr;have j:=Ea.la hr;obtain⟨m,c⟩:=BV a;have n:=Na a;refine a8 f178 ?_;(repeat' first|refine' Un|(apply Eb;exact aj;exact λs hr d=>Ec s _ _ aT _ aT _ _ _ aa hr d;exact dO;exact ax;intros)|refine' eI|fail);refine' aC;rfl
instance:Xp aZ 67 0 0:=aaU bV
def sU (s:St)(b:Nat)(v:SA)(f:Fs)(h:cZ 100000 f.st)(ht:ee f.t)(z:aw)(N:Y z<=90000)(n:bQ z=J)(hr:lC s b v f):bM 180 [bk b,sv z] s (sT b v) (.tuple ⟨[iv (f.bT z).1,iv (f.bT z).2]⟩):=by
 have x:=Ea.bx hr;have B:=Ea.rw hr;have y:=Ea.rf hr;have A:=Ea.la hr;obtain⟨F,o⟩:=BV n;have G:=Na n;have D:=Sz f.st (λi=>(ju f.st f.t i).getD aK) (aH z).dropLast 0 aa;have e:((Y (aH z):Int)-1).toNat=Y (aH z)-1:=by omega
 have d:f.bT z=if aH z=[] then(0,3) else if oF (λi=>bc f.st ((ju f.st f.t i).getD aK)) (aH z).dropLast 0<0 then(0,2) else if(f.node (oF (λi=>bc f.st ((ju f.st f.t i).getD aK)) (aH z).dropLast 0)).kind≠2 then(0,4) else(oF (λi=>bc f.st ((ju f.st f.t i).getD aK)) (aH z).dropLast 0,0):=rfl
 by_cases hn:aH z=[]
 .rw[d,ai hn];have m:Y (aH z)=0:=by rw[hn];rfl
  refine a8 f180 ?_;repeat' first|refine' Un|refine' zK|fail
  refine' aC;rfl
 rw[d,af hn];have m:0<Y (aH z):=wq.2 hn;generalize u:oF (λi=>bc f.st ((ju f.st f.t i).getD aK)) (aH z).dropLast 0=w at *
 have k:∀a c s,cr s v f.st->bJ s a (Y (List.take ((Y (aH z):Int)-1).toNat (aH z))) 1 (ab (List.take ((Y (aH z):Int)-1).toNat (aH z)))->bM 240 [eg v f.st,tv f.t,H a (Y (List.take ((Y (aH z):Int)-1).toNat (aH z))) c] s (iB v++ah a) (iv w):=λa c s hr j=>by have:=Ec s v f.st h f.t ht a c (List.take ((Y (aH z):Int)-1).toNat (aH z)) (by rw[de];omega) hr j;rw[show List.take ((Y (aH z):Int)-1).toNat (aH z)=(aH z).dropLast by rw[e,List.dropLast_eq_take],u] at this;rwa [show List.take ((Y (aH z):Int)-1).toNat (aH z)=(aH z).dropLast by rw[e,List.dropLast_eq_take]]
 refine a8 f180 ?_;(repeat' first|refine' Un|(apply Eb;exact aj;exact λs hr j=>k _ _ s hr j;exact dO;exact ax;intros)|refine' X2|refine' zK|fail);(refine' aC);rw[ai aT];rfl;(refine' aC);rw[af aa,ai aT];rfl;(refine' aC);rw[af aa,af (by simpa using ki)];rfl
variable {b:Nat}
def YH (st:ae)(t:bt)(k:Int):ka ((ju st t k).getD aK):=by
 unfold ju;split;exact ka.no;cases h:bY (Ts st t k.toNat) with
 |none=>exact ka.no
 |some n=>exact ka.of (Pg.jW h).1
def AP:∀(w:List aw)(k n:Nat)(st:ae)(t:bt),(∀s∈w,Y s<=3000)->k+Y w<=16->cZ n st->ee t->cZ (n+30*Y w) (lj w k st t).1/\ee (lj w k st t).2.1
 |[],k,n,st,t,_,_,h,ht=>⟨h,ht⟩
 |s::w,k,n,st,t,hs,c,h,ht=>by
  rw[fS] at c;have a:=kW (k:=k) (z:=s) h ht aa (hs s aq);rw[lj,fS];rcases d:lh st t k s with⟨fB,t2,ok⟩;rw[d] at a;cases ok with
  |true=>have:=AP w (k+1) (n+30) fB t2 (λx e=>hs x (by simp[e])) aa a.1 a.2.1;exact⟨this.1.mono aa,this.2⟩
  |false=>exact⟨a.1.mono aa,ht⟩
def AQ {n:Nat}{st:ae}{t:bt}{z:aw}(h:cZ n st)(ht:ee t):cZ (n+600) (kv st t z).1/\ee (kv st t z).2.1:=by
 unfold kv;simp only;split;exact⟨h.mono aa,ht⟩;have a:=AP (dv (Y z+1) z) 0 n st t (λs hs=>by have:=xi _ _ s hs;omega) aa h ht;rcases d:lj (dv (Y z+1) z) 0 st t with⟨fB,t2,ok⟩;rw[d] at a;cases ok with
 |false=>exact⟨a.1.mono aa,a.2⟩
 |true=>have c:=yM (many:=(Y (dv (Y z+1) z):Int)) a.1 a.2 aa;exact⟨c.1.mono aa,c.2.1⟩
structure sb (n:Nat)(f:Fs):Prop where
 st:cZ n f.st
 t:ee f.t
def sb.mono {n m:Nat}{f:Fs}(h:sb n f)(hm:n<=m):sb m f:=⟨h.st.mono hm,h.t⟩
def sb.put {n:Nat}{f:Fs}(h:sb n f){k:Int}(a:k.toNat<16)(x:dX):sb (n+30) (f.put k x):=by unfold Fs.put;split;exact h.mono aa;have:=kW (k:=k.toNat) (z:=dK x) h.st h.t a (by have:=sR x;omega);unfold kH;exact⟨this.1,this.2.1⟩
def sb.bz {n:Nat}{f:Fs}(h:sb n f){k:Int}(a:k.toNat<16)(l:List az):sb (n+630) (f.bz k l):=by unfold Fs.bz;split;exact h.mono aa;have:=AQ (z:=aR l) h.st (YH f.st f.t k).tr;exact sb.put (f:=⟨_,f.t,_⟩) ⟨this.1,h.t⟩ a _
def Ed (s:St)(b:Nat)(v:SA)(f:Fs)(h:cZ 100000 f.st)(ht:ee f.t)(z:aw)(k:Y z<=90000)(j:bQ z=J)(hr:lC s b v f):bM 171 [bk b,sv z] s (sT b v) (.tuple ⟨[iv (f.dk z).1,iv (f.dk z).2]⟩):=by
 have c:=Ea.bx hr;have i:=Ea.rw hr;have d:=Ea.rf hr;have e:=Ea.la hr;have a:f.dk z=if 0<(f.bT z).2 then(0,(f.bT z).2) else if 0<=f.dh z then(0,3) else((f.bT z).1,0):=rfl
 generalize f.dk z=r at *
 refine a8 f171 ?_;(repeat' first|(apply vr;exact aj;exact tj;exact λs hr=>sU s _ _ _ aT aT _ aa aT hr;intros)|(apply vr;exact aj;exact tj;exact λs hr=>pr s _ _ _ aT aT _ aa aT hr;intros)|refine' eI|fail);all_goals refine' aC
 all_goals(first|(rw[ai aa] at a;rw[a];rfl)|(rw[af aa,ai aa] at a;rw[a];rfl)|(rw[af aa,af aa] at a;rw[a];rfl))
def pq (d:iu l xs vs)(h:∀v s,mK E X g vs s b v f f' r)(c:l3 (kE b v f) L R)(k:∀m a v',gk L m->m<=a->K r (kE b v' f'++R) m a (iI [] (kE b v f) m a) (iJ (kE b v f) m a)):WC E X Γ l g xs ts L K:=YG d (h v) c k
def n9 (d:iu l xs vs)(h:∀s,lC s b v f->jA E X g vs s (sT b v) r)(c:Mc Γ L b v f)(k:∀m a,gk L m->m<=a->K r L m a (iI (sT b v) [] m a) (iJ [] m a)):WC E X Γ l g xs ts L K:=vr d c h k
def AJ {α:Type}{sz:Nat}{enc:au α sz}{e:TypeId}{p:List α}(j:iu l xs vs)(h:∀s,lC s b v f->eD E X g vs s (sT b v) e p)(i:Mc Γ L b v f)(k:∀m d a c,gk L m->m<=d->K (H a (Y p) c) (.aU (H a (Y p) c) e sz (ab (sz:=sz) p)::L) m d (iI (sT b v) [] m d) (iJ [] m d)):WC E X Γ l g xs ts L K:=D9 j i h k
def HE {a:aP}{n sz:Nat}{cs:aV}(o:iu l xs vs)(h:∀v s,bJ s a n sz cs->(∀i∈ah a,i∉(kE b v f).flatMap It.bC)->eJ E X g vs s (kE b v f) (ah a) λR L=>∃v':SA,R=r/\L=kE b v' f')(d:l3 (kE b v f) L R)(e:ga Γ R a n sz cs)(k:∀m c v',gk L m->m<=c->K r (kE b v' f'++R) m c (iI (ah a) (kE b v f) m c) (iJ (kE b v f) m c)):WC E X Γ l g xs ts L K:=
 cI (Lm:=kE b v f) (R:=R) o d.bX (λs hi=>(e.row (hi.bX d.bX|>.sub ⟨R,.refl _,o7 _ _⟩)).2) (λs hi=>h v s (e.row (hi.bX d.bX|>.sub ⟨R,.refl _,o7 _ _⟩)).1 (ga.apart e (hi.bX d.bX))) (by rintro p L' m c j hm ⟨v',rfl,rfl⟩;exact k m c v' j hm)
def Uu {a:aP}{n c d o:Nat}{cs:aV}{α:Type}{sz:Nat}{enc:au α sz}{e:TypeId}{p:List α}(q:iu l xs vs)(hm:It.aU (H a n c) o d cs∈L)(h:∀s,bJ s a n d cs->tg s a n c o d->eD E X g vs s (ah a) e p)(k:∀m i a' c',gk L m->m<=i->K (H a' (Y p) c') (.aU (H a' (Y p) c') e sz (ab (sz:=sz) p)::L) m i (iI (ah a) [] m i) (iJ [] m i)):WC E X Γ l g xs ts L K:=
 oG q (λs hi=>by have j:=(ga.aU (Γ:=Γ) hm).row hi;exact⟨j.2,h s j.1 (nV.slv (hi.it _ hm) λb hb=>(j.2 b hb).1)⟩) k
def pX (s:St)(b:Nat)(v:SA)(f:Fs)(h:sb 60000 f)(k:Nat)(B:k<16)(a:aP)(c:Nat)(p:List az)(S:Y p<=20)(hn:∀e∈p,Y e.name<=1000/\0<=e.id/\e.id<=1000)(hr:bJ s a (Y p) 2 (ab p))(hm:∀i∈ah a,i∉(kE b v f).flatMap It.bC):
  Ht 175 [bk b,iv k,H a (Y p) c] s (kE b v f) (ah a) λR L=>∃v':SA,R= .tuple ⟨[]⟩/\L=kE b v' (f.bz k p):=by
 have hd:Rd ⟨s,(kE b v f).flatMap It.bC,ah a⟩ a (Y p) 2 (ab p):=⟨hr,λb hb=>hb,hm⟩;have F:=h.st.mono (show 60000<=100000 by omega);have ht:=h.t;have D:∀e∈p,Y e.name<=3000/\0<=e.id/\e.id<=1000000000:=λe A=>by have:=hn e A;omega
 have y:=YH f.st f.t k;have cg:Y (aR p)<=50000:=by
  have:∀(l:List az),(∀e∈l,Y e.name<=1000/\0<=e.id/\e.id<=1000)->Y (aR l)<=Y l*1100:=by
   intro l;induction l with
   |nil=>intro _;simp[aR]
   |cons x l ih=>intro hl;(have G:=ih λe A=>hl e (by simp[A]));have N:=hl x aq;have Q:Y (dec x.id)<=10:=kq x.id aa;have:aR (x::l)=(x.name++61::(dec x.id++[59]))++aR l:=rfl;rw[this,dB,dB,fS,dB,fS];simp only[fS,jm];omega
  have:=this p hn;omega
 have o:f.bz k p=if f.dz then f else match kv f.st (f.node k).aO (aR p) with
  |(st,t,ok)=>Fs.put ⟨st,f.t,!ok⟩ k {f.node k with aO:=t,size:=Y (aR p)}:=rfl
 have j:=AQ (z:=aR p) h.st y.tr;rcases m:kv f.st (f.node k).aO (aR p) with⟨fB,t2,ok⟩;rw[show kv f.st ((ju f.st f.t k).getD aK).aO (aR p)=_ from m] at j;have n:∀(d:SA) s,eS aZ aW 239 [eg d f.st,tv (f.node k).aO,sv (aR p)] s [] d f.st fB J (yL t2 ok):=λd s=>by have:=Yx s d f.st (h.st.mono aa) (f.node k).aO y.tr (aR p) cg;rwa[m] at this
 have wQ:∀(d:SA) s,mK aZ aW 174 [bk b,iv k,nv {f.node k with aO:=t2,size:=Y (aR p)}] s b d ⟨fB,f.t,!ok⟩ (Fs.put ⟨fB,f.t,!ok⟩ k {f.node k with aO:=t2,size:=Y (aR p)}) (.tuple ⟨[]⟩):=λd s=>
  sa s b d ⟨fB,f.t,!ok⟩ (j.1.mono aa) ht k B _
 rw[m] at o;simp only at o;generalize Fs.put ⟨fB,f.t,!ok⟩ k {f.node k with aO:=t2,size:=Y (aR p)}=f2 at *
 refine a8 f175 ?_;dsimp only[kE,db];cases hf:f.dz with
 |true=>rw[hf] at o;rw[o,ai rfl];refine' eR;refine oM (v':=v) bK bH ak rfl
 |false=>rw[hf] at o;rw[o,af cx];(repeat' first|refine' X2|refine' afX|(apply fz;exact aj;exact λs=>n _ s;exact cK;intro _ _ w _ _ u)|refine' HC|refine' zK|fail);all_goals refine oM (v':=pe) bK bH ak rfl
def YI {l:List az}(h:bg l=J):Y l<=12/\∀e∈l,Y e.name<=1000/\0<=e.id/\e.id<=1000:=by
 unfold bg at h;simp only[ep,o5,gv,fI] at h;refine⟨h.2,λe c=>?_⟩;have a:=h.1.1 e c;have d:Y e.name<=4:=by have:=a.1;unfold bG at this;simp only[ep,gv,fI] at this;omega
 omega
def uT (f:Fs)(k:Int):Y (f.aY k)<=12/\∀e∈f.aY k,Y e.name<=1000/\0<=e.id/\e.id<=1000:=by
 unfold Fs.aY;cases h:bc f.st (f.node k) with
 |none=>simp
 |some l=>refine' zag;exact YI x8
def yO {l:List az}{x:az}{n:Nat}(h:Y l<=n/\∀e∈l,Y e.name<=1000/\0<=e.id/\e.id<=1000)(c:Y x.name<=1000/\0<=x.id/\x.id<=1000):Y (gO l x)<=n+1/\∀e∈gO l x,Y e.name<=1000/\0<=e.id/\e.id<=1000:=by refine⟨by rw[Pg.L4];omega,λe a=>?_⟩;obtain rfl|a:=Pg.nt.1 a;exact c;exact h.2 e a
def UR {l:List az}{i:Nat}{n:Nat}(h:Y l<=n/\∀e∈l,Y e.name<=1000/\0<=e.id/\e.id<=1000):Y (eB l i)<=n/\∀e∈eB l i,Y e.name<=1000/\0<=e.id/\e.id<=1000:=
 ⟨jR (Pg.jD l i).length_le h.1,λe a=>h.2 e ((Pg.jD l i).subset a)⟩
variable {st:ae}{a an:aP}{p q:List cB}{ok:Bool}{csn:aV}
abbrev jI (a:aP)(c:Nat)(p:List cB):It:=.aU (H a (Y p) c) 48 2 (ab p)
abbrev Ee (E:hJ)(X:fb)(f:FuncId)(vs:aV)(s:St)(v:SA)(an:aP)(a:aP)(c:Nat)(p q:List cB)(ok:Bool):Prop:=eJ E X f vs s [jI a c p] (iB v++ah an) λR L=>∃a' c',R= .tuple ⟨[H a' (Y q) c',M ok]⟩/\L=[.aU (H a' (Y q) c') 48 2 (ab q)]
section
variable {c nn:Nat}
def HD (w:iu l xs vs)(h:∀s,cr s v st->bJ s an nn 10 csn->(∀i∈iB v++ah an,i∉[jI a c p].flatMap It.bC)->Ee E X g vs s v an a c p q ok)(t:l3 [jI a c p] L R)(n:cJ Γ R v st)(hn:ga Γ R an nn 10 csn)
  (k:∀m j a' c',gk L m->m<=j->K (.tuple ⟨[H a' (Y q) c',M ok]⟩) (.aU (H a' (Y q) c') 48 2 (ab q)::R) m j (iI (iB v++ah an) [jI a c p] m j) (iJ [jI a c p] m j)):WC E X Γ l g xs ts L K:=by
 have d:∀{s},Inv Γ s L->Inv Γ s R:=λhi=>hi.bX t.bX|>.sub ⟨R,.refl _,o7 _ _⟩
 refine cI (Lm:=[jI a c p]) (R:=R) (A:=iB v++ah an) w t.bX (λs hi b hb=>?_) (λs hi=>h s (n.row (d hi)).1 (hn.row (d hi)).1 λi o=>?_) (by rintro r L' m j u hm ⟨a',c',rfl,rfl⟩;exact k m j a' c' u hm);rcases cG.1 hb with hb|hb;exact(n.row (d hi)).2 b hb;exact(hn.row (d hi)).2 b hb;have e:=hi.bX t.bX;obtain hb|hb:=cG.1 o;rcases cG.1 hb with hb|hb;exact ga.apart n.r e i hb;rcases cG.1 hb with hb|hb;exact ga.apart n.f e i hb;exact ga.apart n.l e i hb;exact ga.apart hn e i hb
def YJ {rs:List ResultVar}{x:Ex}{a':aP}{c':Nat}(e:x= .normal\/x= .ret)(hr:AE E l L rs [H a' (Y q) c',M ok])(d:cb [.aU (H a' (Y q) c') 48 2 (ab q)] L):
  zt E rs (λR L=>∃a' c',R= .tuple ⟨[H a' (Y q) c',M ok]⟩/\L=[.aU (H a' (Y q) c') 48 2 (ab q)]) x l L:=⟨e,_,_,hr,d,a',c',rfl,rfl⟩
end
def aek {st:ae}{n:dX}{l:List az}(h:bc st n=C l):Y l<=12/\∀e∈l,Y e.name<=4:=by refine' zag;unfold bg at x8;simp only[ep,o5,gv,fI] at x8;refine⟨x8.2,λe c=>?_⟩;have:=(x8.1.1 e c).1;unfold bG at this;simp only[ep,gv] at this;omega
def xl {n:Nat}{kind:Nat->Int}{E:Nat->Option (List az)}{f:Nat}{x:cB}(l:List az)(o:List cB):l.foldl (λr e=>if r.2 then iq n kind E f ⟨bb x.ar e.name,e.id⟩ r.1 else r) (o,U)=(o,U):=by
 induction l with
 |nil=>rfl
 |cons e l ih=>rwa[xE]
def Ef {n:Nat}{kind:Nat->Int}{E:Nat->Option (List az)}:∀(f:Nat)(x:cB)(out:List cB),(iq n kind E f x out).2=J->Y out<Y (iq n kind E f x out).1/\Y (iq n kind E f x out).1<=144
 |0,x,out,h=>by cases h
 |f+1,x,out,h=>by
  rw[iq] at h⊢;try simp only at h⊢
  split at h;cases h;rename_i hc;rw[af hc];have hl:Y (out++[x])<=144:=by simp only[km,gv,not_or] at hc;omega
  (have j:Y out<Y (out++[x]):=by rw[dB];simp);split at h;rename_i d;rw[ai d];exact⟨j,hl⟩;rename_i d;rw[af d];cases m:E x.id.toNat with
  |none=>rw[m] at h;cases h
  |some l=>
   rw[m] at h;simp only at h⊢;have c:∀(l:List az)(o:List cB),(l.foldl (λr e=>if r.2 then iq n kind E f ⟨bb x.ar e.name,e.id⟩ r.1 else r) (o,J)).2=J->Y o<=144->Y o<=Y (l.foldl (λr e=>if r.2 then iq n kind E f ⟨bb x.ar e.name,e.id⟩ r.1 else r) (o,J)).1/\Y (l.foldl (λr e=>if r.2 then iq n kind E f ⟨bb x.ar e.name,e.id⟩ r.1 else r) (o,J)).1<=144:=by
    intro l;induction l with
    |nil=>intro o _ ho;exact⟨fG _,ho⟩
    |cons e l ih=>
     refine' za1;rw[hw] at hb;cases b2 with
     |false=>rw[xl] at hb;cases hb
     |true=>have i:=Ef f ⟨bb x.ar e.name,e.id⟩ o (by rw[hw]);rw[hw] at i;have k:=ih o2 hb i.2;exact⟨by have:=i.1;have:=k.1;simp only at *;omega,k.2⟩
   have t:=c l _ h hl;exact⟨aa,t.2⟩
def Ql (st:ae)(h:cZ 100000 st)(d:List dX)(hns:Y d<=16)(v:SA)(an:aP)(cn:Nat):∀(f:Nat)(x:cB)(out:List cB)(a:aP)(c:Nat)(s:St),Y out<=144->146<=f+Y out->Y x.ar+5*f<=1000->
  cr s v st->bJ s an (Y d) 10 (ab d)->(∀i∈iB v++ah an,i∉[jI a c out].flatMap It.bC)->Ee aZ aW 95 [eg v st,H an (Y d) cn,.agg ⟨[sv x.ar,iv x.id]⟩,H a (Y out) c] s v an a c out (walk st d f x out).1 (walk st d f x out).2:=by
 intro f;induction f with
 |zero=>intro x out a c s h1 h2;omega
 |succ f ih=>
  intro x out a c s h1 h2 h3 hr hn hm;have Z0:Rd ⟨s,[jI a c out].flatMap It.bC,iB v++ah an⟩ v.r 64 1 (ab st.dV):=⟨hr.r,λb hb=>im _ (uO hb),λb hb=>hm b (im _ (uO hb))⟩;have hdf:Rd ⟨s,[jI a c out].flatMap It.bC,iB v++ah an⟩ v.f 64 1 (ab st.aI):=⟨hr.f,λb hb=>im _ (uP hb),λb hb=>hm b (im _ (uP hb))⟩;have hdl:Rd ⟨s,[jI a c out].flatMap It.bC,iB v++ah an⟩ v.l 64 1 (ab st.bW):=⟨hr.l,λb hb=>im _ (uQ hb),λb hb=>hm b (im _ (uQ hb))⟩;have hdn:Rd ⟨s,[jI a c out].flatMap It.bC,iB v++ah an⟩ an (Y d) 10 (ab d):=⟨hn,λb hb=>dt _ hb,λb hb=>hm b (dt _ hb)⟩;have n:walk st d (f+1) x out=if 144<Y (out++[x])||!fI x.id 0 (Y d-1)||decide ((d.getD x.id.toNat aK).kind=0) then(out++[x],U) else
   if(d.getD x.id.toNat aK).kind=1 then(out++[x],J) else
   match bc st (d.getD x.id.toNat aK) with
   |none=>(out++[x],U)
   |some l=>l.foldl (λr e=>if r.2 then iq (Y d) (λi=>(d.getD i aK).kind) (λi=>bc st (d.getD i aK)) f ⟨bb x.ar e.name,e.id⟩ r.1 else r) (out++[x],J):=rfl
  generalize walk st d (f+1) x out=Z at *
  rw[dB,vJ] at n;have cg:Y (out++[x])=Y out+1:=by rw[dB];rfl
  have D:(aK:dX)=au.ad (α:=dX):=rfl;rw[D] at n;by_cases hC:144<Y out+1\/¬(0<=x.id/\x.id<=(Y d:Int)-1)\/(d.getD x.id.toNat au.ad).kind=0
  .rw[ai (by simp only[fI,km,gv,ra,rh,mW];omega)] at n;subst n;refine a8 f95 ?_;dsimp only[jI];refine' zb2;(all_goals try exact z_3);all_goals exact YJ bK bH ak
  have hC1:Y out+1<=144:=by omega
  (have hC2:0<=x.id/\x.id<=(Y d:Int)-1:=by omega);(have hC3:(d.getD x.id.toNat au.ad).kind≠0:=λh=>hC (.inr (.inr h)));rw[af (by simp only[fI,km,gv,ra,rh,mW];omega)] at n;clear hC;by_cases hK:(d.getD x.id.toNat au.ad).kind=1
  .rw[ai hK] at n;subst n;refine a8 f95 ?_;dsimp only[jI];refine' zb2;(all_goals first|(exfalso;omega;done)|contradiction|(exfalso;simp only[rh,mW] at sN;omega)|skip);all_goals exact YJ bK bH ak
  rw[af hK] at n;obtain⟨es,w,GZ,hW,h12,V⟩:∃(es:List az)(w:Bool),(∀s,cr s v st->et aZ aW 154 [eg v st,nv (d.getD x.id.toNat au.ad)] s (iB v) 100 es w)/\
                       Z=es.foldl (λr e=>if r.2 then iq (Y d) (λi=>(d.getD i au.ad).kind) (λi=>bc st (d.getD i au.ad)) f ⟨bb x.ar e.name,e.id⟩ r.1 else r) (out++[x],w)/\Y es<=12/\∀e∈es,Y e.name<=4:=by
   refine⟨(bc st (d.getD x.id.toNat au.ad)).getD [],(bc st (d.getD x.id.toNat au.ad)).isSome,λs hr=>l6 s v st h _ hr,?_,?_⟩
   .rw[n];cases bc st (d.getD x.id.toNat au.ad)<;>rfl
   .cases he:bc st (d.getD x.id.toNat au.ad) with
    |none=>simp
    |some l=>exact aek he
  clear n;(have hwk:∀x' o,iq (Y d) (λi=>(d.getD i au.ad).kind) (λi=>bc st (d.getD i au.ad)) f x' o=walk st d f x' o:=λ_ _=>rfl);(have hle:∀x' o,(walk st d f x' o).2=J->Y o<Y (walk st d f x' o).1/\Y (walk st d f x' o).1<=144:=λx' o=>Ef f x' o);(have S:∀(l:List az)(o:List cB),l.foldl (λr e=>if r.2 then iq (Y d) (λi=>(d.getD i au.ad).kind) (λi=>bc st (d.getD i au.ad)) f ⟨bb x.ar e.name,e.id⟩ r.1 else r) (o,U)=(o,U):=λl o=>xl l o);have T:∀(e:az)(o:List cB),(λ(r:List cB×Bool) (e:az)=>if r.2 then iq (Y d) (λi=>(d.getD i au.ad).kind) (λi=>bc st (d.getD i au.ad)) f ⟨bb x.ar e.name,e.id⟩ r.1 else r) (o,J) e=walk st d f ⟨bb x.ar e.name,e.id⟩ o:=λ_ _=>rfl;generalize(λ(r:List cB×Bool) (e:az)=>if r.2 then iq (Y d) (λi=>(d.getD i au.ad).kind) (λi=>bc st (d.getD i au.ad)) f ⟨bb x.ar e.name,e.id⟩ r.1 else r)=F at *
  refine a8 f95 ?_;dsimp only[jI];(repeat' first|refine' KF|(apply kU;exact aj;exact λs hr=>GZ s hr;exact dO;intro _ _ j m _ _)|refine' eI|fail);all_goals first|(exfalso;omega;done)|contradiction|(exfalso;simp only[rh,mW] at sN;omega)|skip
  refine W.bu (λk l L=>∃(i:Nat)(o:List cB)(ok:Bool)(t:aP)(u N Q:Nat),Le [(1,H an (Y d) cn),(3,H t (Y o) u),(4,bk N),(6,bk Q),(10,H j (Y es) m),(11,M ok),(12,iv (i:Int))] l/\cb [.aU (H t (Y o) u) 48 2 (ab o),.box N (lL v st) 29 U,.box Q [sv x.ar,iv x.id] 48 U,.aU (H j (Y es) m) 100 2 (ab es)] L/\k=Y es-i/\i<=Y es/\(ok=J->Y o<=144/\Y out+1<=Y o)/\Z=(es.drop i).foldl F (o,ok))
   (λl L=>∃(o:List cB)(ok:Bool)(t:aP)(u:Nat),Le [(3,H t (Y o) u),(11,M ok)] l/\cb [.aU (H t (Y o) u) 48 2 (ab o)] L/\Z=(o,ok)) _ ⟨0,out++[x],w,_,_,_,_,bd,ak,rfl,aa,λ_=>by omega,hW⟩ ?_ ?_
  .rintro k l L ⟨i,o,ok,t,u,N,Q,hl,hL,rfl,g1,g2,y⟩;refine' cP;by_cases hi:i<Y es;cases ok with
   |false=>refine' iK;all_goals exact⟨o,U,t,u,bd,ak,by rw[y,S]⟩
   |true=>
    obtain⟨g4,g5⟩:=g2 rfl;have ON:=V _ (a7 hi au.ad);rw[drop_cons hi,xE,T] at y;generalize z:bb x.ar (es.getD i au.ad).name=P at *
    (have hPl:Y P<=Y x.ar+5:=by rw[<-z];unfold bb;split<;>simp only[dB,fS]<;>omega);have ait:∀a c s,cr s v st->bJ s an (Y d) 10 (ab d)->(∀i∈iB v++ah an,i∉[jI a c o].flatMap It.bC)->Ee aZ aW 95 [eg v st,H an (Y d) cn,.agg ⟨[sv P,iv (es.getD i au.ad).id]⟩,H a (Y o) c] s v an a c o (walk st d f ⟨P,(es.getD i au.ad).id⟩ o).1 (walk st d f ⟨P,(es.getD i au.ad).id⟩ o).2:=λa c s hr hn hm=>ih ⟨P,(es.getD i au.ad).id⟩ o a c s g4 aa (by show Y P+5*f<=1000;omega) hr hn hm;have B:=hle ⟨P,(es.getD i au.ad).id⟩ o;generalize walk st d f ⟨P,(es.getD i au.ad).id⟩ o=W2 at *
    obtain⟨o2,G⟩:=W2;by_cases A:x.ar=[47]
    ·(have z:[47]++(es.getD i au.ad).name=P:=by rw[<-z,A];rfl);subst z;(repeat' first|refine' ac4|refine' cY|fail);exact⟨_,aa,i+1,o2,G,_,_,_,_,bd,ak,rfl,aa,λhh=>by have:=B hh;dsimp only at this;omega,y⟩
    (have z:(x.ar++[47])++(es.getD i au.ad).name=P:=by rw[<-z];unfold bb;rw[af A,iD];rfl);subst z;(repeat' first|refine' ac4|refine' cY|fail);exact⟨_,aa,i+1,o2,G,_,_,_,_,bd,ak,rfl,aa,λhh=>by have:=B hh;dsimp only at this;omega,y⟩
   (have hi':i=Y es:=by omega);subst hi';rw[re] at y;refine' iK;all_goals exact⟨o,ok,t,u,bd,ak,y⟩
  rintro l L ⟨o,ok,t,u,hl,hL,y⟩;refine aJ ?_;refine W.le ?_ hl hL;refine' eR;rw[y];all_goals exact YJ bK bH ak
variable {i:Nat}
def H6 {n:Nat}{kind:Nat->Int}{E:Nat->Option (List az)}:∀(f:Nat)(x:cB)(out:List cB),(iq n kind E f x out).2=J->(∀y∈out,0<=y.id/\y.id<=(n:Int)-1)->∀y∈(iq n kind E f x out).1,0<=y.id/\y.id<=(n:Int)-1
 |0,x,out,h,_=>by cases h
 |f+1,x,out,h,ho=>by
  rw[iq] at h⊢;try simp only at h⊢
  split at h;cases h;rename_i hc;rw[af hc];have u:0<=x.id/\x.id<=(n:Int)-1:=by simp only[fI,km,gv,not_or,ra,rh,mW] at hc;omega
  have j:∀y∈out++[x],0<=y.id/\y.id<=(n:Int)-1:=λy d=>by obtain d|d:=cG.1 d;exact ho y d;rw[gI] at d;subst d;exact u
  split at h;rename_i k;rwa[ai k];rename_i k;rw[af k];cases t:E x.id.toNat with
  |none=>rw[t] at h;cases h
  |some l=>
   rw[t] at h;simp only at h⊢;have c:∀(l:List az)(o:List cB),(l.foldl (λr e=>if r.2 then iq n kind E f ⟨bb x.ar e.name,e.id⟩ r.1 else r) (o,J)).2=J->(∀y∈o,0<=y.id/\y.id<=(n:Int)-1)->∀y∈(l.foldl (λr e=>if r.2 then iq n kind E f ⟨bb x.ar e.name,e.id⟩ r.1 else r) (o,J)).1,0<=y.id/\y.id<=(n:Int)-1:=by
    intro l;induction l with
    |nil=>intro o _ ho;exact ho
    |cons e l ih=>
     refine' za1;rw[hw] at hb;cases b2 with
     |false=>rw[xl] at hb;cases hb
     |true=>have m:=H6 f ⟨bb x.ar e.name,e.id⟩ o (by rw[hw]) ho;rw[hw] at m;exact ih o2 hb m
   exact c l _ h j
def JY (out:List cB)(x:cB)(k:Nat):gT (out++[x]) k=gT out k+if x.id=(k:Int) then 1 else 0:=by unfold gT;rw[ri,dB];by_cases h:x.id=(k:Int)<;>simp[h]
def j8 {l:List Int}{i k:Nat}{v:Int}(hi:i<Y l):(l.set i v).getD k 0=if k=i then v else l.getD k 0:=by rw[eX,eX,List.getElem?_set];by_cases h:i=k;subst h;simp[hi];rw[af h,af (λe=>h e.symm)]
def agv {q:List cB}(hi:i<Y q):q.take (i+1)=q.take i++[q.getD i au.ad]:=by rw[vS,eX,c8 hi];rfl
def Qm (out:List cB)(k:Nat):0<=gT out k/\gT out k<=Y out:=by unfold gT;have:=KW (λx:cB=>decide (x.id=(k:Int))) out;omega
def H7 (s:St)(v:SA)(st:ae)(h:cZ 100000 st)(t:bt)(ht:ee t)(hr:cr s v st):et aZ aW 41 [eg v st,tv t] s (iB v) 48 ((fO st t).getD []) (fO st t).isSome:=by
 have Z0:=Rd.Bt hr;have hdf:=Rd.off hr;have hdl:=Rd.y8 hr;have e:fO st t=if !dL st t then O else if bj st t=[]\/((bj st t).headD aK).kind≠2 then O else match walk st (bj st t) 146 ⟨[47],0⟩ [] with
  |(_,U)=>O
  |(out,J)=>if ja st out 0 (bj st t) then C out else O:=rfl
 generalize fO st t=Z at *
 by_cases N:dL st t=J;rw[N] at e;rw[af cx] at e;have hns:∀s,cr s v st->eD aZ aW 31 [eg v st,tv t] s (iB v) 67 (bj st t):=λs hr=>qL s v st h t ht hr;have ON:Y (bj st t)<=16:=by unfold bj;rw[fH,(j9 h ht).1];have:=ht.mn;omega
 generalize bj st t=d at *
 have V:(!dL st t)=U:=by rw[N];rfl
 have B:d.headD aK=d.getD 0 au.ad:=by cases d<;>rfl
 rw[B] at e;by_cases T:Y d=0\/(d.getD 0 au.ad).kind≠2
 .rw[ai (by obtain h|h:=T;exact .inl (jG h);exact .inr h)] at e;subst e;refine a8 f41 ?_;(repeat' first|refine' Mq|refine' Sh|refine' cY|fail);all_goals exact CY bK bH ak rfl rfl
 have Q:0<Y d:=by omega
 have A:(d.getD 0 au.ad).kind=2:=by by_cases h:(d.getD 0 au.ad).kind=2;exact h;exact absurd (.inr h) T
 rw[af (λh=>by obtain h|h:=h;rw[h] at Q;cases Q;exact h A)] at e;clear T;have y:∀an cn a c s,cr s v st->bJ s an (Y d) 10 (ab d)->(∀i∈iB v++ah an,i∉[jI a c []].flatMap It.bC)->Ee aZ aW 95 [eg v st,H an (Y d) cn,.agg ⟨[sv [47],dP]⟩,H a (Y ([]:List cB)) c] s v an a c [] (walk st d 146 ⟨[47],0⟩ []).1 (walk st d 146 ⟨[47],0⟩ []).2:=λan cn a c s hr hn hm=>
  Ql st h d ON v an cn 146 ⟨[47],0⟩ [] a c s aq aq aq hr hn hm
 have j:=H6 (n:=Y d) (kind:=λi=>(d.getD i aK).kind) (E:=λi=>bc st (d.getD i aK)) 146 ⟨[47],0⟩ [];have z:=Ef (n:=Y d) (kind:=λi=>(d.getD i aK).kind) (E:=λi=>bc st (d.getD i aK)) 146 ⟨[47],0⟩ [];rw[show iq (Y d) (λi=>(d.getD i aK).kind) (λi=>bc st (d.getD i aK)) 146 ⟨[47],0⟩ []=walk st d 146 ⟨[47],0⟩ [] from rfl] at j z;rcases hw:walk st d 146 ⟨[47],0⟩ [] with⟨out,ok⟩;rw[hw] at y j z e;have hwk:∀an cn a c s,cr s v st->bJ s an (Y d) 10 (ab d)->(∀i∈iB v++ah an,i∉[jI a c []].flatMap It.bC)->Ee aZ aW 95 [eg v st,H an (Y d) cn,.agg ⟨[sv [47],dP]⟩,H a (Y ([]:List cB)) c] s v an a c [] out ok:=y;clear y hw;cases ok with
 |false=>have e:Z=O:=e;subst e;refine a8 f41 ?_;(repeat' first|refine' Mq|refine' Sh|refine' ac5|refine' cY|fail);all_goals exact CY bK bH ak rfl rfl
 |true=>
  (have e:Z=if ja st out 0 d then C out else O:=e);have j:=j rfl aq;have z:=z rfl;dsimp only at j z;refine a8 f41 ?_;(repeat' first|refine' Mq|refine' Sh|refine' ac5|refine' cY|fail);refine W.bu (λk l L=>∃(i:Nat)(m:List Int)(am:aP)(u o:Nat),Le [(2,bk o),(6,H jM (Y d) jN),(7,H jZ (Y out) j3),(9,H am (Y m) u),(10,iv (i:Int))] l/\cb [.box o (lL v st) 29 U,.aU (H jM (Y d) jN) 67 10 (ab d),.aU (H jZ (Y out) j3) 48 2 (ab out),.aU (H am (Y m) u) 3 1 (ab m)] L/\k=Y out-i/\i<=Y out/\Y m=Y d/\∀k,k<Y d->m.getD k 0=gT (out.take i) k)
   (λl L=>∃(m:List Int)(am:aP)(u o:Nat),Le [(2,bk o),(6,H jM (Y d) jN),(7,H jZ (Y out) j3),(9,H am (Y m) u)] l/\cb [.box o (lL v st) 29 U,.aU (H jM (Y d) jN) 67 10 (ab d),.aU (H jZ (Y out) j3) 48 2 (ab out),.aU (H am (Y m) u) 3 1 (ab m)] L/\Y m=Y d/\∀k,k<Y d->m.getD k 0=gT out k) _ ⟨0,replicate (Y d) 0,_,_,_,bd,ak,rfl,aa,aq,λk hk=>by simp[gT,eX,hk]⟩ ?_ ?_
  .rintro k l L ⟨i,m,am,u,o,hl,S,rfl,g1,g2,w⟩;refine' cP;by_cases hi:i<Y out;have hid:=j _ (a7 hi au.ad);have x:m.getD (out.getD i au.ad).id.toNat au.ad=_:=w (out.getD i au.ad).id.toNat aa;have G:=Qm (out.take i) (out.getD i au.ad).id.toNat;rw[de] at G;refine' iK;refine⟨_,aa,i+1,m.set (out.getD i au.ad).id.toNat (m.getD (out.getD i au.ad).id.toNat au.ad+1),am,u,o,by(rw[mV];exact bd),by(rw[mV];exact ak),rfl,aa,by rwa[mV],λk hk=>?_⟩;rw[j8 aa,agv hi,JY,x];by_cases F:k=(out.getD i au.ad).id.toNat;rw[ai F,ai aa,<-F];rw[af F,af aa,w k hk,Int.add_zero];(have D:i=Y out:=by omega);subst D;rw[lG] at w;refine' iK;all_goals exact⟨m,_,_,_,bd,ak,g2,w⟩
  rintro l L ⟨m,am,u,o,hl,S,g2,w⟩;refine' gh;refine' eR;refine W.bu (λk l L=>∃(i:Nat)(m:List Int)(am:aP)(u o:Nat),Le [(2,bk o),(6,H jM (Y d) jN),(7,H jZ (Y out) j3),(9,H am (Y m) u),(11,iv (i:Int))] l/\cb [.box o (lL v st) 29 U,.aU (H jM (Y d) jN) 67 10 (ab d),.aU (H jZ (Y out) j3) 48 2 (ab out),.aU (H am (Y m) u) 3 1 (ab m)] L/\k=Y d-i/\i<=Y d/\Y m=Y d/\(∀k,k<Y d->m.getD k 0=gT out k)/\ja st out 0 d=ja st out i (d.drop i))
   (λl L=>Le [(7,H jZ (Y out) j3)] l/\cb [.aU (H jZ (Y out) j3) 48 2 (ab out)] L/\ja st out 0 d=J) _ ⟨0,m,_,_,_,bd,ak,rfl,aa,g2,w,rfl⟩ ?_ ?_
  .rintro k l L ⟨i,m,am,u,o,hl,S,rfl,g1,g2,w,x⟩;refine' cP;by_cases hi:i<Y d
   .rw[drop_cons hi,ja] at x;have G:m.getD i au.ad=_:=w i hi;(repeat' first|(apply eV;exact aj;(first|exact λs hr=>MY s _ _ aT _ hr|exact λs hr=>MY s _ _ aT ⟨_,_,_,⟨⟨_,_,_,_,_⟩,_,_⟩⟩ hr);exact dO;intros)|refine' cY|fail);all_goals first
     |(refine⟨_,aa,i+1,m,_,_,_,bd,ak,rfl,aa,g2,w,?_⟩;rw[x,<-G];clear G x w e A B;generalize d.getD i au.ad=n at *;generalize m.getD i au.ad=mi at *;simp[*];done)
     |(have hz:ja st out 0 d=U:=by(rw[x,<-G];clear G x w e A B;generalize d.getD i au.ad=n at *;generalize m.getD i au.ad=mi at *;simp[*];done)
       rw[hz,af cx] at e;subst e;exact CY bK bH ak rfl rfl)
     |skip
    all_goals skip
   (have D:i=Y d:=by omega);subst D;rw[re,ja] at x;refine' iK;all_goals exact⟨bd,ak,x⟩
  rintro l L ⟨hl,S,x⟩;refine' gh;rw[x,ai rfl] at e;subst e;refine' eR;exact CY bK bH ak rfl rfl
 have N:dL st t=U:=by simpa using N
 have V:(!dL st t)=J:=by rw[N];rfl
 rw[N,ai cx] at e;subst e;refine a8 f41 ?_;repeat' first|refine' Mq|refine' cY|fail
 all_goals exact CY bK bH ak rfl rfl
abbrev q5 (a:aP)(c:Nat)(q:ot):It:=.aU (H a (Y q) c) 50 3 (ab q)
def abx (st:ae)(t:bt):∀n∈bj st t,ka n:=λn hn=>by
 unfold bj at hn;obtain⟨z,_,rfl⟩:=qj.1 hn;cases h:bY z with
 |none=>exact ka.no
 |some n=>exact ka.of (Pg.jW h).1
def YK (s:St)(v:SA)(st:ae)(h:cZ 100000 st)(t:bt)(ht:ee t)(f:Flat)(hf:pI st t=C f)(hr:cr s v st):Ht 17 [eg v st,tv t] s [] (iB v) λR L=>∃a c a' c',R= .tuple ⟨[.agg ⟨tq a c f.names a' c' f.aB⟩,M J]⟩/\L=[jI a c f.names,q5 a' c' f.aB]:=by
 have S:=Rd.Bt hr;have N:=Rd.off hr;have Q:=Rd.y8 hr;have n:∀s,cr s v st->et aZ aW 41 [eg v st,tv t] s (iB v) 48 ((fO st t).getD []) (fO st t).isSome:=λs hr=>H7 s v st h t ht hr;have hns:∀s,cr s v st->eD aZ aW 31 [eg v st,tv t] s (iB v) 67 (bj st t):=λs hr=>qL s v st h t ht hr;have V:Y (bj st t)<=16:=by unfold bj;rw[fH,(j9 h ht).1];have:=ht.mn;omega
 have B:=abx st t;unfold pI at hf;cases y:fO st t with
 |none=>rw[y] at hf;cases hf
 |some all=>
  rw[y] at hf n;cases hf;have z:∀s,cr s v st->et aZ aW 41 [eg v st,tv t] s (iB v) 48 all J:=n;clear n;generalize bj st t=m at *
  refine a8 f17 ?_;(repeat' first|(apply kU;exact aj;exact λs hr=>z s hr;exact dO;intro _ _ e j _ _)|refine' Sh|refine' af1|refine' cY|fail);refine W.bu (λk l L=>∃(i x o u:Nat)(out:ot)(b:aP)(d:Nat),Le [(2,bk x),(4,bk o),(8,bk u),(9,H jM (Y m) jN),(10,iv (i:Int))] l/\cb [.box x (lL v st) 29 U,.box o (tq O 0 [] O 0 []) 39 U,.box u (tq e j all b d out) 39 U,.aU (H jM (Y m) jN) 67 10 (ab m),.aU (H e (Y all) j) 48 2 (ab all),q5 b d out] L/\k=Y m-i/\i<=Y m/\Y out<=i/\cz st 0 m=out++cz st i (m.drop i))
   (λl L=>∃(o u:Nat)(b:aP)(d:Nat),Le [(4,bk o),(8,bk u)] l/\cb [.box o (tq O 0 [] O 0 []) 39 U,.box u (tq e j all b d (cz st 0 m)) 39 U,.aU (H e (Y all) j) 48 2 (ab all),q5 b d (cz st 0 m)] L) _ ⟨0,_,_,_,[],_,_,bd,ak,rfl,aa,aq,rfl⟩ ?_ ?_
  .rintro k l L ⟨i,x,o,u,out,b,d,hl,G,rfl,Z,g2,w⟩;refine' cP;dsimp only[q5];by_cases hi:i<Y m
   .have T:=B _ (a7 hi au.ad);rw[drop_cons hi,cz] at w;by_cases F:(m.getD i au.ad).kind=2
    .rw[ai F] at w;(repeat' first|refine' Se|refine' yB|refine' cY|fail);refine⟨_,aa,i+1,x,o,u,out++[⟨i,J,[]⟩],_,_,bd,ak,rfl,aa,by rw[dB];simp;omega,?_⟩;rw[w];simp
    rw[af F] at w;by_cases D:(m.getD i au.ad).kind=1
    .rw[ai D] at w;(repeat' first|refine' Se|refine' yB|refine' cY|fail);refine⟨_,aa,i+1,x,o,u,out++[⟨i,U,a6 st (m.getD i au.ad)⟩],_,_,bd,ak,rfl,aa,by rw[dB];simp;omega,?_⟩;rw[w];simp
    rw[af D] at w;(repeat' first|refine' Se|refine' yB|refine' cY|fail);exact⟨_,aa,i+1,x,o,u,out,_,_,bd,ak,rfl,aa,aa,by rw[w];simp⟩
   (have A:i=Y m:=by omega);subst A;rw[re,cz,fT] at w;subst w;refine' iK;all_goals exact⟨_,_,_,_,bd,ak⟩
  rintro l L ⟨o,u,b,d,hl,G⟩;refine' gh;dsimp only[q5];refine' eR;exact⟨bK,_,_,bH,ak,_,_,_,_,rfl,rfl⟩
def agw (i:Nat):(replicate 64 (0:Int)).getD i au.ad=0:=by rw[eX,List.getElem?_replicate];split<;>rfl
def agx (i:Nat):(replicate 64 ([]:aw)).getD i au.ad=[]:=by rw[eX,List.getElem?_replicate];split<;>rfl
end Go.Pl
