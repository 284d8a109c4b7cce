/- Lemmas of the proof. No conditions. -/
import Derived.Test.YtnealhiolaklpaaGreatDoorAe8
import Derived.Test.YtnealhiolaklpaaGreatDoorAe11
import Derived.Test.YtnealhiolaklpaaGreatDoorAg1
set_option maxRecDepth 100000
set_option maxHeartbeats 4000000
set_option linter.all false
open Bool renaming false->U,true->J
open Option renaming none->O,some->C
open List renaming length->Y
open Go.Value renaming slice->H,bool->M,int->I
open Go.Proofs.Tryz
open Nat (beq ble mul)
open Go.Result (andThen_ok)
open Go.Sem (run_bind)
open Go.Region (binds)
open List (replicate)
open Int (toNat)
open Go.Builtin (firstCells)
open Go.Instr (checkKey)
namespace Go.Pl
open Go Go.Ev Go.Lg Go.Proofs
variable {E:hJ}{X:fb}{Γ:ng}{l:Kn}{L R:cq}{K:KO}{g:FuncId}{xs:List Operand}{ts:Array TypeId}{vs:aV}{v:SA}{st:ae}{t:bt}{F:Flat}{Lm:cq}{a:aP}{s:St}{n:Nat}{r:Value}{ns:List aw}
def intIn (R:Value):Prop:=∃k:Int,R=iv k/\ -1<=k/\k<=100
def nW (s:St)(d:Nat)(a:aP)(code:aw)(c p:Nat)(hc:Y code<=2000)(f:p<=99000)(hr:oO s a code)(hm:∀i∈ah a,i∉[iY d a (Y code) c p].flatMap It.bC):
  wc aZ aW 126 [bk d] s d a code c p 2 intIn:=by have hd:qI ⟨s,[iY d a (Y code) c p].flatMap It.bC,ah a⟩ a code:=⟨hr,λb hb=>hb,hm⟩;refine a8 f126 ?_;(repeat' first|refine' AG|refine' tn|((with_reducible apply gb (α:=Int) (xs:=[_,_,_,_,_,_]));exact nI;exact rfl;exact rfl;intro bl _)|refine' qgb|fail);refine Ej (p':=ek) bK bH ak aa ⟨_,rfl,?_⟩;have e:=a7 (l:=([-1,0,3,7,64,63]:List Int)) (i:=oa.toNat) (by simp only[fS,jm];omega) au.ad;simp only[cA,k6,k7] at e;omega;exact Ej (p':=ek) bK bH ak aa ⟨_,rfl,aa,aa⟩
def Oz (R:Value):Prop:=∃k:fm,R= .agg ⟨[iv k.row,iv k.bE,iv k.size,iv k.sum,iv k.level]⟩/\True
def Oz.mk (a b c d e:Int):Oz (.agg ⟨[iv a,iv b,iv c,iv d,iv e]⟩):=⟨⟨a,b,c,d,e⟩,rfl,trivial⟩
def acm (s:St)(B:Nat)(a:aP)(code:aw)(c p:Nat)(hc:Y code<=2000)(S:p<=80000)(hr:oO s a code)(hm:∀i∈ah a,i∉[iY B a (Y code) c p].flatMap It.bC):
  wc aZ aW 69 [bk B] s B a code c p 300 Oz:=by
 have hd:qI ⟨s,[iY B a (Y code) c p].flatMap It.bC,ah a⟩ a code:=⟨hr,λb hb=>hb,hm⟩;obtain⟨q,ok,Q⟩:∃(q:Int->Int->Int->aw->fm)(ok:Int->Int->Int->aw->Bool),∀(x y w:Int)(z:aw),Y z<=100->∀s,bM 125 [iv x,iv y,iv w,sv z] s [] (.tuple ⟨[.agg ⟨[iv (q x y w z).row,iv (q x y w z).bE,iv (q x y w z).size,iv (q x y w z).sum,iv (q x y w z).level]⟩,M (ok x y w z)]⟩):=
  ⟨λx y w z=>(rG x y w z).getD bp,λx y w z=>(rG x y w z).isSome,λx y w z T s=>uL s x y w z aa⟩
 refine a8 f69 ?_;(repeat' first|refine' AG|refine' tn|(apply kV;exact aj;exact cK;assumption;(intro s hr hm;exact BS s _ _ _ _ _ _ aT aa aa hr hm);intro _ _ u A j d _ _;obtain⟨o,rfl,k⟩:=d)|(apply kV;exact aj;exact cK;assumption;(intro s hr hm;exact nW s _ _ _ _ _ aT aa hr hm);intro _ _ f N m e _ _;obtain⟨G,rfl,D⟩:=e)|(apply ag;exact aj;exact λs=>Q _ _ _ _ (by simp only[dB,fS,jm];omega) s;intros)|((with_reducible apply gb (α:=Int) (xs:=[_,_,_,_]));exact nI;exact rfl;exact rfl;intro bl _)|((with_reducible apply gb (α:=Int) (xs:=[_,_,_]));exact nI;exact rfl;exact rfl;intro bl _)|refine' qgb|fail);all_goals first
  |(refine Ej (p':=f) bK bH ak aa ?_;exact Oz.mk _ _ _ _ _)
  |(refine Ej (p':=ek) bK bH ak aa ?_;exact Oz.mk _ _ _ _ _)
abbrev Rb (E:hJ)(X:fb)(g:FuncId)(vs:aV)(s:St)(e:Nat)(a:aP)(code:aw)(c p d:Nat)(v:SA)(st:ae):Prop:=eJ E X g vs s (iY e a (Y code) c p::db v st) (ah a) λR L=>∃(h:Nat)(b:SA)(bB:ae),h<=p+d/\((tE bB/\R=eg b bB/\L=iY e a (Y code) c h::db b bB)\/(R= .agg ⟨[H b.r 63 b.rc,H b.f 64 b.fc,H b.l 64 b.lc,iv bB.dm,H b.g (Y bB.aS) b.gc,iv bB.iz,H b.d (Y bB.bL) b.dc,M bB.same]⟩/\L=[iY e a (Y code) c h]))
def ajh {x:Int}(h: -50000<=x/\x<=50000):Fit (x+1):=by constructor<;>omega
def ZI (s:St)(b:Nat)(a:aP)(code:aw)(c p:Nat)(hc:Y code<=2000)(d:p<=100000)(hr:oO s a code)(hm:∀i∈ah a,i∉[iY b a (Y code) c p].flatMap It.bC):wc aZ aW 27 [bk b,I .i64 6] s b a code c p 1 (YQ 6):=JO s b a code c p 6 hc d aa hr hm
def OA {l:List aw}(h:∀x∈l,Y x<=3000)(i:Nat){z:aw}(c:Y z<=3000):∀x∈l.set i z,Y x<=3000:=λx b=>by obtain b|b:=V5 b;exact h x b;rw[b];exact c
def acn (s:St)(y:Nat)(a:aP)(code:aw)(c p:Nat)(v:SA)(st:ae)(h:cZ 50000 st)(hc:Y code<=2000)(hp:p<=75000)(hr:oO s a code)(hm:∀i∈ah a,i∉(iY y a (Y code) c p::db v st).flatMap It.bC):
  Rb aZ aW 28 [bk y,eg v st] s y a code c p 1000 v st:=by have hd:qI ⟨s,(iY y a (Y code) c p::db v st).flatMap It.bC,ah a⟩ a code:=⟨hr,λb hb=>hb,hm⟩;have h1:cZ 100000 st:=h.mono aa;have u:=h.lr;have m:=h.lf;have o:=h.ll;have PW:=h.tx;have hkp:=h.kp;have ma:=h.gl;have hdl:=h.dl;have hrf:=h.rf;dsimp only[Rb,db];refine a8 f28 ?_;have aji:∀i,-50000<=st.aI.getD i au.ad/\st.aI.getD i au.ad<=50000:=λi=>h.ref i;have k:tE st:=⟨u,m,o,h.rw,aa,aa,aa⟩;(repeat' first|(apply kV;exact aj;exact cK;assumption;(intro s hr hm;exact ZI s _ _ _ _ _ aT aa hr hm);intro _ _ aht ahu D z _ _;obtain⟨e,rfl,T⟩:=z)|refine' tn|(apply kV;exact aj;exact cK;assumption;(intro s hr hm;exact BS s _ _ _ _ _ _ aT aa aa hr hm);intro _ _ x aco N B _ _;obtain⟨w,rfl,Z⟩:=B)|(apply kV;exact aj;exact cK;assumption;(intro s hr hm;exact acm s _ _ _ _ _ aT aa hr hm);intro _ _ j ahv G A _ _;obtain⟨f,rfl,V⟩:=A)|refine' pS|((with_reducible apply gb (α:=Int) (xs:=[_,_,_]));exact nI;exact rfl;exact rfl;intro bl _)|((with_reducible apply gb (α:=fm) (xs:=[⟨_,_,_,_,_⟩]));exact nI;exact rfl;exact rfl;intro bl _)|((with_reducible apply TY (i:=1));exact bN;exact bN;exact kD;(decide);intro _ Q S _)|(apply CS;exact bN;exact bN;(exact ajh (aji _));intro _)|refine' cY|fail);refine⟨bK,_,iY y a (Y code) c ek::db gM st,bH,ak,ek,gM,{st with dm:=([0,900,901]:List Int).getD oa.toNat au.ad},aa,.inl ⟨⟨u,m,o,h.rw,?_,k.gl,k.dl⟩,rfl,rfl⟩⟩;have hx:=a7 (l:=([0,900,901]:List Int)) (i:=oa.toNat) (by simp only[fS,jm];omega) au.ad;simp only[cA,k6,k7] at hx;dsimp only;omega;refine⟨bK,_,iY y a (Y code) c ek::db gM st,bH,ak,ek,gM,{st with iz:=([-1,st.dm,st.dm-1]:List Int).getD oa.toNat au.ad},aa,.inl ⟨⟨u,m,o,h.rw,k.tx,k.gl,k.dl⟩,rfl,rfl⟩⟩;refine⟨bK,_,iY y a (Y code) c x::db gM {st with dV:=st.dV.set (8+e).toNat w},bH,ak,x,gM,{st with dV:=st.dV.set (8+e).toNat w},aa,.inl ⟨⟨by show(st.dV.set _ _).length=64;rwa[mV],m,o,OA h.rw _ aa,k.tx,k.gl,k.dl⟩,rfl,rfl⟩⟩;refine⟨bK,_,iY y a (Y code) c ek::db gM {st with aI:=st.aI.set (8+e).toNat (st.aI.getD (8+e).toNat au.ad+1)},bH,ak,ek,gM,{st with aI:=st.aI.set (8+e).toNat (st.aI.getD (8+e).toNat au.ad+1)},aa,.inl ⟨⟨u,by show(st.aI.set _ _).length=64;rwa[mV],o,h.rw,k.tx,k.gl,k.dl⟩,rfl,rfl⟩⟩;refine⟨bK,_,iY y a (Y code) c j::db {gM with g:=yy,gc:=yz} {st with aS:=st.aS++[f]},bH,ak,j,{gM with g:=yy,gc:=yz},{st with aS:=st.aS++[f]},aa,.inl ⟨⟨u,m,o,h.rw,k.tx,by show(st.aS++[_]).length<=100000;rw[dB,vJ];omega,k.dl⟩,rfl,rfl⟩⟩;refine⟨bK,_,iY y a (Y code) c j::db {gM with d:=yy,dc:=yz} {st with bL:=st.bL++[f]},bH,ak,j,{gM with d:=yy,dc:=yz},{st with bL:=st.bL++[f]},aa,.inl ⟨⟨u,m,o,h.rw,k.tx,k.gl,by show(st.bL++[_]).length<=100000;rw[dB,vJ];omega⟩,rfl,rfl⟩⟩;exact⟨bK,_,[iY y a (Y code) c ek],bH,ak,ek,{gM with r:=Q,rc:=S},st,aa,.inr ⟨rfl,rfl⟩⟩;refine⟨bK,_,iY y a (Y code) c ek::db gM {st with bW:=st.bW.set (8+e).toNat (st.dm+1)},bH,ak,ek,gM,{st with bW:=st.bW.set (8+e).toNat (st.dm+1)},aa,.inl ⟨⟨u,m,by show(st.bW.set _ _).length=64;rwa[mV],h.rw,k.tx,k.gl,k.dl⟩,rfl,rfl⟩⟩;refine⟨bK,_,iY y a (Y code) c ek::db gM {st with dV:=st.dV.set 2 [108,111,119]},bH,ak,ek,gM,{st with dV:=st.dV.set 2 [108,111,119]},aa,.inl ⟨⟨by show(st.dV.set _ _).length=64;rwa[mV],m,o,OA h.rw _ cx,k.tx,k.gl,k.dl⟩,rfl,rfl⟩⟩
variable {br c p d:Nat}{code:aw}
def VA (x:iu l xs vs)(e:l3 [iY br a (Y code) c p] L R)(f:qI Γ a code)(h:∀s,oO s a code->(∀i∈ah a,i∉[iY br a (Y code) c p].flatMap It.bC)->YW E X g vs s br a code c p d)(k:∀m b p' v st t,p'<=p+d->Pg.FS st t->cZ 30000 st->ee t->gk L m->m<=b->K (.tuple ⟨[eg v st,tv t]⟩) (iY br a (Y code) c p'::(db v st++R)) m b (iI (ah a) [iY br a (Y code) c p] m b) (iJ [iY br a (Y code) c p] m b)):WC E X Γ l g xs ts L K:=
 cI (Lm:=[iY br a (Y code) c p]) (R:=R) x e.bX (λs hi=>(f.row (hi.bX e.bX|>.sub ⟨R,.refl _,o7 _ _⟩)).2) (λs hi=>h s (f.row (hi.bX e.bX|>.sub ⟨R,.refl _,o7 _ _⟩)).1 (qI.apart f (hi.bX e.bX))) (by rintro y L' m b w hm ⟨p',v,st,t,j,o,q,u,rfl,rfl⟩;exact k m b p' v st t j o q u w hm)
def VB (u:iu l xs vs)(e:l3 (iY br a (Y code) c p::db v st) L R)(j:qI Γ a code)(h:∀s,oO s a code->(∀i∈ah a,i∉(iY br a (Y code) c p::db v st).flatMap It.bC)->Rb E X g vs s br a code c p d v st)
  (w:∀m b p' v' bB,p'<=p+d->tE bB->gk L m->m<=b->K (eg v' bB) (iY br a (Y code) c p'::(db v' bB++R)) m b (iI (ah a) (iY br a (Y code) c p::db v st) m b) (iJ (iY br a (Y code) c p::db v st) m b))
  (x:∀m b p' (v':SA)(bB:ae),p'<=p+d->gk L m->m<=b->K (.agg ⟨[H v'.r 63 v'.rc,H v'.f 64 v'.fc,H v'.l 64 v'.lc,iv bB.dm,H v'.g (Y bB.aS) v'.gc,iv bB.iz,H v'.d (Y bB.bL) v'.dc,M bB.same]⟩) (iY br a (Y code) c p'::R) m b (iI (ah a) (iY br a (Y code) c p::db v st) m b) (iJ (iY br a (Y code) c p::db v st) m b)):WC E X Γ l g xs ts L K:=
 cI (Lm:=iY br a (Y code) c p::db v st) (R:=R) u e.bX (λs hi=>(j.row (hi.bX e.bX|>.sub ⟨R,.refl _,o7 _ _⟩)).2) (λs hi=>h s (j.row (hi.bX e.bX|>.sub ⟨R,.refl _,o7 _ _⟩)).1 (qI.apart j (hi.bX e.bX))) (by rintro y L' m b o hm ⟨p',v',bB,k,(⟨q,rfl,rfl⟩|⟨rfl,rfl⟩)⟩;exact w m b p' v' bB k q o hm;exact x m b p' v' bB k o hm)
abbrev ZJ (E:hJ)(X:fb)(g:FuncId)(vs:aV)(s:St)(br:Nat)(a:aP)(code:aw)(c p d:Nat):Prop:=eJ E X g vs s [iY br a (Y code) c p] (ah a) λR L=>∃(e:Nat)(b:SA)(bB:ae)(t:bt),e<=p+d/\((tE bB/\R= .tuple ⟨[eg b bB,tv t]⟩/\L=iY br a (Y code) c e::db b bB)\/(R= .tuple ⟨[.agg ⟨[H b.r 63 b.rc,H b.f 64 b.fc,H b.l 64 b.lc,iv bB.dm,H b.g (Y bB.aS) b.gc,iv bB.iz,H b.d (Y bB.bL) b.dc,M bB.same]⟩,tv t]⟩/\L=[iY br a (Y code) c e]))
def cZ.w {n:Nat}{st:ae}(h:cZ n st)(hn:n<=100000):tE st:=⟨h.lr,h.lf,h.ll,h.rw,by have:=h.tx;omega,by have:=h.gl;omega,by have:=h.dl;omega⟩
def ZK (s:St)(br:Nat)(a:aP)(code:aw)(c p n:Nat)(hc:Y code<=2000)(b:p<=100000)(hn:n<=1000)(hr:oO s a code)(hm:∀i∈ah a,i∉[iY br a (Y code) c p].flatMap It.bC):wc aZ aW 27 [bk br,iv (n:Int)] s br a code c p 1 (YQ n):=JO s br a code c p n hc b aa hr hm
def ajj {x:Int}(h:0<=x/\x<=9):Fit (x+1):=by constructor<;>omega
def Rc {st:ae}{t:bt}(h:Pg.FS st t):0<Y (bj st t):=by
 obtain⟨f,hf,_⟩:=Pg.aa5 h;obtain h0|h0:=tG (Y (bj st t));have hn:=jG h0;unfold pI at hf;have:fO st t=O:=by unfold fO;dsimp only;rw[hn];split;rfl;rw[ai (.inl rfl)]
 rw[this] at hf;cases hf;exact h0
def OB {st:ae}{t:bt}{n:dX}(h:n∈bj st t):0<=n.aX/\n.aX<=9:=by
 unfold bj at h;obtain⟨z,_,rfl⟩:=qj.1 h;cases b:bY z with
 |none=>exact⟨cx,cx⟩
 |some n=>obtain⟨_,_,_,_,_,_,e,_⟩:=Pg.ef (Pg.jW b).1;show 0<=n.aX/\n.aX<=9;omega
def ZL (s:St)(br:Nat)(a:aP)(code:aw)(c p:Nat)(hc:Y code<=2000)(hp:p<=60000)(hr:oO s a code)(hm:∀i∈ah a,i∉[iY br a (Y code) c p].flatMap It.bC):
  ZJ aZ aW 13 [bk br] s br a code c p 5000:=by
 have hd:qI ⟨s,[iY br a (Y code) c p].flatMap It.bC,ah a⟩ a code:=⟨hr,λb hb=>hb,hm⟩;refine a8 f13 ?_;(repeat' first|refine' tn|(apply kV;exact aj;exact cK;assumption;(intro s hr hm;exact BS s _ _ _ _ _ _ aT aa aa hr hm);intro _ _ o aco Z G _ _;obtain⟨j,rfl,ahw⟩:=G)|(apply VA;exact aj;exact cK;assumption;(intro s hr hm;exact YX s _ _ _ _ _ aT aa hr hm);intro _ _ p_f Q e f akb ajk u y _ _)|refine' cY|fail)
 .with_reducible apply VB
  exact aj;exact cK;exact hd;intro s hr hm;exact acn s _ _ _ _ _ _ _ (u.mono aa) aT aa hr hm
  .intro m m' p' v' bB hp' hw _ _;dsimp only[db,List.cons_append,List.nil_append];refine' eR;(with_reducible refine yh ?_ ?_ ?_);rotate_left;exact qac;rotate_left;intro b_ _ h1_ Bo;dsimp only[iI,iJ] at h1_;have tD:=mU.out;simp only[mR,vH,It.bC,jV,qp,jk,kG,fT,tM,vD,cA,cG,not_or,k6,k7,s9,tS,ta,tQ,tA] at tD h1_;subst Bo;(obtain(h1_|h1_|h1_|h1_|h1_|h1_)|h1_:=h1_<;>first|omega|(exact absurd h1_ (by simp only[tD,tS]))|(exact absurd h1_.symm (by simp only[tD,tS])));refine' iK;all_goals exact⟨bK,_,iY br a (Y code) c p'::db v' bB,bH,ak,p',v',bB,f,aa,.inl ⟨hw,rfl,rfl⟩⟩
  intro m m' p' v' bB hp' _ _;refine' eR;with_reducible refine yh ?_ ?_ ?_
  rotate_left;exact qac;rotate_left;intro b_ _ h1_ Bo;dsimp only[iI,iJ] at h1_;have tD:=mU.out;simp only[mR,vH,It.bC,jV,qp,jk,kG,fT,tM,vD,cA,cG,not_or,k6,k7,s9,tS,ta,tQ,tA] at tD h1_;subst Bo;obtain(h1_|h1_|h1_|h1_|h1_|h1_)|h1_:=h1_<;>first|omega|(exact absurd h1_ (by simp only[tD,tS]))|(exact absurd h1_.symm (by simp only[tD,tS]))
  refine' iK;all_goals exact⟨bK,_,[iY br a (Y code) c p'],bH,ak,p',v',bB,f,aa,.inr ⟨rfl,rfl⟩⟩
 obtain⟨A,rfl⟩:∃A:Nat,oa=A:=⟨oa.toNat,aa⟩;have wQ:∀(B:SA) s,eS aZ aW 29 [eg B e,tv f,iv A,sv j] s [] B e (lh e f A j).1 (lh e f A j).2.2 (yL (lh e f A j).2.1 (lh e f A j).2.2):=λB s=>pW s B e (u.mono aa) f y A aa j aa;have g:=kW (k:=A) (z:=j) u y aa aa;generalize lh e f A j=r at wQ g;obtain⟨bB,t',ok⟩:=r;dsimp only at wQ g;cases ok with
 |true=>refine' zao;all_goals exact⟨bK,_,iY br a (Y code) c o::db q9 bB,bH,ak,o,q9,bB,t',aa,.inl ⟨g.1.w aa,rfl,rfl⟩⟩
 |false=>
  refine' zao;all_goals
   obtain rfl:=ZE rfl;exact⟨bK,[eg q9 e,tv f],iY br a (Y code) c o::db q9 bB,bH,ak,o,q9,bB,f,aa,.inl ⟨g.1.w aa,by rw[(g.2.2 rfl).eg];rfl,rfl⟩⟩
 .have h1:cZ 100000 e:=u.mono aa;have hn0:=Rc ajk;have hnb:∀i,i<Y (bj e f)->0<=((bj e f).getD i au.ad).aX/\((bj e f).getD i au.ad).aX<=9:=λi hi=>OB (a7 hi _);have ON:Y (bj e f)<=16:=by unfold bj;rw[fH,(j9 h1 y).1];have:=y.mn;omega
  (repeat' first|(apply kV;exact aj;exact cK;assumption;(intro s hr hm;exact ZK s _ _ _ _ _ _ aT aa aa hr hm);intro _ _ ahx ahy V D _ _;obtain⟨N,rfl,ahz⟩:=D)|refine' tn|(apply n3;exact aj;(first|exact λs hr=>qL s _ _ aT _ aT hr|exact λs hr=>qL s _ _ aT ⟨⟨_,_,_,_,_⟩,_,_⟩ aT hr);exact dO;intro _ _ S T _ _)|(apply CS;exact bN;exact bN;(exact ajj (hnb _ aa));intro _)|refine' cY|fail);obtain⟨A,rfl⟩:∃A:Nat,oa=A:=⟨oa.toNat,aa⟩;generalize(bj e f).getD N.toNat au.ad=x;have wQ:∀(B:SA) s,eS aZ aW 32 [eg B e,tv f,iv A,nv ⟨x.kind,x.aX+1,x.size,x.aO⟩] s [] B e (kH e f A ⟨x.kind,x.aX+1,x.size,x.aO⟩).1 (kH e f A ⟨x.kind,x.aX+1,x.size,x.aO⟩).2.2 (yL (kH e f A ⟨x.kind,x.aX+1,x.size,x.aO⟩).2.1 (kH e f A ⟨x.kind,x.aX+1,x.size,x.aO⟩).2.2):=λB s=>rY s B e (u.mono aa) f y A aa _;have g:=kW (k:=A) (z:=dK ⟨x.kind,x.aX+1,x.size,x.aO⟩) u y aa (jR (sR _) cx);rw[show lh e f A (dK ⟨x.kind,x.aX+1,x.size,x.aO⟩)=kH e f A ⟨x.kind,x.aX+1,x.size,x.aO⟩ from rfl] at g;generalize kH e f A ⟨x.kind,x.aX+1,x.size,x.aO⟩=r at wQ g;obtain⟨bB,t',ok⟩:=r;dsimp only at wQ g;cases ok with
  |true=>refine' zao;all_goals exact⟨bK,_,iY br a (Y code) c ek::db q9 bB,bH,ak,ek,q9,bB,t',aa,.inl ⟨g.1.w aa,rfl,rfl⟩⟩
  |false=>
   refine' zao;all_goals
    obtain rfl:=ZE rfl;exact⟨bK,[eg q9 e,tv f],iY br a (Y code) c ek::db q9 bB,bH,ak,ek,q9,bB,f,aa,.inl ⟨g.1.w aa,by rw[(g.2.2 rfl).eg];rfl,rfl⟩⟩
 .have hmn:=y.mn;refine' iK;all_goals exact⟨bK,_,iY br a (Y code) c ek::db Q e,bH,ak,ek,Q,e,{f with many:=f.many+1},aa,.inl ⟨u.w aa,rfl,rfl⟩⟩
 exact⟨bK,_,iY br a (Y code) c ek::db Q e,bH,ak,ek,Q,e,f,aa,.inl ⟨u.w aa,rfl,rfl⟩⟩
abbrev ZM (E:hJ)(X:fb)(g:FuncId)(vs:aV)(s:St)(a:aP)(code:aw):Prop:=eJ E X g vs s [] (ah a) λR L=>∃(br:Nat)(e:aP)(f:Nat)(b:aw),ael a code e b/\Y b<=2000/\R=bk br/\L=[iY br e (Y b) f 0]
def VC (q:iu l xs vs)(h:∀s,oO s a code->UX (Y code) c->ZM E X g vs s a code)(hd:qI Γ a code)(hv:UX (Y code) c)(k:∀m e br a2 c2 (b:aw),ael a code a2 b->Y b<=2000->qI Γ a2 b->gk L m->m<=e->K (bk br) (iY br a2 (Y b) c2 0::L) m e (λi=>i∈ah a\/i∈([]:cq).flatMap It.bC\/(m<=i/\i<e)) (λi=>i∈([]:cq).flatMap It.bC\/(m<=i/\i<e))):WC E X Γ l g xs ts L K:=
 cI (Lm:=[]) (R:=L) (A:=ah a) q (.refl _) (λs hi=>(hd.row hi).2) (λs hi=>h s (hd.row hi).1 hv) (by rintro r L' m e o hm ⟨br,a2,c2,b,f,j,rfl,rfl⟩;exact k m e br a2 c2 b f j (hd.sub f) o hm)
abbrev ZN (E:hJ)(X:fb)(g:FuncId)(vs:aV)(s:St)(a:aP):Prop:=eJ E X g vs s [] (ah a) λR L=>∃(b:SA)(bB:ae)(t:bt),((tE bB/\R= .tuple ⟨[eg b bB,tv t]⟩/\L=db b bB)\/(R= .tuple ⟨[.agg ⟨[H b.r 63 b.rc,H b.f 64 b.fc,H b.l 64 b.lc,iv bB.dm,H b.g (Y bB.aS) b.gc,iv bB.iz,H b.d (Y bB.bL) b.dc,M bB.same]⟩,tv t]⟩/\L=[]))
def VD (q:iu l xs vs)(e:l3 [iY br a (Y code) c p] L R)(j:qI Γ a code)(h:∀s,oO s a code->(∀i∈ah a,i∉[iY br a (Y code) c p].flatMap It.bC)->ZJ E X g vs s br a code c p d)
  (u:∀m b p' v' bB t,tE bB->gk L m->m<=b->K (.tuple ⟨[eg v' bB,tv t]⟩) (iY br a (Y code) c p'::(db v' bB++R)) m b (iI (ah a) [iY br a (Y code) c p] m b) (iJ [iY br a (Y code) c p] m b))
  (w:∀m b p' (v':SA)(bB:ae) t,gk L m->m<=b->K (.tuple ⟨[.agg ⟨[H v'.r 63 v'.rc,H v'.f 64 v'.fc,H v'.l 64 v'.lc,iv bB.dm,H v'.g (Y bB.aS) v'.gc,iv bB.iz,H v'.d (Y bB.bL) v'.dc,M bB.same]⟩,tv t]⟩) (iY br a (Y code) c p'::R) m b (iI (ah a) [iY br a (Y code) c p] m b) (iJ [iY br a (Y code) c p] m b)):WC E X Γ l g xs ts L K:=
 cI (Lm:=[iY br a (Y code) c p]) (R:=R) q e.bX (λs hi=>(j.row (hi.bX e.bX|>.sub ⟨R,.refl _,o7 _ _⟩)).2) (λs hi=>h s (j.row (hi.bX e.bX|>.sub ⟨R,.refl _,o7 _ _⟩)).1 (qI.apart j (hi.bX e.bX))) (by rintro x L' m b k hm ⟨p',v',bB,t,_,(⟨o,rfl,rfl⟩|⟨rfl,rfl⟩)⟩;exact u m b p' v' bB t o k hm;exact w m b p' v' bB t k hm)
def VE (s:St)(a:aP)(code:aw)(c:Nat)(hr:oO s a code)(hv:UX (Y code) c):ZM aZ aW 12 [H a (Y code) c] s a code:=by have hd:qI ⟨s,([]:cq).flatMap It.bC,ah a⟩ a code:=qI.of hr λ_ hb=>hb;have e:UX (Y code) c:=hv;refine a8 f12 ?_;(repeat' first|(apply abz;exact bN;exact bN;assumption;assumption;exact mv;intro _ b)|refine' cY|fail);exact⟨bK,_,_,bH,ak,_,_,_,_,⟨rfl,_,rfl⟩,by rw[de];omega,rfl,rfl⟩;exact⟨bK,_,_,bH,ak,_,_,_,code,⟨rfl,Y code,lG.symm⟩,aa,rfl,rfl⟩
def Gk (s:St)(a:aP)(code:aw)(c:Nat)(hr:oO s a code)(hv:UX (Y code) c):ZN aZ aW 4 [H a (Y code) c] s a:=by
 have hd:qI ⟨s,([]:cq).flatMap It.bC,ah a⟩ a code:=qI.of hr λ_ hb=>hb;have y:UX (Y code) c:=hv;refine a8 f4 ?_;(repeat' first|(apply VC;exact aj;(intro s w x;exact VE s _ _ _ w x);assumption;assumption;intro _ _ o k u e j i b _ _)|refine' cY|fail);with_reducible apply VD
 exact aj;exact cK;exact b;intro s hr hm;exact ZL s _ _ _ _ _ aT aa hr hm
 .intro m A B f bB t z _ _;dsimp only[db,List.cons_append,List.nil_append];refine' iK;all_goals exact⟨bK,_,db f bB,bH,ak,f,bB,t,.inl ⟨z,rfl,rfl⟩⟩
 intro m A B f bB t _ _;refine' iK;all_goals exact⟨bK,_,[],bH,ak,f,bB,t,.inr ⟨rfl,rfl⟩⟩
end Go.Pl
namespace Go.Pl
open Go.Pg
variable {t:bt}
def SX {n:dX}:∀(L:List aw)(k:Nat),dE.go n k L=J->∀i,i<Y L->(Y (L.getD i []):Int)<=eC n.size (k+i)/\kC (L.getD i [])=L.getD i []
 |[],k,_,i,hi=>by simp at hi
 |s::L,k,h,i,hi=>by
  rw[dE.go] at h;simp only[ep,gv] at h;cases i with
  |zero=>exact h.1
  |succ i=>have:=SX L (k+1) h.2 i (by simpa using hi);rwa[vM,show k+(i+1)=k+1+i by omega]
def VF {n:dX}(h:cM n=J)(b:n.kind=1):0<=n.size/\n.size<=192/\n.aO.many=cV n.size 12:=by obtain⟨_,_,a,c,_⟩:=ef h;unfold dT at a;rw[b] at a;by_cases hr:fI n.size 0 (16*eG 1)=J;rw[af (by rw[hr];decide)] at a;simp only[fI,ep,gv,eG] at hr;exact⟨hr.1,by simpa using hr.2,a⟩;rw[ai (by rw[tK] at hr;rw[hr];simp)] at a;omega
def ZO {st:ae}{n:dX}(h:dE st n=J):(Y (a6 st n):Int)=n.size/\Y (a6 st n)<=192:=by unfold dE at h;simp only[ep,gv] at h;obtain⟨⟨⟨b,c⟩,a⟩,d⟩:=h;obtain⟨s0,f,g⟩:=VF b c;have e:=uC n.size s0;have hl:=Iv a;have hm:=u1 a;have:=wY n.size (fU st n.aO) 0 [] (λi hi=>(SX _ 0 d i hi).1) (λ_=>by omega);rw[show kM n.size 0 (fU st n.aO) []=a6 st n from rfl] at this;rw[hl] at this;simp only[jm] at this;constructor<;>omega
def OC {st:ae}{i:Nat}{e:NE}(h:fF st t i=C e):(e.n.kind=2->(⟨(i:Int),J,[]⟩:eF)∈cz st 0 (bj st t))/\(e.n.kind=1->(⟨(i:Int),U,a6 st e.n⟩:eF)∈cz st 0 (bj st t)):=by
 have d:=(nF h).1;obtain⟨_,_,a⟩:=mB d;have b:(bj st t).getD i aK=e.n:=by rw[kk,d];rfl
 rw[<-vz] at a;refine⟨λc=>(qh _ 0 _).2 ⟨i,a,.inl ⟨by rw[b];exact c,by rw[kz]⟩⟩,λc=>(qh _ 0 _).2 ⟨i,a,.inr ⟨by rw[b];exact c,by rw[kz,b]⟩⟩⟩
def Fk {st:ae}{x:eF}(h:x∈cz st 0 (bj st t)):∃(i:Nat)(e:NE),fF st t i=C e/\x.id=(i:Int)/\((e.n.kind=2/\x=⟨(i:Int),J,[]⟩)\/(e.n.kind=1/\x=⟨(i:Int),U,a6 st e.n⟩)):=by
 obtain⟨i,hi,a⟩:=(qh _ 0 _).1 h;rw[kz] at a;cases hn:(bI st t).getD i O with
 |none=>
  have:(bj st t).getD i aK=aK:=by rw[kk,hn];rfl
  rw[this] at a;obtain⟨b,_⟩|⟨b,_⟩:=a<;>cases b
 |some n=>
  have:(bj st t).getD i aK=n:=by rw[kk,hn];rfl
  rw[this] at a;refine⟨i,_,og hn,?_,a⟩;obtain⟨_,rfl⟩|⟨_,rfl⟩:=a<;>rfl
def VG {p s:aw}(hs:∀c∈s,c≠47)(g:p≠[]):bS (bb p s)=(p,s):=by
 have d:iT s=O:=qM s λj f=>hs _ (gX 0 f);have e:iT (47::s)=C 0:=by rw[iT,d];rfl
 have b:=Eu (bs p) (47::s) 0 e;rw[wu] at b;unfold bS;rw[om,b];show(((bs p++47::s).take (max (Y (bs p)) 1)),(bs p++47::s).drop (Y (bs p)+1))=(p,s);rw[<-wx,Ap];refine Prod.ext ?_ rfl;show(bs p++47::s).take (max (Y (bs p)) 1)=p;unfold bs;by_cases a:p=[47];rw[ai a,a];rfl;rw[af a];have:=wq.2 g;rw[ae6 aa,Ca]
def acp {b:List aw}:pathOf b≠[]:=by
 unfold pathOf;split;simp;cases b with
 |nil=>contradiction
 |cons a l=>simp
def IB {st:ae}(h:iM st t):OkP (wl (fF st t) 146 ⟨[47],0⟩) (cz st 0 (bj st t)):=by
 obtain⟨htb,hnf,l⟩:=h;have ht:=((gN st t).1 htb).1;obtain⟨r,hr,Th⟩:=l.bU;have hp0:o1 0 [47]:=⟨[],aq,aq,rfl⟩;have o:=Hr l 146 0 ⟨[47],0⟩ cx ⟨r,hr⟩ hp0;have R:=B2 l.wf 146 ⟨[47],0⟩ [] rfl aq rfl cx;have S:=B1 l.wf 146 ⟨[47],0⟩;have hts:=u3 (st:=st) (bj st t) 0;have ON:=(oh ht).2;have Q:∀i e,fF st t i=C e->e.n.kind=1\/e.n.kind=2:=λi e d=>by obtain⟨g,_⟩|⟨g,_⟩:=l.wf i e d;exact .inl g;exact .inr g
 have D:∀i e,fF st t i=C e->∃y∈cz st 0 (bj st t),y.id=(i:Int)/\(e.n.kind=2->y.ej=J):=λi e d=>by obtain g|g:=Q i e d;exact⟨_,(OC d).2 g,rfl,λs=>by omega⟩;exact⟨_,(OC d).1 g,rfl,λ_=>rfl⟩
 have mU:((wl (fF st t) 146 ⟨[47],0⟩).map cB.ar).Nodup:=by rw[Gn,Af];exact S.imp λ{a b} T=>rH T
 have A:=ZC (G:=fF st t) 146 ⟨[47],0⟩;have u:∀w∈wl (fF st t) 146 ⟨[47],0⟩,∀e∈aY (fF st t) w.id.toNat,bS (bb w.ar e.name)=(w.ar,e.name):=λw E e d=>by obtain⟨ns,g,_⟩:=R w E;exact VG (λc hc=>by have:=Kw l.wf d c hc;rintro rfl;exact absurd this cx) (by rw[g];exact acp)
 have v:∀j:Nat,UQ (wl (fF st t) 146 ⟨[47],0⟩) (j:Int)=Pg.nn (fF st t) 146 0 j:=λj=>by rw[<-show cF j (wl (fF st t) 146 ⟨[47],0⟩)=Pg.nn (fF st t) 146 0 j from Df (fF st t) j 146 ⟨[47],0⟩];unfold UQ cF;apply acy;intro x m;have:=(o x m).1.1;rw[gv,gv];omega
 have V:∀n:Int,UQ (wl (fF st t) 146 ⟨[47],0⟩) n<=9:=λn=>by
  by_cases h0:0<=n;obtain⟨j,rfl⟩:=tI h0;rw[v];cases hg:fF st t j with
  |none=>rw[PL l hg 146 0 ⟨r,hr⟩];omega
  |some e=>have:=rX l (f:=146) aa j e hg;obtain⟨_,_,_,hl⟩|⟨_,_,hl⟩:=l.wf j e hg<;>omega
  have:UQ (wl (fF st t) 146 ⟨[47],0⟩) n=0:=by unfold UQ;rw[Ac];intro x m;have:=(o x m).1.1;rw[gv];omega
  omega
 refine⟨⟨?_,?_⟩,?_,?_,λx m=>?_,mU,aci _ _ _,λx m=>?_,λx m hx0=>?_,V,λy F hf=>?_,λz=>?_,λx m=>?_⟩;obtain⟨y,F,_⟩:=D 0 r hr;have:=V3 F;omega;rw[<-vz] at ON;have:∀(L:List dX)(k:Nat),Y (cz st k L)<=Y L:=λL=>by
  induction L with
  |nil=>intro k;simp[cz]
  |cons n L ih=>intro k;have:=ih (k+1);rw[cz,dB,fS];split;simp;omega;split<;>simp<;>omega
 have:=this (bj st t) 0;omega;rw[Gn,Af];exact hts.imp λ{a b} T=>by omega
 obtain⟨y,F,g,s⟩:=D 0 r hr;exact⟨y,F,g,s Th⟩;obtain⟨i,e,d,g,s⟩:=Fk m;have:=l.lt d;refine⟨aa,?_,?_⟩;rcases s with⟨_,rfl⟩|⟨_,rfl⟩;intro _;rfl;intro hc;cases hc;rcases s with⟨_,rfl⟩|⟨q,rfl⟩;exact jl _;exact(ZO ((hnf.each i e.n (nF d).1).1 q)).2;obtain⟨⟨h0,e,d⟩,_⟩:=o x m;obtain⟨y,F,g,_⟩:=D _ e d;exact⟨y,F,aa⟩;rcases A x m with rfl|⟨w,E,e,d,rfl⟩;exact absurd rfl hx0;have g:=u w E e d;obtain⟨⟨h0,e',N⟩,_⟩:=o w E;rw[g];refine⟨(oz l.wf d).2.2,w,E,rfl,?_⟩;obtain⟨y,F,s,K⟩:=D _ e' N;refine⟨y,F,aa,K ?_⟩;obtain⟨_,Z,_⟩|⟨X,_⟩:=l.wf _ e' N;rw[dH N,Z] at d;cases d;exact X;obtain⟨i,e,d,g,s⟩:=Fk F;rw[g,v];have:=rX l (f:=146) aa i e d;obtain⟨q,rfl⟩|⟨_,rfl⟩:=s;rcases l.wf i e d with⟨X,_⟩|⟨_,_,hl⟩<;>omega;cases hf;by_cases hz:∃w∈wl (fF st t) 146 ⟨[47],0⟩,w.ar=z;obtain⟨w,E,rfl⟩:=hz;rw[KX];have h12:Y (aY (fF st t) w.id.toNat)<=12:=(ea (ou l.wf _)).2.2;(have W:∀p∈((wl (fF st t) 146 ⟨[47],0⟩).filter (U4 w.ar)).map cB.ar,p∈(aY (fF st t) w.id.toNat).map λe=>bb w.ar e.name:=λp hp=>by obtain⟨x,m,rfl⟩:=qj.1 hp;obtain⟨m,q⟩:=Ad.1 m;unfold U4 at q;rw[ep,gv,gv] at q;obtain rfl|⟨w',B,e,d,rfl⟩:=A x m;exact absurd rfl q.1;have g:=u w' B e d;(have s:w'.ar=w.ar:=by have:=q.2;rwa[g] at this);have K:w'=w:=Qr mU B E s;subst K;exact qj.2 ⟨e,d,rfl⟩);have Wq:(((wl (fF st t) 146 ⟨[47],0⟩).filter (U4 w.ar)).map cB.ar).Nodup:=List.Nodup.sublist (List.Sublist.map _ V1) mU;have:=rZ _ _ Wq W;rw[fH,fH] at this;omega;have:(wl (fF st t) 146 ⟨[47],0⟩).countP (U4 z)=0:=by rw[Ac];intro x m q;unfold U4 at q;rw[ep,gv,gv] at q;obtain rfl|⟨w',B,e,d,rfl⟩:=A x m;exact q.1 rfl;have g:=u w' B e d;have:=q.2;rw[g] at this;exact hz ⟨w',B,this⟩
 omega;obtain⟨i,e,d,g,_⟩:=Fk m;have s:=rX l (f:=146) aa i e d;have K:1<=Pg.nn (fF st t) 146 0 i:=by obtain⟨_,_,hl,_⟩|⟨_,_,hl⟩:=l.wf i e d<;>omega
 rw[<-v] at K;unfold UQ at K;obtain⟨w,E,X⟩:=tN.1 (show 0<_ from K);exact⟨w,E,by rw[g];exact vR X⟩
def OD {st:ae}(h:iM st t):Ev.lW (wl (fF st t) 146 ⟨[47],0⟩)=wl (fF st t) 146 ⟨[47],0⟩:=YE (B1 h.2.2.wf 146 ⟨[47],0⟩)
def VH {st:ae}(h:iM st t):OkF ⟨wl (fF st t) 146 ⟨[47],0⟩,cz st 0 (bj st t)⟩:=by have:=(IB h).g;rw[OD h,YF (u3 (st:=st) (bj st t) 0)] at this;exact this.f
end Go.Pl
namespace Go.Pl
open Go Go.Ev Go.Lg Go.Proofs
variable {st:ae}{t:bt}
def Bh (h:Pg.iM st t):(fQ st t).aB=cz st 0 (bj st t):=by unfold fQ;exact IA h.2.1 λk n a=>(Pg.mD (Ab a)).1
def OE (h:Pg.iM st t):OkF (fQ st t):=by have:=VH h;rwa[<-Bh h] at this
def Fl (h:Pg.iM st t):Y (fQ st t).names<=146/\Y (fQ st t).aB<=16:=by constructor;have a:Pg.o1 0 [47]:=⟨[],aq,aq,rfl⟩;have:=Pg.Dg h.2.2 (f:=146) aa [47] a;show(Pg.wl _ _ _).length<=_;omega;have:=(OE h).tl;unfold fI at this;simp only[ep,gv] at this;omega
def aeP (h:Pg.iM st t):SC (fQ st t):=by
 have cg:=Fl h;have i:=IB h;refine⟨aa,aa,λx b=>?_,λx b=>?_⟩;obtain⟨h0,⟨n,hn⟩,_,hb,hl,_⟩:=Ox h b;obtain⟨j,g,f,_,_⟩:=Pg.B2 h.2.2.wf 146 ⟨[47],0⟩ [] rfl aq rfl cx x b;refine⟨⟨hl,hb,λe=>?_⟩,h0,?_⟩;rw[g] at e⊢;cases j with
 |nil=>simp[pathOf] at e
 |cons a l=>
  have ha:=f a ed;cases a with
  |nil=>exact absurd ha cx
  |cons c a=>have hc:=(Pg.gJ ha).1 c ed;simp[pathOf] at e;subst e;exact absurd hc cx
 have d:x.id.toNat<Y (Pg.bI st t):=by rw[eX] at hn;obtain d|d:=jc x.id.toNat (Y (Pg.bI st t));exact d;rw[mQ d] at hn;cases hn
 have:=(Pg.oh ((Pg.gN st t).1 h.1).1).2;omega;rw[Bh h] at b;have:=i.tx x b;omega
def OF {y:cB}(h0:0<=y.id){n:dX}(hn:(Pg.bI st t).getD y.id.toNat O=C n){z:aw}(hs:iL st n=C z){T:eF}(a:T∈(fQ st t).aB)(hid:T.id=y.id):T.b0=z/\T.ej=U:=
 Ra a (j:=y.id.toNat) aa hn hs
end Go.Pl
