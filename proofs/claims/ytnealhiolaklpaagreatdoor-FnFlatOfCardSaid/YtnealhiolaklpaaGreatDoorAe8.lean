/- Lemmas of the proof. No conditions. -/
import Derived.Test.YtnealhiolaklpaaGreatDoorAe6
import Derived.Test.YtnealhiolaklpaaGreatDoorAe7
set_option maxRecDepth 100000
set_option maxHeartbeats 4000000
set_option linter.all false
open Bool renaming false->U,true->J
open Option renaming none->O,some->C
open List renaming length->Y
open Go.Value renaming slice->H,bool->M,int->I
open Go.Proofs.Tryz
open Nat (beq ble mul)
open Go.Result (andThen_ok)
open Go.Sem (run_bind)
open Go.Region (binds)
open List (replicate)
open Int (toNat)
open Go.Builtin (firstCells)
open Go.Instr (checkKey)
namespace Go.Pl
open Go Go.Ev Go.Lg Go.Proofs
variable {E:hJ}{X:fb}{l:Kn}{L:cq}{g:FuncId}{xs:List Operand}{vs:aV}{v:SA}{f:Fs}{s:St}{R:cq}{y:Operand}{a:aP}{c i:Nat}{k:IntKind}{code:aw}{br p d:Nat}
def agA (s:St)(br:Nat)(a:aP)(code:aw)(c p:Nat)(hc:Y code<=2000)(t:p<=80000)(hr:oO s a code)(hm:∀i∈ah a,i∉[iY br a (Y code) c p].flatMap It.bC):
  wc aZ aW 65 [bk br] s br a code c p 220 aiM:=by
 have hd:qI ⟨s,[iY br a (Y code) c p].flatMap It.bC,ah a⟩ a code:=⟨hr,λb hb=>hb,hm⟩;have j:∀(k:Int),0<=k/\k<2->∀s,YR aZ aW 121 [sv [117],iv (24+k)] s (λR=>∃y:aw,R=sv y/\Y y<=25):=λk r s=>by have:=UY s [117] (24+k).toNat (by simp only[fS,jm];omega) aq aa;rw[Ar aa] at this;refine this.mono ?_;rintro R L ⟨⟨y,rfl,h⟩,rfl⟩;exact⟨⟨y,rfl,by rw[h];simp only[fS,jm];omega⟩,rfl⟩
 refine a8 f65 ?_;(repeat' first|refine' agd|refine' age|refine' tn|(apply YS;exact aj;(intro s;exact j _ aa s);intro _ _ o e _ _;obtain⟨n,rfl,m⟩:=e)|refine' zK|fail);all_goals refine Ej bK bH ak aa ⟨⟨_,_,_,_,_⟩,rfl,⟨?_,?_,?_,?_,?_⟩⟩
 all_goals first|assumption|exact YU|omega|exact YV cx (by simp only[fS,jm];omega)|(simp;done)|(dsimp only;omega)
def JZ (same:Bool):cZ 100 (b7 same):=
 ⟨by simp[b7],by simp[b7],by simp[b7],λx e=>by simp[b7] at e;rw[e];simp,λx e=>by simp[b7] at e;omega,by simp[b7],by simp[b7],by simp[b7],by simp[b7],λp h=>by simp[b7] at h⟩
def Ni (same:Bool):cZ 130 (nf same).1/\ee (nf same).2:=by have h:=kW (k:=0) (z:=dK ⟨2,1,0,fC⟩) (JZ same) (t:=fC) ⟨rfl,cx,cx⟩ aa (by have:=sR ⟨2,1,0,fC⟩;omega);exact⟨h.1,h.2.1⟩
def Nj:∀(l:cc)(st:ae)(i:Nat),(l.foldl (λst p=>drop st p.row) st).aI.getD i 0<=st.aI.getD i 0
 |[],_,_=>xM _
 |p::l,st,i=>by rw[xE];refine Int.le_trans (Nj l _ i) ?_;show(st.aI.set p.row.toNat (st.aI.getD p.row.toNat 0-1)).getD i 0<=_;rw[eX,eX,List.getElem?_set];by_cases h:p.row.toNat=i;subst h;rw[ai rfl];split;simp only[lI,eX];omega;rename_i hl;simp[eX,mQ (show Y st.aI<=p.row.toNat by omega)];rw[af h];exact xM _
def H9:∀(l:cc)(st:ae)(n:Nat),cZ n st->cZ (n+Y l) (l.foldl (λst p=>drop st p.row) st)
 |[],_,_,h=>h
 |p::l,st,n,h=>by rw[xE,fS];have:=H9 l _ _ (h.drop (row:=p.row));rwa [show n+1+Y l=n+(Y l+1) by omega] at this
def wg:∀(l:cc)(st:ae),(l.foldl (λst p=>drop st p.row) st).iz=st.iz/\(l.foldl (λst p=>drop st p.row) st).bL=st.bL
 |[],_=>⟨rfl,rfl⟩
 |p::l,st=>by rw[xE];exact wg l _
def Nk {n:Nat}{st:ae}{t:bt}(h:cZ n st)(hf:Pg.FS (next st) t):cZ (n+1) (next st):=by
 have j:=H9 st.aS st n h;have A:=Nj st.aS st;have r:=wg st.aS st;obtain⟨G,l,q,B,_⟩:=hf;have m:=B.so.ct;have e:next st={(st.aS.foldl (λst p=>drop st p.row) st) with aS:=[],dm:=st.dm+1}:=rfl
 rw[e] at m⊢;generalize st.aS.foldl (λst p=>drop st p.row) st=y at *
 have F:=h.tx;refine⟨j.lr,j.lf,j.ll,j.rw,λx N=>?_,⟨by show(1:Int)<=st.dm+1;omega,by show st.dm+1<=((n+1:Nat):Int);omega⟩,?_,?_,?_,?_⟩;obtain⟨i,hi,rfl⟩:=si N;have hi:i<Y y.aI:=hi;have o:=m i (by have:=j.lf;omega);have w:=A i;have P:=h.ref i;have z:y.aI.getD i 0=y.aI[i]:=by rw[eX,c8 hi];rfl
 have o:(0:Int)<=y.aI.getD i 0:=Int.le_trans (vP _) o;rw[z] at o w;show -((n+1:Nat):Int)<=y.aI[i]/\y.aI[i]<=((n+1:Nat):Int);omega;show 0<=y.iz/\y.iz<=((n+1:Nat):Int);have:=h.kp;rw[r.1];omega;show(Y ([]:cc))<=n+1;simp;show (Y y.bL)<=n+1;have:=h.dl;rw[r.2];omega;intro p D;cases D
abbrev fnV (same:Bool):Value->Value:=λV=>.tuple ⟨[V,tv (nf same).2,M J]⟩
def Nl (s:St)(v:SA)(same:Bool)(hr:yJ s v (b7 same)):MR aZ aW 61 [eg v (b7 same)] s (FZ v) (nf same).1 (fnV same):=by
 have B:=Su.r hr;have w:=Su.f hr;have A:=Su.l hr;have z:=Su.g hr;have t:=Su.d hr;have D:cZ 100000 (b7 same):=(JZ same).mono aa;have o:∀s,cr s v (b7 same)->bM 16 [eg v (b7 same)] s (iB v) (M J):=λs hr=>Nc s v same hr;have n:∀(j:SA) s,eS aZ aW 32 [eg j (b7 same),.agg ⟨[dP,dP,dP,dP,dP,dP,dP]⟩,dP,.agg ⟨[I .i64 2,I .i64 1,dP,dP,dP,dP,dP,dP,dP,dP]⟩] s [] j (b7 same) (nf same).1 J (yL (nf same).2 J):=λj s=>by have:=rY s j (b7 same) ((JZ same).mono aa) fC ⟨rfl,cx,cx⟩ 0 aa ⟨2,1,0,fC⟩;rwa[Pg.vZ] at this
 refine a8 f61 ?_;(repeat' first|(apply eV;exact aj;exact λs hr=>o s hr;exact dO;intros)|refine' pS|(apply fz;exact aj;exact λs=>n _ s;exact cK;intro _ _ e _ _ m)|refine' cY|fail);all_goals exact aiE (v':=e) bK bH ak rfl
abbrev j4:List Op:=[⟨2,[47,97],[],0,[]⟩,⟨1,[47,98],[],0,[]⟩,⟨1,[47,97,47,98],[],0,[]⟩,⟨3,[47,98],[],0,[104,101,108,108,111,32,104,101,108,108,111,32,104,101,108,108,111]⟩,⟨2,[47,97,47,99],[],0,[]⟩,⟨3,[47,97,47,98],[],30,[104,101,108,108,111,32,104,101,108,108,111,32,104,101,108,108,111]⟩]
def UZ:∀o∈j4,wM o=J/\Y o.ar<=3000/\Y o.dF<=3000:=by decide
def L9 (s:St):eD aZ aW 63 [] s [] 134 j4:=by refine a8 f63 ?_;(repeat' first|((with_reducible apply gb (α:=Op) (xs:=j4));exact nI;exact rfl;exact rfl;intro bl _)|refine' eI|fail);refine' kT;rfl
abbrev YW (E:hJ)(X:fb)(g:FuncId)(vs:aV)(s:St)(br:Nat)(a:aP)(code:aw)(c p d:Nat):Prop:=eJ E X g vs s [iY br a (Y code) c p] (ah a) λR L=>∃(e:Nat)(h:SA)(st:ae)(t:bt),e<=p+d/\Pg.FS st t/\cZ 30000 st/\ee t/\R= .tuple ⟨[eg h st,tv t]⟩/\L=iY br a (Y code) c e::db h st
def yQ:∀z∈Ek,Y z<=3000:=by decide
def YX (s:St)(br:Nat)(a:aP)(code:aw)(c p:Nat)(hc:Y code<=2000)(hp:p<=70000)(hr:oO s a code)(hm:∀i∈ah a,i∉[iY br a (Y code) c p].flatMap It.bC):
  YW aZ aW 26 [bk br] s br a code c p 3000:=by
 have hd:qI ⟨s,[iY br a (Y code) c p].flatMap It.bC,ah a⟩ a code:=⟨hr,λb hb=>hb,hm⟩;have TA:Y j4=6:=rfl;refine a8 f26 ?_;(repeat' first|refine' tn|(apply UG;exact aj;exact λs=>M0 s _;intro _ _ adf _ _)|(apply HF;exact aj;exact λs hr=>Nl s _ _ hr;exact acN;intro _ _ adg _ _)|(apply lp;exact aj;exact λs=>L9 s;intro _ _ A B _ _)|refine' cY|fail);obtain⟨j0,rfl⟩:∃j0:Nat,oa=j0:=⟨oa.toNat,aa⟩;refine W.bu (λk l L=>∃(j:Nat)(st:ae)(t:bt)(v:SA)(w F G N S:Nat),Le [(0,bk br),(2,bk F),(3,bk G),(4,bk N),(5,bk S),(7,H A (Y j4) B),(8,iv (j:Int))] l/\cb (iY br a (Y code) c w:: .box F [ew,ew,ew,dP,ew,dP,ew,M U] 29 U:: .box G [dP,dP,dP,dP,dP,dP,dP] 33 U:: .box N (lL v st) 29 U:: .box S (eN t) 33 U:: .aU (H A (Y j4) B) 134 5 (ab j4)::db v st) L/\k=j/\j<=6/\Pg.FS st t/\cZ (130+1730*(6-j)) st/\ee t/\w<=p+2)
                                                       (λl L=>∃(j:Nat)(st:ae)(t:bt)(v:SA)(w F G N S:Nat),Le [(0,bk br),(2,bk F),(3,bk G),(4,bk N),(5,bk S)] l/\cb (iY br a (Y code) c w:: .box F [ew,ew,ew,dP,ew,dP,ew,M U] 29 U:: .box G [dP,dP,dP,dP,dP,dP,dP] 33 U:: .box N (lL v st) 29 U:: .box S (eN t) 33 U::db v st) L/\j=0/\Pg.FS st t/\cZ (130+1730*6) st/\ee t/\w<=p+2) _ ⟨j0,_,_,_,_,_,_,_,_,bd,ak,rfl,aa,Pg.L8 _,(Ni _).1.mono aa,(Ni _).2,aa⟩ ?_ ?_
 .rintro k l L ⟨j,st,t,v,w,F,G,N,S,hl,hL,rfl,h1,z,D,T,h5⟩;refine' cP;obtain h0|h0:=tG k
  .subst h0;refine' iK;all_goals exact⟨0,st,t,v,w,_,_,_,_,bd,ak,rfl,z,D,T,h5⟩
  have F1:((Y j4:Int)-(k:Int)).toNat<Y j4:=by omega
  obtain⟨ho,Bk,hl2⟩:=UZ _ (a7 F1 au.ad);(have lM:∀(e:SA) s,eS aZ aW 64 [eg e st,tv t,ov (j4.getD ((Y j4:Int)-(k:Int)).toNat au.ad)] s [] e st (iR st t (j4.getD ((Y j4:Int)-(k:Int)).toNat au.ad)).1 J (doV (iR st t (j4.getD ((Y j4:Int)-(k:Int)).toNat au.ad)).2.1 (iR st t (j4.getD ((Y j4:Int)-(k:Int)).toNat au.ad)).2.2):=λe s=>Nh s e st t (D.mono aa) T z _ ho Bk hl2);have g1:=Pg.R7 z ho;have g2:=Eh D aa T z ho;generalize iR st t (j4.getD ((Y j4:Int)-(k:Int)).toNat au.ad)=r at lM g1 g2;obtain⟨bB,t',cd⟩:=r;dsimp only at lM g1 g2;(repeat' first|(apply fz;exact aj;exact λs=>lM _ s;exact cK;intro _ _ Z _ _ agB)|refine' cY|fail);all_goals exact⟨k-1,aa,k-1,bB,t',Z,w,_,_,_,_,by(rw[show((k-1:Nat):Int)=(k:Int)-1 by omega];exact bd),ak,rfl,aa,g1,g2.1.mono aa,g2.2,h5⟩
 rintro l L ⟨j,st,t,v,w,F,G,N,S,hl,hL,-,z,D,T,h5⟩;refine' gh;repeat' first|refine' tn|refine' eI|fail
 obtain⟨j1,rfl⟩:∃j1:Nat,oa=j1:=⟨oa.toNat,aa⟩;refine W.bu (λk l L=>∃(j:Nat)(st:ae)(t:bt)(v:SA)(w F G N S:Nat),Le [(0,bk br),(2,bk F),(3,bk G),(4,bk N),(5,bk S),(9,iv (j:Int))] l/\cb (iY br a (Y code) c w:: .box F [ew,ew,ew,dP,ew,dP,ew,M U] 29 U:: .box G [dP,dP,dP,dP,dP,dP,dP] 33 U:: .box N (lL v st) 29 U:: .box S (eN t) 33 U::db v st) L/\k=j/\j<=11/\Pg.FS st t/\cZ (10510+1731*(11-j)) st/\ee t/\w<=p+3+221*(11-j))
                                                       (λl L=>∃(j:Nat)(st:ae)(t:bt)(v:SA)(w F G N S:Nat),Le [(0,bk br),(2,bk F),(3,bk G),(4,bk N),(5,bk S)] l/\cb (iY br a (Y code) c w:: .box F [ew,ew,ew,dP,ew,dP,ew,M U] 29 U:: .box G [dP,dP,dP,dP,dP,dP,dP] 33 U:: .box N (lL v st) 29 U:: .box S (eN t) 33 U::db v st) L/\j=0/\Pg.FS st t/\cZ (10510+1731*11) st/\ee t/\w<=p+3+221*11) _ ⟨j1,st,t,v,ek,_,_,_,_,bd,ak,rfl,aa,z,D.mono aa,T,aa⟩ ?_ ?_
 .clear z D T;rintro k l L ⟨j,st,t,v,w,F,G,N,S,hl,hL,rfl,h1,z,D,T,h5⟩;refine' cP;obtain h0|h0:=tG k
  .subst h0;refine' iK;all_goals exact⟨0,st,t,v,w,_,_,_,_,bd,ak,rfl,z,D,T,h5⟩
  have aiN:cZ 70000 st:=D.mono aa;have aiO:Y st.aS<=30000:=jR D.gl aa;have lM:∀o,OpD o->wM o=J->∀(e:SA) s,eS aZ aW 64 [eg e st,tv t,ov o] s [] e st (iR st t o).1 J (doV (iR st t o).2.1 (iR st t o).2.2):=λo hD ho e s=>Nh s e st t (D.mono aa) T z o ho (yQ _ hD.ar) (yQ _ hD.dF);(have g1:∀o,wM o=J->Pg.FS (iR st t o).1 (iR st t o).2.1/\cZ (12240+1731*(11-k)) (iR st t o).1/\ee (iR st t o).2.1:=λo ho=>⟨Pg.R7 z ho,(Eh D aa T z ho).1.mono aa,(Eh D aa T z ho).2⟩);(have hnx:∀o,wM o=J->∀(e:SA) s,eS aZ aW 67 [eg e (iR st t o).1] s [] e (iR st t o).1 (next (iR st t o).1) J id:=λo ho e s=>HX s e _ ((g1 o ho).2.1.mono aa) (jR (g1 o ho).2.1.gl aa));(have aiP:∀(e:SA) s,eS aZ aW 67 [eg e st] s [] e st (next st) J id:=λe s=>HX s e st aiN aiO);(have x8:∀o,OpD o->∀s,bM 66 [ov o] s [] (M (wM o)):=λo hD s=>aby s o (jR (yQ _ hD.ar) aa) (jR (yQ _ hD.dF) aa) (jR hD.b0 aa));(repeat' first|(apply kV;exact aj;exact cK;assumption;(intro s hr hm;exact agA s _ _ _ _ _ aT aa hr hm);intro _ _ ajP ajQ aiQ aem _ _;obtain⟨m,rfl,adh⟩:=aem)|refine' tn|(apply ag;exact aj;exact λs=>x8 _ adh s;intros)|(apply fz;exact aj;exact λs=>lM _ adh aT _ s;exact cK;intro _ _ V _ _ agC)|(apply fz;exact aj;(first|exact λs=>hnx _ aT _ s|exact λs=>aiP _ s);exact cK;intro _ _ n _ _ ae4)|refine' cY|fail)
  .obtain⟨f1,f2,f3⟩:=g1 m aT;exact⟨k-1,aa,k-1,next (iR st t m).1,(iR st t m).2.1,n,ek,_,_,_,_,by(rw[show((k-1:Nat):Int)=(k:Int)-1 by omega];exact bd),ak,rfl,aa,Pg.BR f1,(Nk f2 (Pg.BR f1)).mono aa,f3,aa⟩
  obtain⟨f1,f2,f3⟩:=g1 m aT;exact⟨k-1,aa,k-1,(iR st t m).1,(iR st t m).2.1,V,ek,_,_,_,_,by(rw[show((k-1:Nat):Int)=(k:Int)-1 by omega];exact bd),ak,rfl,aa,f1,f2.mono aa,f3,aa⟩
  .exact⟨k-1,aa,k-1,next st,t,n,ek,_,_,_,_,by(rw[show((k-1:Nat):Int)=(k:Int)-1 by omega];exact bd),ak,rfl,aa,Pg.BR z,(Nk D (Pg.BR z)).mono aa,T,aa⟩
  exact⟨k-1,aa,k-1,st,t,v,ek,_,_,_,_,by(rw[show((k-1:Nat):Int)=(k:Int)-1 by omega];exact bd),ak,rfl,aa,z,D.mono aa,T,aa⟩
 rintro l L ⟨j,st,t,v,w,F,G,N,S,hl,hL,-,z,D,T,h5⟩;refine' gh;refine' eR;all_goals exact⟨bK,_,_,bH,ak,w,v,st,t,aa,z,D.mono aa,T,rfl,rfl⟩
end Go.Pl
