/- Lemmas of the proof. No conditions. -/
import Derived.Test.YtnealhiolaklpaaGreatDoorAf7
set_option maxRecDepth 100000
set_option maxHeartbeats 4000000
set_option linter.all false
open Bool renaming false->U,true->J
open Option renaming none->O,some->C
open List renaming length->Y
open Go.Value renaming slice->H,bool->M,int->I
open Go.Proofs.Tryz
open Nat (beq ble mul)
open Go.Result (andThen_ok)
open Go.Sem (run_bind)
open Go.Region (binds)
open List (replicate)
open Int (toNat)
open Go.Builtin (firstCells)
open Go.Instr (checkKey)
namespace Go.Pl
open Go Go.Ev Go.Lg Go.Proofs
variable {l:Kn}{L R:cq}{a:aP}{P:B0}
def ZD (acj:∀s,bM 99 [ew,sv [47]] s [] (sv []))(hsn:∀s,bM 91 [ew,.func (.func 92) ⟨[]⟩ ⟨[]⟩] s [] (.tuple ⟨[]⟩))(s:St)(P:B0)(Lh:cZ 100000 P.st)(h0:0<=P.st.dm)(S:s4 P)(hG:Pg.Gd (Pg.fF P.st P.t))(hr:l9 s P):Ht 15 [.pointer (C ⟨P.bf,0,O⟩)] s [] (nD P) λR L=>∃a c a' c',R= .agg ⟨tq a c (Pg.wl (Pg.fF P.st P.t) 146 ⟨[47],0⟩) a' c' (gH P.st 0 (Pg.bI P.st P.t))⟩/\L=[.aU (H a (Y (Pg.wl (Pg.fF P.st P.t) 146 ⟨[47],0⟩)) c) 48 2 (ab (Pg.wl (Pg.fF P.st P.t) 146 ⟨[47],0⟩)),.aU (H a' (Y (gH P.st 0 (Pg.bI P.st P.t))) c') 50 3 (ab (gH P.st 0 (Pg.bI P.st P.t)))]:=by
 refine' zaY;have NU:=F1.bx;have aeF:=(Pg.oh ((Pg.gN _ _).1 S.tab).1).2;have hnG:Y P.G=Y (Pg.bI P.st P.t):=by rw[<-S.bj,fH]
 have hGm:Y P.G=Y (P.G.map dR):=by rw[fH]
 have hrp:VZ ⟨s,([]:cq).flatMap It.bC,nD P⟩ P.aN (P.G.map dR):=⟨F1.nr⟩;obtain⟨d,hd,ajg⟩:=Pg.rV hG;have hp0:Pg.o1 0 [47]:=⟨[],aq,aq,rfl⟩;have cg:=Pg.Dg hG (f:=146) aa [47] hp0;have Z:=λbv=>Ff acj P S d hd ajg 35 bv 39 [ew] (λs x a c out ho=>Vw s bv _ x a c out ho) 146;have hwk:∀s bv,l9 s P->(∀b∈nD P++ah O,b∉(lP bv 39 [ew] O 0 ([]:List cB)).flatMap It.bC)->qi aZ aW 18 [.pointer (C ⟨P.bf,0,O⟩),iv 0,ew,.func (.func 35) ⟨[]⟩ ⟨[bk bv]⟩] s (nD P++ah O) bv 39 [ew] O 0 [] (Pg.wl (Pg.fF P.st P.t) 146 ⟨[47],0⟩):=λs bv h1 h2=>Z bv s 0 O 0 [] O 0 [] aa aq aq (λ_=>⟨rfl,rfl⟩) (by show 0+Y (Pg.wl (Pg.fF P.st P.t) 146 ⟨[47],0⟩)<=1000;omega) h1 (ag6 s) (.inl ⟨rfl,rfl,rfl⟩) h2;clear Z;have hws:=Pg.B1 (G:=Pg.fF P.st P.t) hG.wf 146 ⟨[47],0⟩;have Wz:1<=Y (Pg.wl (Pg.fF P.st P.t) 146 ⟨[47],0⟩):=by rw[Pg.wl];simp
 generalize Pg.wl (Pg.fF P.st P.t) 146 ⟨[47],0⟩=w at *
 have hso:=λs b a c=>Vy hsn s b a c w Wz aa hws;generalize hA:nD P=A at F1 NU hrp;refine a8 f15 ?_;try rw[hA]
 refine W.lO (α:=cB) (e:=48) ?_;refine W.lO (α:=eF) (e:=50) ?_;(repeat' first|refine' AG|refine' Dx|((with_reducible apply Kx (P:=P) (out:=([]:List cB)) (a:=O) (c:=0));exact aj;exact cK;(exact F1);(intro s h1 h2;exact hwk s _ h1 h2);intro _ _ aj7 aj8 _ _)|(apply Ix;exact aj;exact cK;(intro s;exact hso s _ _ _);intro _ _ aj9 aka _ _)|refine' qgb|fail);simp only[kG,fT];refine W.bu (λm l L=>∃(i F N u B:Nat)(r y:aP)(T:ot),Le [(0,.pointer (C ⟨P.bf,0,O⟩)),(2,bk F),(3,bk N),(15,H P.aN (Y P.G) P.kN),(16,iv (Y P.G:Int)),(17,iv (i:Int))] l/\cb [.box N [H r (Y w) u,H y (Y T) B] 39 U,.aU (H r (Y w) u) 48 2 (ab w),.aU (H y (Y T) B) 50 3 (ab T),.box F [ew,ew] 39 U] L/\m=Y P.G-i/\i<=Y P.G/\T=gH P.st 0 ((Pg.bI P.st P.t).take i))
                                             (λl L=>∃(F N u B:Nat)(r y:aP)(T:ot),Le [(2,bk F),(3,bk N)] l/\cb [.box N [H r (Y w) u,H y (Y T) B] 39 U,.aU (H r (Y w) u) 48 2 (ab w),.aU (H y (Y T) B) 50 3 (ab T),.box F [ew,ew] 39 U] L/\T=gH P.st 0 (Pg.bI P.st P.t)) _ ⟨0,_,_,_,0,_,O,[],bd,ak,rfl,aa,rfl⟩ ?_ ?_
 .rintro m l L ⟨i,F,N,u,B,r,y,T,Bk,hL,rfl,hi0,hT⟩;refine' cP;by_cases hi:i<Y P.G;(have Q:i<Y (P.G.map dR):=by omega);(have hiN:i<Y (Pg.bI P.st P.t):=by omega);(have k:(P.G.map dR).getD i O=dR (P.G.getD i O):=by rw[eX,eX,mP];cases P.G[i]?<;>rfl);(have D:(Pg.bI P.st P.t).getD i O=(P.G.getD i O).map Prod.snd:=by rw[<-S.bj,eX,eX,mP];cases P.G[i]?<;>rfl);(have ZX:(Pg.bI P.st P.t).take (i+1)=(Pg.bI P.st P.t).take i++[(Pg.bI P.st P.t).getD i O]:=by rw[vS,eX,c8 hiN];rfl);(have hTl:Y T<=16:=by have:=xy P.st ((Pg.bI P.st P.t).take i) 0;rw[<-hT,de] at this;omega);have j:=u4 P.st ((Pg.bI P.st P.t).getD i O) ((Pg.bI P.st P.t).take i) 0;rw[<-ZX,<-hT] at j;cases hg:P.G.getD i O with
  |none=>rw[hg] at k D;have VV:(P.G.map dR).getD i O=O:=k;rw[D] at j;(repeat' first|refine' AG|(apply s7;exact bN;exact bN;assumption;(exact Q);(exact hGm);intro _)|(apply uZ;exact bN;assumption;(exact Q);(exact VV);intro _)|refine' Bp|refine' gL|fail);(all_goals refine' zay);all_goals exact⟨_,aa,i+1,F,N,u,B,r,y,T,bd,ak,rfl,aa,by(rw[j];simp)⟩
  |some x=>obtain⟨bi,n⟩:=x;rw[hg] at k D;have VV:(P.G.map dR).getD i O=C ⟨bi,0,O⟩:=k;have hdn:Rd ⟨s,([]:cq).flatMap It.bC,A⟩ (ko bi) 1 10 (jg n):=F1.nd (by rw[<-hg];exact gX O hi);rw[D] at j;(have V:gH P.st 0 ((Pg.bI P.st P.t).take (i+1))=T++[⟨(i:Int),decide (n.kind=2),(iL P.st n).getD []⟩]:=by rw[j,de,tH aa,kz];rfl);(have o:=λs hr hn=>EY s P.b P.v P.st Lh h0 n hr hn);generalize(iL P.st n).getD []=z at o V;generalize(iL P.st n).isSome=zb at o;have PW:∀s,fh s P.b P.v P.st->dy s->bM 21 [.pointer (C ⟨P.b,0,O⟩),nv n] s (mL P.b P.v++[5,1]) (.tuple ⟨[sv z,M zb]⟩):=o;clear o D hg ZX j;(repeat' first|refine' AG|(apply s7;exact bN;exact bN;assumption;(exact Q);(exact hGm);intro _)|(apply uZ;exact bN;assumption;(exact Q);(exact VV);intro _)|refine' Bp|(apply sd;exact aj;(exact F1.nm);(exact PW);(exact F1.hs);intros)|refine' Se|refine' gL|fail);(all_goals refine' zay);exact⟨_,aa,i+1,F,N,u,yz,r,yy,T++[⟨(i:Int),decide (n.kind=2),z⟩],bd,ak,rfl,aa,V.symm⟩
  have hi:i=Y P.G:=by omega
  rw[hi,hnG,lG] at hT;refine' iK;all_goals exact⟨F,N,u,B,r,y,T,bd,ak,hT⟩
 rintro l L ⟨F,N,u,B,r,y,T,Bk,hL,hT⟩;refine' gh;rw[<-hT];refine' iK;all_goals exact⟨bK,_,[.aU (H r (Y w) u) 48 2 (ab w),.aU (H y (Y T) B) 50 3 (ab T)],bH,ak,r,u,y,B,rfl,rfl⟩
end Go.Pl
