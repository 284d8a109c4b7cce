/- Lemmas of the proof. No conditions. -/
import Derived.Test.YtnealhiolaklpaaGreatDoorAe3
set_option maxRecDepth 100000
set_option maxHeartbeats 4000000
set_option linter.all false
open Bool renaming false->U,true->J
open Option renaming none->O,some->C
open List renaming length->Y
open Go.Value renaming slice->H,bool->M,int->I
open Go.Proofs.Tryz
open Nat (beq ble mul)
open Go.Result (andThen_ok)
open Go.Sem (run_bind)
open Go.Region (binds)
open List (replicate)
open Int (toNat)
open Go.Builtin (firstCells)
open Go.Instr (checkKey)
namespace Go.Pl
open Go Go.Ev Go.Lg Go.Proofs
variable {L:cq}{v:SA}{b:Nat}
def UW (s:St)(b:Nat)(v:SA)(st:ae)(t:bt)(h:cZ 50000 st)(ht:ee t)(Te:Pg.FS st t)(z:aw)(hz:Y z<=3000)(hp:bQ z=J)(dF:aw)(hzt:Y dF<=3000)(hpt:bQ dF=J):
  mK aZ aW 118 [bk b,sv z,sv dF] s b v ⟨st,t,U⟩ (Fs.move ⟨st,t,U⟩ z dF).1 (iv (Fs.move ⟨st,t,U⟩ z dF).2):=by
 have F:cZ 100000 st:=h.mono aa;have d:Fs.move ⟨st,t,U⟩ z dF=if Fs.dh ⟨st,t,U⟩ z<0 then(⟨st,t,U⟩,2) else if Fs.dh ⟨st,t,U⟩ z=0 then(⟨st,t,U⟩,5) else if 0<=Fs.dh ⟨st,t,U⟩ dF then(⟨st,t,U⟩,3) else if under dF z=J then(⟨st,t,U⟩,5) else
   if 0<(Fs.bT ⟨st,t,U⟩ dF).2 then(⟨st,t,U⟩,(Fs.bT ⟨st,t,U⟩ dF).2) else
   if(Fs.bT ⟨st,t,U⟩ dF).1≠(Fs.bT ⟨st,t,U⟩ z).1/\12<=Y (Fs.aY ⟨st,t,U⟩ (Fs.bT ⟨st,t,U⟩ dF).1) then(⟨st,t,U⟩,6) else
   if(Fs.bT ⟨st,t,U⟩ dF).1=(Fs.bT ⟨st,t,U⟩ z).1 then(Fs.bz ⟨st,t,U⟩ (Fs.bT ⟨st,t,U⟩ dF).1 (gO (eB (Fs.aY ⟨st,t,U⟩ (Fs.bT ⟨st,t,U⟩ z).1) ((eH (Fs.aY ⟨st,t,U⟩ (Fs.bT ⟨st,t,U⟩ z).1) (Fs.base z)).getD 0)) ⟨Fs.base dF,Fs.dh ⟨st,t,U⟩ z⟩),0) else
   (Fs.bz (Fs.bz ⟨st,t,U⟩ (Fs.bT ⟨st,t,U⟩ z).1 (eB (Fs.aY ⟨st,t,U⟩ (Fs.bT ⟨st,t,U⟩ z).1) ((eH (Fs.aY ⟨st,t,U⟩ (Fs.bT ⟨st,t,U⟩ z).1) (Fs.base z)).getD 0))) (Fs.bT ⟨st,t,U⟩ dF).1 (gO (Fs.aY (Fs.bz ⟨st,t,U⟩ (Fs.bT ⟨st,t,U⟩ z).1 (eB (Fs.aY ⟨st,t,U⟩ (Fs.bT ⟨st,t,U⟩ z).1) ((eH (Fs.aY ⟨st,t,U⟩ (Fs.bT ⟨st,t,U⟩ z).1) (Fs.base z)).getD 0))) (Fs.bT ⟨st,t,U⟩ dF).1) ⟨Fs.base dF,Fs.dh ⟨st,t,U⟩ z⟩),0):=rfl
 have hfd:∀s,lC s b v ⟨st,t,U⟩->bM 178 [bk b,sv z] s (sT b v) (iv (Fs.dh ⟨st,t,U⟩ z)):=λs hr=>pr s b v ⟨st,t,U⟩ F ht z aa hp hr;have VS:∀s,lC s b v ⟨st,t,U⟩->bM 178 [bk b,sv dF] s (sT b v) (iv (Fs.dh ⟨st,t,U⟩ dF)):=λs hr=>pr s b v ⟨st,t,U⟩ F ht dF aa hpt hr;have hun:∀s,bM 184 [sv dF,sv z] s [] (M (under dF z)):=λs=>JS s dF z hzt hz;have agf:∀s,lC s b v ⟨st,t,U⟩->bM 180 [bk b,sv dF] s (sT b v) (.tuple ⟨[iv (Fs.bT ⟨st,t,U⟩ dF).1,iv (Fs.bT ⟨st,t,U⟩ dF).2]⟩):=λs hr=>sU s b v ⟨st,t,U⟩ F ht dF aa hpt hr;have OM:∀s,lC s b v ⟨st,t,U⟩->bM 180 [bk b,sv z] s (sT b v) (.tuple ⟨[iv (Fs.bT ⟨st,t,U⟩ z).1,iv (Fs.bT ⟨st,t,U⟩ z).2]⟩):=λs hr=>sU s b v ⟨st,t,U⟩ F ht z aa hp hr;obtain⟨G,l0,q0,Q,hG⟩:=Te;by_cases h1:Fs.dh ⟨st,t,U⟩ z<0
 .rw[ai h1] at d;rw[d];generalize Fs.dh ⟨st,t,U⟩ z=w at *
  refine a8 f118 ?_;dsimp only[kE,db];repeat' first|refine' AK|refine' cY|fail
  all_goals refine oM (v':=v) bK bH ak rfl
 rw[af h1] at d;obtain⟨k,e1,e2⟩:=Pg.iX Q h1;obtain⟨ei,hei⟩:=Pg.jE hG e2;have hk:k<16:=(Q.lt hei).2;rw[e1] at d hfd;clear h1 e1;by_cases h2:(k:Int)=0
 .rw[ai h2] at d;rw[d];refine a8 f118 ?_;dsimp only[kE,db];repeat' first|refine' AK|refine' cY|fail
  all_goals refine oM (v':=v) bK bH ak rfl
 rw[af h2] at d;have hk0:k≠0:=λhc=>h2 aa;by_cases h3:0<=Fs.dh ⟨st,t,U⟩ dF
 .rw[ai h3] at d;rw[d];generalize Fs.dh ⟨st,t,U⟩ dF=w at *
  refine a8 f118 ?_;dsimp only[kE,db];repeat' first|refine' AK|refine' cY|fail
  all_goals refine oM (v':=v) bK bH ak rfl
 rw[af h3] at d;by_cases h4:under dF z=J
 .rw[ai h4] at d;rw[d];rw[h4] at hun;generalize Fs.dh ⟨st,t,U⟩ dF=w at *
  refine a8 f118 ?_;dsimp only[kE,db];repeat' first|refine' AK|refine' My|refine' cY|fail
  all_goals refine oM (v':=v) bK bH ak rfl
 rw[af h4] at d;have h4:under dF z=U:=by simpa using h4
 rw[h4] at hun;by_cases h5:0<(Fs.bT ⟨st,t,U⟩ dF).2
 .rw[ai h5] at d;rw[d];generalize Fs.dh ⟨st,t,U⟩ dF=w at *
  generalize Fs.bT ⟨st,t,U⟩ dF=w2 at *
  refine a8 f118 ?_;dsimp only[kE,db];repeat' first|refine' AK|refine' My|refine' Sj|refine' cY|fail
  all_goals refine oM (v':=v) bK bH ak rfl
 rw[af h5] at d;obtain⟨bD,e,a1,a2,a3,a4,a5⟩:=Pg.yu Q h5;obtain⟨fr,B,i,p1,p2,p3,p4,p5,p6,p7,p8⟩:=Pg.rU Q hG e2 hk0;have u:Fs.aY ⟨st,t,U⟩ (fr:Int)=B.es:=Pg.mg Q U p3 p4;have r:Fs.aY ⟨st,t,U⟩ (bD:Int)=e.es:=Pg.mg Q U a4 a5;have S:bD<16:=(Q.lt a4).2;have aiL:fr<16:=(Q.lt p3).2;have N:=uT ⟨st,t,U⟩ (fr:Int);have V:=uT ⟨st,t,U⟩ (bD:Int);have hbl:=Ei hpt a2;rw[a1,p1] at d;simp only at d;rw[u,r,p5,lI] at d;rw[a1] at agf;rw[p1] at OM;rw[u] at N;rw[r] at V;have hla:=V.1;have hlf:=N.1;have hen:∀s,lC s b v ⟨st,t,U⟩->eD aZ aW 173 [bk b,iv bD] s (sT b v) 100 e.es:=λs hr=>by have:=pf s b v ⟨st,t,U⟩ F ht bD aa hr;rwa [r] at this
 have hef:∀s,lC s b v ⟨st,t,U⟩->eD aZ aW 173 [bk b,iv fr] s (sT b v) 100 B.es:=λs hr=>by have:=pf s b v ⟨st,t,U⟩ F ht fr aa hr;rwa [u] at this
 have h3':Fs.dh ⟨st,t,U⟩ dF<0:=by omega
 clear h5 a1;generalize Fs.dh ⟨st,t,U⟩ dF=w at *
 by_cases h6:(bD:Int)≠fr/\12<=Y e.es
 .rw[ai h6] at d;rw[d];obtain⟨h6,h7⟩:=h6;refine a8 f118 ?_;dsimp only[kE,db];repeat' first|refine' AK|refine' My|refine' Sj|refine' Ya|refine' cY|fail
  all_goals refine oM (v':=v) bK bH ak rfl
 rw[af h6] at d;have agb:∀a c s,bJ s a (Y B.es) 2 (ab B.es)->bM 182 [H a (Y B.es) c,sv (Fs.base z)] s (ah a) (iv i):=λa c s hr=>by have:=DH s a c B.es (Fs.base z) aa hr;unfold Yn at this;rwa[p5] at this
 have agc:∀a c s,bJ s a (Y B.es) 2 (ab B.es)->tg s a (Y B.es) c 100 2->eD aZ aW 181 [H a (Y B.es) c,iv i] s (ah a) 100 (eB B.es i):=λa c s hr hv=>DS s a c B.es i aa p6 hr hv;have hbo:=UR (i:=i) N;have hle:=hbo.1;generalize eB B.es i=old at *
 by_cases h7:(bD:Int)=fr
 .rw[ai h7] at d;have Td:∀a c s,bJ s a (Y old) 2 (ab old)->eD aZ aW 176 [H a (Y old) c,.agg ⟨[sv (Fs.base dF),iv k]⟩] s (ah a) 100 (gO old ⟨Fs.base dF,k⟩):=λa c s hr=>vt s a c old ⟨Fs.base dF,k⟩ aa hr;have Z:=yO (x:=⟨Fs.base dF,k⟩) hbo ⟨hbl,by show(0:Int)<=(k:Int);omega,by show(k:Int)<=1000;omega⟩;generalize gO old ⟨Fs.base dF,k⟩=o at *
  have PZ:∀m a c s,bJ s a (Y o) 2 (ab o)->(∀j∈ah a,j∉(kE b m ⟨st,t,U⟩).flatMap It.bC)->Ht 175 [bk b,iv bD,H a (Y o) c] s (kE b m ⟨st,t,U⟩) (ah a) λR L=>∃v':SA,R= .tuple ⟨[]⟩/\L=kE b v' (Fs.bz ⟨st,t,U⟩ bD o):=λm a c s hr hm=>
   pX s b m ⟨st,t,U⟩ ⟨h.mono aa,ht⟩ bD S a c o aa Z.2 hr hm
  generalize Fs.bz ⟨st,t,U⟩ bD o=f2 at *
  rw[d];refine a8 f118 ?_;dsimp only[kE,db];repeat' first|refine' AK|refine' My|refine' Sj|refine' Ya|refine' DJ|refine' Ms|refine' Mt|refine' Si|refine' ac6|refine' cY|fail
  all_goals refine' zaI
 rw[af h7] at d;have Wz:∀m a c s,bJ s a (Y old) 2 (ab old)->(∀j∈ah a,j∉(kE b m ⟨st,t,U⟩).flatMap It.bC)->Ht 175 [bk b,iv fr,H a (Y old) c] s (kE b m ⟨st,t,U⟩) (ah a) λR L=>∃v':SA,R= .tuple ⟨[]⟩/\L=kE b v' (Fs.bz ⟨st,t,U⟩ fr old):=λm a c s hr hm=>
  pX s b m ⟨st,t,U⟩ ⟨h.mono aa,ht⟩ fr aiL a c old aa hbo.2 hr hm
 have Lh:sb 50630 (Fs.bz ⟨st,t,U⟩ fr old):=sb.bz (n:=50000) ⟨h,ht⟩ aa _;generalize Fs.bz ⟨st,t,U⟩ fr old=f1 at *
 have T:=uT f1 (bD:Int);have Bk:=T.1;have he1:∀m s,lC s b m f1->eD aZ aW 173 [bk b,iv bD] s (sT b m) 100 (f1.aY bD):=λm s hr=>pf s b m f1 (Lh.st.mono aa) Lh.t bD aa hr;generalize f1.aY bD=D at *
 have Td:∀a c s,bJ s a (Y D) 2 (ab D)->eD aZ aW 176 [H a (Y D) c,.agg ⟨[sv (Fs.base dF),iv k]⟩] s (ah a) 100 (gO D ⟨Fs.base dF,k⟩):=λa c s hr=>vt s a c D ⟨Fs.base dF,k⟩ aa hr;have Z:=yO (x:=⟨Fs.base dF,k⟩) T ⟨hbl,by show(0:Int)<=(k:Int);omega,by show(k:Int)<=1000;omega⟩;generalize gO D ⟨Fs.base dF,k⟩=o at *
 have PZ:∀m a c s,bJ s a (Y o) 2 (ab o)->(∀j∈ah a,j∉(kE b m f1).flatMap It.bC)->Ht 175 [bk b,iv bD,H a (Y o) c] s (kE b m f1) (ah a) λR L=>∃v':SA,R= .tuple ⟨[]⟩/\L=kE b v' (Fs.bz f1 bD o):=λm a c s hr hm=>
  pX s b m f1 (Lh.mono aa) bD S a c o aa Z.2 hr hm
 generalize Fs.bz f1 bD o=f2 at *
 rw[d];refine a8 f118 ?_;dsimp only[kE,db];(repeat' first|refine' AK|refine' My|refine' Sj|refine' Ya|(apply Ng;exact aj;(intro v s hr;exact he1 v s hr);exact tj;intro _ _ y A _ _)|refine' DJ|refine' Ms|refine' Mt|refine' Si|refine' ac6|refine' cY|fail);all_goals refine' zaI
end Go.Pl
