/- Lemmas of the proof. No conditions. -/
import Derived.Test.YtajgfdfbnhchcaaGreatDoorBe3
set_option maxRecDepth 100000
set_option maxHeartbeats 4000000
set_option linter.unusedVariables false
set_option linter.unusedSimpArgs false
open Go.Proofs.Tryz
namespace Go.Pl
open Go Go.Ev Go.Lg Go.Proofs
variable {L:bZ}{v:SA}
theorem UP (s:St)(b:Nat)(v:SA)(st:au)(t:cB)(h:dA 50000 st)(ht:ek t)(pr:Pg.FS st t)(z:az)(hz:z.length<=3000)(hp:aP z=true)(to:az)(hzt:to.length<=3000)(uF:aP to=true):
  mJ bh bw 116 [bg b,sv z,sv to] s b v ⟨st,t,false⟩ (Fs.move ⟨st,t,false⟩ z to).1 (iv (Fs.move ⟨st,t,false⟩ z to).2):=by
 have tz:dA 100000 st:=h.mono ag;have mE:Fs.move ⟨st,t,false⟩ z to=if Fs.di ⟨st,t,false⟩ z<0 then(⟨st,t,false⟩,2) else if Fs.di ⟨st,t,false⟩ z=0 then(⟨st,t,false⟩,5) else if 0<=Fs.di ⟨st,t,false⟩ to then(⟨st,t,false⟩,3) else if under to z=true then(⟨st,t,false⟩,5) else
   if 0<(Fs.bU ⟨st,t,false⟩ to).2 then(⟨st,t,false⟩,(Fs.bU ⟨st,t,false⟩ to).2) else
   if(Fs.bU ⟨st,t,false⟩ to).1≠(Fs.bU ⟨st,t,false⟩ z).1/\12<=(Fs.bM ⟨st,t,false⟩ (Fs.bU ⟨st,t,false⟩ to).1).length then(⟨st,t,false⟩,6) else
   if(Fs.bU ⟨st,t,false⟩ to).1=(Fs.bU ⟨st,t,false⟩ z).1 then(Fs.bk ⟨st,t,false⟩ (Fs.bU ⟨st,t,false⟩ to).1 (gz (eA (Fs.bM ⟨st,t,false⟩ (Fs.bU ⟨st,t,false⟩ z).1) ((eE (Fs.bM ⟨st,t,false⟩ (Fs.bU ⟨st,t,false⟩ z).1) (Fs.base z)).getD 0)) ⟨Fs.base to,Fs.di ⟨st,t,false⟩ z⟩),0) else
   (Fs.bk (Fs.bk ⟨st,t,false⟩ (Fs.bU ⟨st,t,false⟩ z).1 (eA (Fs.bM ⟨st,t,false⟩ (Fs.bU ⟨st,t,false⟩ z).1) ((eE (Fs.bM ⟨st,t,false⟩ (Fs.bU ⟨st,t,false⟩ z).1) (Fs.base z)).getD 0))) (Fs.bU ⟨st,t,false⟩ to).1 (gz (Fs.bM (Fs.bk ⟨st,t,false⟩ (Fs.bU ⟨st,t,false⟩ z).1 (eA (Fs.bM ⟨st,t,false⟩ (Fs.bU ⟨st,t,false⟩ z).1) ((eE (Fs.bM ⟨st,t,false⟩ (Fs.bU ⟨st,t,false⟩ z).1) (Fs.base z)).getD 0))) (Fs.bU ⟨st,t,false⟩ to).1) ⟨Fs.base to,Fs.di ⟨st,t,false⟩ z⟩),0):=rfl
 have Xy:∀s,lN s b v ⟨st,t,false⟩->bF 161 [bg b,sv z] s (ub b v) (iv (Fs.di ⟨st,t,false⟩ z)):=λs hr=>qg s b v ⟨st,t,false⟩ tz ht z ag hp hr
 have Rh:∀s,lN s b v ⟨st,t,false⟩->bF 161 [bg b,sv to] s (ub b v) (iv (Fs.di ⟨st,t,false⟩ to)):=λs hr=>qg s b v ⟨st,t,false⟩ tz ht to ag uF hr
 have CE:∀s,bF 99 [sv to,sv z] s [] (.bool (under to z)):=λs=>zw s to z hzt hz
 have aib:∀s,lN s b v ⟨st,t,false⟩->bF 163 [bg b,sv to] s (ub b v) (.tuple ⟨[iv (Fs.bU ⟨st,t,false⟩ to).1,iv (Fs.bU ⟨st,t,false⟩ to).2]⟩):=λs hr=>uc s b v ⟨st,t,false⟩ tz ht to ag uF hr
 have rS:∀s,lN s b v ⟨st,t,false⟩->bF 163 [bg b,sv z] s (ub b v) (.tuple ⟨[iv (Fs.bU ⟨st,t,false⟩ z).1,iv (Fs.bU ⟨st,t,false⟩ z).2]⟩):=λs hr=>uc s b v ⟨st,t,false⟩ tz ht z ag hp hr
 obtain⟨G,l0,q0,hF,hG⟩:=pr;by_cases h1:Fs.di ⟨st,t,false⟩ z<0
 .rw[if_pos h1] at mE;rw[mE];generalize Fs.di ⟨st,t,false⟩ z=w at *
  refine aT f116 ?_;dsimp only[ko,eQ];repeat' (first|refine' aW|refine' BL|refine' av|fail)
  all_goals refine' zaA
 rw[if_neg h1] at mE;obtain⟨k,e1,e2⟩:=Pg.iF hF h1;obtain⟨ei,re⟩:=Pg.jy hG e2;have hk:k<16:=(hF.lt re).2;rw[e1] at mE Xy;clear h1 e1;by_cases h2:(k:Int)=0
 .rw[if_pos h2] at mE;rw[mE];refine aT f116 ?_;dsimp only[ko,eQ];repeat' (first|refine' aW|refine' BL|refine' av|fail)
  all_goals try refine cj
  all_goals refine mR (v':=v) bG bu ar rfl
 rw[if_neg h2] at mE;have SZ:k≠0:=λhc=>h2 ag
 by_cases h3:0<=Fs.di ⟨st,t,false⟩ to
 .rw[if_pos h3] at mE;rw[mE];generalize Fs.di ⟨st,t,false⟩ to=w at *
  refine aT f116 ?_;dsimp only[ko,eQ];repeat' (first|refine' aW|refine' BL|refine' av|fail)
  all_goals refine' zaA
 rw[if_neg h3] at mE;by_cases h4:under to z=true
 .rw[if_pos h4] at mE;rw[mE];rw[h4] at CE;generalize Fs.di ⟨st,t,false⟩ to=w at *
  refine aT f116 ?_;dsimp only[ko,eQ];repeat' (first|refine' aW|refine' BL|refine' zr|refine' av|fail)
  all_goals refine' zaA
 rw[if_neg h4] at mE;have h4:under to z=false:=by simpa using h4
 rw[h4] at CE;by_cases h5:0<(Fs.bU ⟨st,t,false⟩ to).2
 .rw[if_pos h5] at mE;rw[mE];generalize Fs.di ⟨st,t,false⟩ to=w at *
  generalize Fs.bU ⟨st,t,false⟩ to=w2 at *
  refine aT f116 ?_;dsimp only[ko,eQ];repeat' (first|refine' aW|refine' BL|refine' zr|refine' RA|refine' av|fail)
  all_goals refine' zaA
 rw[if_neg h5] at mE;obtain⟨at_,e,a1,a2,a3,a4,a5⟩:=Pg.zY hF h5;obtain⟨fr,ef,i,p1,p2,p3,p4,p5,p6,p7,p8⟩:=Pg.sX hF hG e2 SZ;have Fi:Fs.bM ⟨st,t,false⟩ (fr:Int)=ef.es:=Pg.mb hF false p3 p4;have z7:Fs.bM ⟨st,t,false⟩ (at_:Int)=e.es:=Pg.mb hF false a4 a5;have Qp:at_<16:=(hF.lt a4).2;have afI:fr<16:=(hF.lt p3).2;have afK:=vC ⟨st,t,false⟩ (fr:Int);have ajB:=vC ⟨st,t,false⟩ (at_:Int);have PU:=Ft uF a2;rw[a1,p1] at mE;simp only at mE;rw[Fi,z7,p5,qj] at mE;rw[a1] at aib;rw[p1] at rS;rw[Fi] at afK;rw[z7] at ajB;have hla:=ajB.1;have Ce:=afK.1;have Wu:∀s,lN s b v ⟨st,t,false⟩->eU bh bw 156 [bg b,iv at_] s (ub b v) 200 e.es:=λs hr=>by
  have:=lO s b v ⟨st,t,false⟩ tz ht at_ ag hr;rwa [z7] at this
 have hef:∀s,lN s b v ⟨st,t,false⟩->eU bh bw 156 [bg b,iv fr] s (ub b v) 200 ef.es:=λs hr=>by
  have:=lO s b v ⟨st,t,false⟩ tz ht fr ag hr;rwa [Fi] at this
 have Ts:Fs.di ⟨st,t,false⟩ to<0:=by omega
 clear h5 a1;generalize Fs.di ⟨st,t,false⟩ to=w at *
 by_cases h6:(at_:Int)≠fr/\12<=e.es.length
 .rw[if_pos h6] at mE;rw[mE];obtain⟨h6,h7⟩:=h6;refine aT f116 ?_;dsimp only[ko,eQ];repeat' (first|refine' aW|refine' BL|refine' zr|refine' RA|refine' XH|refine' av|fail)
  all_goals try refine cj
  all_goals refine mR (v':=v) bG bu ar rfl
 rw[if_neg h6] at mE;have ah7:∀a c s,bH s a ef.es.length 2 (ai ef.es)->bF 165 [.slice a ef.es.length c,sv (Fs.base z)] s (aj a) (iv i):=λa c s hr=>by
  have:=Ea s a c ef.es (Fs.base z) ag hr;unfold X9 at this;rw[p5] at this;exact this
 have ah8:∀a c s,bH s a ef.es.length 2 (ai ef.es)->w9 s a ef.es.length c 200 2->eU bh bw 164 [.slice a ef.es.length c,iv i] s (aj a) 200 (eA ef.es i):=λa c s hr hv=>Ep s a c ef.es i ag p6 hr hv
 have hbo:=UC (i:=i) afK;have hle:=hbo.1;generalize eA ef.es i=old at *
 by_cases h7:(at_:Int)=fr
 .rw[if_pos h7] at mE;have Cc:∀a c s,bH s a old.length 2 (ai old)->eU bh bw 159 [.slice a old.length c,.agg ⟨[sv (Fs.base to),iv k]⟩] s (aj a) 200 (gz old ⟨Fs.base to,k⟩):=λa c s hr=>vY s a c old ⟨Fs.base to,k⟩ ag hr
  have lV:=Aa (x:=⟨Fs.base to,k⟩) hbo ⟨PU,by show(0:Int)<=(k:Int);omega,by show(k:Int)<=1000;omega⟩;generalize gz old ⟨Fs.base to,k⟩=w6 at *
  have nY:∀dL a c s,bH s a w6.length 2 (ai w6)->(∀j∈aj a,j∉(ko b dL ⟨st,t,false⟩).flatMap It.a8)->BH 158 [bg b,iv at_,.slice a w6.length c] s (ko b dL ⟨st,t,false⟩) (aj a) λR L=>∃v':SA,R= .tuple ⟨[]⟩/\L=ko b v' (Fs.bk ⟨st,t,false⟩ at_ w6):=λdL a c s hr hm=>
   oA s b dL ⟨st,t,false⟩ ⟨h.mono ag,ht⟩ at_ Qp a c w6 ag lV.2 hr hm
  generalize Fs.bk ⟨st,t,false⟩ at_ w6=f2 at *
  rw[mE];refine aT f116 ?_;dsimp only[ko,eQ];repeat' (first|refine' aW|refine' BL|refine' zr|refine' RA|refine' XH|refine' Ec|refine' Mc|refine' Md|refine' Rz|refine' ac5|refine' av|fail)
  all_goals refine' zaF
 .rw[if_neg h7] at mE;have Oq:∀dL a c s,bH s a old.length 2 (ai old)->(∀j∈aj a,j∉(ko b dL ⟨st,t,false⟩).flatMap It.a8)->BH 158 [bg b,iv fr,.slice a old.length c] s (ko b dL ⟨st,t,false⟩) (aj a) λR L=>∃v':SA,R= .tuple ⟨[]⟩/\L=ko b v' (Fs.bk ⟨st,t,false⟩ fr old):=λdL a c s hr hm=>
   oA s b dL ⟨st,t,false⟩ ⟨h.mono ag,ht⟩ fr afI a c old ag hbo.2 hr hm
  have Cz:sY 50630 (Fs.bk ⟨st,t,false⟩ fr old):=sY.bk (n:=50000) ⟨h,ht⟩ ag _;generalize Fs.bk ⟨st,t,false⟩ fr old=f1 at *
  have ajC:=vC f1 (at_:Int);have qu:=ajC.1;have he1:∀dL s,lN s b dL f1->eU bh bw 156 [bg b,iv at_] s (ub b dL) 200 (f1.bM at_):=λdL s hr=>lO s b dL f1 (Cz.st.mono ag) Cz.t at_ ag hr
  generalize f1.bM at_=es1 at *
  have Cc:∀a c s,bH s a es1.length 2 (ai es1)->eU bh bw 159 [.slice a es1.length c,.agg ⟨[sv (Fs.base to),iv k]⟩] s (aj a) 200 (gz es1 ⟨Fs.base to,k⟩):=λa c s hr=>vY s a c es1 ⟨Fs.base to,k⟩ ag hr
  have lV:=Aa (x:=⟨Fs.base to,k⟩) ajC ⟨PU,by show(0:Int)<=(k:Int);omega,by show(k:Int)<=1000;omega⟩;generalize gz es1 ⟨Fs.base to,k⟩=w6 at *
  have nY:∀dL a c s,bH s a w6.length 2 (ai w6)->(∀j∈aj a,j∉(ko b dL f1).flatMap It.a8)->BH 158 [bg b,iv at_,.slice a w6.length c] s (ko b dL f1) (aj a) λR L=>∃v':SA,R= .tuple ⟨[]⟩/\L=ko b v' (Fs.bk f1 at_ w6):=λdL a c s hr hm=>
   oA s b dL f1 (Cz.mono ag) at_ Qp a c w6 ag lV.2 hr hm
  generalize Fs.bk f1 at_ w6=f2 at *
  rw[mE];refine aT f116 ?_;dsimp only[ko,eQ];(repeat' (first|refine' aW|refine' BL|refine' zr|refine' RA|refine' XH|((with_reducible apply WO.Zr);exact aC;(intro v s hr;exact he1 v s hr);exact uq;intro _ _ UQ UR _ _)|refine' Ec|refine' Mc|refine' Md|refine' Rz|refine' ac5|refine' av|fail));all_goals refine' zaF
def doV (t:cB)(code:Int):Value->Value:=λV=>.tuple ⟨[V,tv t,iv code]⟩
end Go.Pl
