/- Lemmas of the proof. No conditions. -/
import Derived.Test.YtoiielhpadnflaaGreatDoorAe3
set_option maxRecDepth 100000
set_option maxHeartbeats 4000000
set_option linter.unusedVariables false
set_option linter.unusedSimpArgs false
open Go.Proofs.Tryz
namespace Go.Pl
open Go Go.Ev Go.Lg Go.Proofs
variable {L:dy}{v:SA}
theorem Ur (s:St)(b:Nat)(v:SA)(st:ar)(t:cB)(h:dv 50000 st)(ht:dZ t)(pf:Pg.FS st t)(z:aC)(hz:z.length<=3000)(hp:aT z=true)(to:aC)(hzt:to.length<=3000)(uJ:aT to=true):
  mO bf bw 102 [bk b,sv z,sv to] s b v ⟨st,t,false⟩ (Fs.move ⟨st,t,false⟩ z to).1 (iv (Fs.move ⟨st,t,false⟩ z to).2):=by
 have u6:dv 100000 st:=h.mono af;have mF:Fs.move ⟨st,t,false⟩ z to=if Fs.db ⟨st,t,false⟩ z<0 then(⟨st,t,false⟩,2) else if Fs.db ⟨st,t,false⟩ z=0 then(⟨st,t,false⟩,5) else if 0<=Fs.db ⟨st,t,false⟩ to then(⟨st,t,false⟩,3) else if under to z=true then(⟨st,t,false⟩,5) else
   if 0<(Fs.bP ⟨st,t,false⟩ to).2 then(⟨st,t,false⟩,(Fs.bP ⟨st,t,false⟩ to).2) else
   if(Fs.bP ⟨st,t,false⟩ to).1≠(Fs.bP ⟨st,t,false⟩ z).1/\12<=(Fs.bG ⟨st,t,false⟩ (Fs.bP ⟨st,t,false⟩ to).1).length then(⟨st,t,false⟩,6) else
   if(Fs.bP ⟨st,t,false⟩ to).1=(Fs.bP ⟨st,t,false⟩ z).1 then(Fs.bh ⟨st,t,false⟩ (Fs.bP ⟨st,t,false⟩ to).1 (gx (ek (Fs.bG ⟨st,t,false⟩ (Fs.bP ⟨st,t,false⟩ z).1) ((ey (Fs.bG ⟨st,t,false⟩ (Fs.bP ⟨st,t,false⟩ z).1) (Fs.base z)).getD 0)) ⟨Fs.base to,Fs.db ⟨st,t,false⟩ z⟩),0) else
   (Fs.bh (Fs.bh ⟨st,t,false⟩ (Fs.bP ⟨st,t,false⟩ z).1 (ek (Fs.bG ⟨st,t,false⟩ (Fs.bP ⟨st,t,false⟩ z).1) ((ey (Fs.bG ⟨st,t,false⟩ (Fs.bP ⟨st,t,false⟩ z).1) (Fs.base z)).getD 0))) (Fs.bP ⟨st,t,false⟩ to).1 (gx (Fs.bG (Fs.bh ⟨st,t,false⟩ (Fs.bP ⟨st,t,false⟩ z).1 (ek (Fs.bG ⟨st,t,false⟩ (Fs.bP ⟨st,t,false⟩ z).1) ((ey (Fs.bG ⟨st,t,false⟩ (Fs.bP ⟨st,t,false⟩ z).1) (Fs.base z)).getD 0))) (Fs.bP ⟨st,t,false⟩ to).1) ⟨Fs.base to,Fs.db ⟨st,t,false⟩ z⟩),0):=rfl
 have Oe:∀s,lI s b v ⟨st,t,false⟩->bL 154 [bk b,sv z] s (ua b v) (iv (Fs.db ⟨st,t,false⟩ z)):=λs hr=>qc s b v ⟨st,t,false⟩ u6 ht z af hp hr
 have WK:∀s,lI s b v ⟨st,t,false⟩->bL 154 [bk b,sv to] s (ua b v) (iv (Fs.db ⟨st,t,false⟩ to)):=λs hr=>qc s b v ⟨st,t,false⟩ u6 ht to af uJ hr
 have N3:∀s,bL 160 [sv to,sv z] s [] (.bool (under to z)):=λs=>JV s to z hzt hz
 have aio:∀s,lI s b v ⟨st,t,false⟩->bL 156 [bk b,sv to] s (ua b v) (.tuple ⟨[iv (Fs.bP ⟨st,t,false⟩ to).1,iv (Fs.bP ⟨st,t,false⟩ to).2]⟩):=λs hr=>ub s b v ⟨st,t,false⟩ u6 ht to af uJ hr
 have sS:∀s,lI s b v ⟨st,t,false⟩->bL 156 [bk b,sv z] s (ua b v) (.tuple ⟨[iv (Fs.bP ⟨st,t,false⟩ z).1,iv (Fs.bP ⟨st,t,false⟩ z).2]⟩):=λs hr=>ub s b v ⟨st,t,false⟩ u6 ht z af hp hr
 obtain⟨G,l0,q0,hF,hG⟩:=pf;by_cases h1:Fs.db ⟨st,t,false⟩ z<0
 .rw[if_pos h1] at mF;rw[mF];generalize Fs.db ⟨st,t,false⟩ z=w at *
  refine aX f102 ?_;dsimp only[kh,eK];repeat' (first|refine' aZ|refine' BK|refine' av|fail)
  all_goals refine' zay
 rw[if_neg h1] at mF;obtain⟨k,e1,e2⟩:=Pg.iy hF h1;obtain⟨ei,qT⟩:=Pg.jn hG e2;have hk:k<16:=(hF.lt qT).2;rw[e1] at mF Oe;clear h1 e1;by_cases h2:(k:Int)=0
 .rw[if_pos h2] at mF;rw[mF];refine aX f102 ?_;dsimp only[kh,eK];repeat' (first|refine' aZ|refine' BK|refine' av|fail)
  all_goals try refine cI
  all_goals refine mY (v':=v) cy bY au rfl
 rw[if_neg h2] at mF;have SO:k≠0:=λhc=>h2 af
 by_cases h3:0<=Fs.db ⟨st,t,false⟩ to
 .rw[if_pos h3] at mF;rw[mF];generalize Fs.db ⟨st,t,false⟩ to=w at *
  refine aX f102 ?_;dsimp only[kh,eK];repeat' (first|refine' aZ|refine' BK|refine' av|fail)
  all_goals refine' zay
 rw[if_neg h3] at mF;by_cases h4:under to z=true
 .rw[if_pos h4] at mF;rw[mF];rw[h4] at N3;generalize Fs.db ⟨st,t,false⟩ to=w at *
  refine aX f102 ?_;dsimp only[kh,eK];repeat' (first|refine' aZ|refine' BK|refine' Mx|refine' av|fail)
  all_goals refine' zay
 rw[if_neg h4] at mF;have h4:under to z=false:=by simpa using h4
 rw[h4] at N3;by_cases h5:0<(Fs.bP ⟨st,t,false⟩ to).2
 .rw[if_pos h5] at mF;rw[mF];generalize Fs.db ⟨st,t,false⟩ to=w at *
  generalize Fs.bP ⟨st,t,false⟩ to=w2 at *
  refine aX f102 ?_;dsimp only[kh,eK];repeat' (first|refine' aZ|refine' BK|refine' Mx|refine' RA|refine' av|fail)
  all_goals refine' zay
 rw[if_neg h5] at mF;obtain⟨at_,e,a1,a2,a3,a4,a5⟩:=Pg.zg hF h5;obtain⟨fr,ef,i,p1,p2,p3,p4,p5,p6,p7,p8⟩:=Pg.sG hF hG e2 SO;have D8:Fs.bG ⟨st,t,false⟩ (fr:Int)=ef.es:=Pg.mf hF false p3 p4;have zj:Fs.bG ⟨st,t,false⟩ (at_:Int)=e.es:=Pg.mf hF false a4 a5;have PY:at_<16:=(hF.lt a4).2;have afC:fr<16:=(hF.lt p3).2;have afD:=vC ⟨st,t,false⟩ (fr:Int);have ai0:=vC ⟨st,t,false⟩ (at_:Int);have PF:=E2 uJ a2;rw[a1,p1] at mF;simp only at mF;rw[D8,zj,p5,qd] at mF;rw[a1] at aio;rw[p1] at sS;rw[D8] at afD;rw[zj] at ai0;have hla:=ai0.1;have B8:=afD.1;have Wp:∀s,lI s b v ⟨st,t,false⟩->eu bf bw 149 [bk b,iv at_] s (ua b v) 198 e.es:=λs hr=>by
  have:=lJ s b v ⟨st,t,false⟩ u6 ht at_ af hr;rwa [zj] at this
 have hef:∀s,lI s b v ⟨st,t,false⟩->eu bf bw 149 [bk b,iv fr] s (ua b v) 198 ef.es:=λs hr=>by
  have:=lJ s b v ⟨st,t,false⟩ u6 ht fr af hr;rwa [D8] at this
 have Te:Fs.db ⟨st,t,false⟩ to<0:=by omega
 clear h5 a1;generalize Fs.db ⟨st,t,false⟩ to=w at *
 by_cases h6:(at_:Int)≠fr/\12<=e.es.length
 .rw[if_pos h6] at mF;rw[mF];obtain⟨h6,h7⟩:=h6;refine aX f102 ?_;dsimp only[kh,eK];repeat' (first|refine' aZ|refine' BK|refine' Mx|refine' RA|refine' Yb|refine' av|fail)
  all_goals try refine cI
  all_goals refine mY (v':=v) cy bY au rfl
 rw[if_neg h6] at mF;have aik:∀a c s,bM s a ef.es.length 2 (ai ef.es)->bL 158 [.slice a ef.es.length c,sv (Fs.base z)] s (aj a) (iv i):=λa c s hr=>by
  have:=Eu s a c ef.es (Fs.base z) af hr;unfold Yt at this;rw[p5] at this;exact this
 have ail:∀a c s,bM s a ef.es.length 2 (ai ef.es)->w6 s a ef.es.length c 198 2->eu bf bw 157 [.slice a ef.es.length c,iv i] s (aj a) 198 (ek ef.es i):=λa c s hr hv=>EH s a c ef.es i af p6 hr hv
 have hbo:=Um (i:=i) afD;have hle:=hbo.1;generalize ek ef.es i=old at *
 by_cases h7:(at_:Int)=fr
 .rw[if_pos h7] at mF;have FK:∀a c s,bM s a old.length 2 (ai old)->eu bf bw 152 [.slice a old.length c,.agg ⟨[sv (Fs.base to),iv k]⟩] s (aj a) 198 (gx old ⟨Fs.base to,k⟩):=λa c s hr=>wh s a c old ⟨Fs.base to,k⟩ af hr
  have lS:=zJ (x:=⟨Fs.base to,k⟩) hbo ⟨PF,by show(0:Int)<=(k:Int);omega,by show(k:Int)<=1000;omega⟩;generalize gx old ⟨Fs.base to,k⟩=wX at *
  have mZ:∀dH a c s,bM s a wX.length 2 (ai wX)->(∀j∈aj a,j∉(kh b dH ⟨st,t,false⟩).flatMap It.cr)->FC 151 [bk b,iv at_,.slice a wX.length c] s (kh b dH ⟨st,t,false⟩) (aj a) λR L=>∃v':SA,R= .tuple ⟨[]⟩/\L=kh b v' (Fs.bh ⟨st,t,false⟩ at_ wX):=λdH a c s hr hm=>
   oB s b dH ⟨st,t,false⟩ ⟨h.mono af,ht⟩ at_ PY a c wX af lS.2 hr hm
  generalize Fs.bh ⟨st,t,false⟩ at_ wX=f2 at *
  rw[mF];refine aX f102 ?_;dsimp only[kh,eK];repeat' (first|refine' aZ|refine' BK|refine' Mx|refine' RA|refine' Yb|refine' Ey|refine' Mr|refine' Ms|refine' Rz|refine' adh|refine' av|fail)
  all_goals refine' zaD
 .rw[if_neg h7] at mF;have N6:∀dH a c s,bM s a old.length 2 (ai old)->(∀j∈aj a,j∉(kh b dH ⟨st,t,false⟩).flatMap It.cr)->FC 151 [bk b,iv fr,.slice a old.length c] s (kh b dH ⟨st,t,false⟩) (aj a) λR L=>∃v':SA,R= .tuple ⟨[]⟩/\L=kh b v' (Fs.bh ⟨st,t,false⟩ fr old):=λdH a c s hr hm=>
   oB s b dH ⟨st,t,false⟩ ⟨h.mono af,ht⟩ fr afC a c old af hbo.2 hr hm
  have Ct:sK 50630 (Fs.bh ⟨st,t,false⟩ fr old):=sK.bh (n:=50000) ⟨h,ht⟩ af _;generalize Fs.bh ⟨st,t,false⟩ fr old=f1 at *
  have ai1:=vC f1 (at_:Int);have lQ:=ai1.1;have he1:∀dH s,lI s b dH f1->eu bf bw 149 [bk b,iv at_] s (ua b dH) 198 (f1.bG at_):=λdH s hr=>lJ s b dH f1 (Ct.st.mono af) Ct.t at_ af hr
  generalize f1.bG at_=es1 at *
  have FK:∀a c s,bM s a es1.length 2 (ai es1)->eu bf bw 152 [.slice a es1.length c,.agg ⟨[sv (Fs.base to),iv k]⟩] s (aj a) 198 (gx es1 ⟨Fs.base to,k⟩):=λa c s hr=>wh s a c es1 ⟨Fs.base to,k⟩ af hr
  have lS:=zJ (x:=⟨Fs.base to,k⟩) ai1 ⟨PF,by show(0:Int)<=(k:Int);omega,by show(k:Int)<=1000;omega⟩;generalize gx es1 ⟨Fs.base to,k⟩=wX at *
  have mZ:∀dH a c s,bM s a wX.length 2 (ai wX)->(∀j∈aj a,j∉(kh b dH f1).flatMap It.cr)->FC 151 [bk b,iv at_,.slice a wX.length c] s (kh b dH f1) (aj a) λR L=>∃v':SA,R= .tuple ⟨[]⟩/\L=kh b v' (Fs.bh f1 at_ wX):=λdH a c s hr hm=>
   oB s b dH f1 (Ct.mono af) at_ PY a c wX af lS.2 hr hm
  generalize Fs.bh f1 at_ wX=f2 at *
  rw[mF];refine aX f102 ?_;dsimp only[kh,eK];(repeat' (first|refine' aZ|refine' BK|refine' Mx|refine' RA|refine' Yb|((with_reducible apply WO.Y3);exact aD;(intro v s hr;exact he1 v s hr);exact uv;intro _ _ Us Ut _ _)|refine' Ey|refine' Mr|refine' Ms|refine' Rz|refine' adh|refine' av|fail));all_goals refine' zaD
end Go.Pl
