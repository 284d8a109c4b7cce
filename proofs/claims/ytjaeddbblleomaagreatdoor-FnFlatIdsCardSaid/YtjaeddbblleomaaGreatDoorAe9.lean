/- Lemmas of the proof. No conditions. -/
import Derived.Test.YtjaeddbblleomaaGreatDoorAe8
set_option maxRecDepth 100000
set_option maxHeartbeats 4000000
set_option linter.unusedVariables false
set_option linter.unusedSimpArgs false
open Go.Proofs.Tryz
namespace Go.Pl
open Go Go.Ev Go.Lg Go.Proofs
theorem To (s:St)(b:Nat)(v:SA)(st:ak)(t:bX)(h:du 50000 st)(ht:dZ t)(oO:Pg.FS st t)(z:ay)(hz:z.length<=3000)(hp:bf z=true)(to:ay)(hzt:to.length<=3000)(tV:bf to=true):
  ml aU aW 97 [aP b,sv z,sv to] s b v ⟨st,t,false⟩ (Fs.move ⟨st,t,false⟩ z to).1 (iv (Fs.move ⟨st,t,false⟩ z to).2):=by
 have tP:du 100000 st:=h.mono af;have mc:Fs.move ⟨st,t,false⟩ z to=if Fs.cZ ⟨st,t,false⟩ z<0 then(⟨st,t,false⟩,2) else if Fs.cZ ⟨st,t,false⟩ z=0 then(⟨st,t,false⟩,5) else if 0<=Fs.cZ ⟨st,t,false⟩ to then(⟨st,t,false⟩,3) else if under to z=true then(⟨st,t,false⟩,5) else
   if 0<(Fs.bL ⟨st,t,false⟩ to).2 then(⟨st,t,false⟩,(Fs.bL ⟨st,t,false⟩ to).2) else
   if(Fs.bL ⟨st,t,false⟩ to).1≠(Fs.bL ⟨st,t,false⟩ z).1/\12<=(Fs.bF ⟨st,t,false⟩ (Fs.bL ⟨st,t,false⟩ to).1).length then(⟨st,t,false⟩,6) else
   if(Fs.bL ⟨st,t,false⟩ to).1=(Fs.bL ⟨st,t,false⟩ z).1 then(Fs.aZ ⟨st,t,false⟩ (Fs.bL ⟨st,t,false⟩ to).1 (gu (er (Fs.bF ⟨st,t,false⟩ (Fs.bL ⟨st,t,false⟩ z).1) ((ey (Fs.bF ⟨st,t,false⟩ (Fs.bL ⟨st,t,false⟩ z).1) (Fs.base z)).getD 0)) ⟨Fs.base to,Fs.cZ ⟨st,t,false⟩ z⟩),0) else
   (Fs.aZ (Fs.aZ ⟨st,t,false⟩ (Fs.bL ⟨st,t,false⟩ z).1 (er (Fs.bF ⟨st,t,false⟩ (Fs.bL ⟨st,t,false⟩ z).1) ((ey (Fs.bF ⟨st,t,false⟩ (Fs.bL ⟨st,t,false⟩ z).1) (Fs.base z)).getD 0))) (Fs.bL ⟨st,t,false⟩ to).1 (gu (Fs.bF (Fs.aZ ⟨st,t,false⟩ (Fs.bL ⟨st,t,false⟩ z).1 (er (Fs.bF ⟨st,t,false⟩ (Fs.bL ⟨st,t,false⟩ z).1) ((ey (Fs.bF ⟨st,t,false⟩ (Fs.bL ⟨st,t,false⟩ z).1) (Fs.base z)).getD 0))) (Fs.bL ⟨st,t,false⟩ to).1) ⟨Fs.base to,Fs.cZ ⟨st,t,false⟩ z⟩),0):=rfl
 have NX:∀s,lq s b v ⟨st,t,false⟩->bO 142 [aP b,sv z] s (tp b v) (iv (Fs.cZ ⟨st,t,false⟩ z)):=λs hr=>pE s b v ⟨st,t,false⟩ tP ht z af hp hr
 have PQ:∀s,lq s b v ⟨st,t,false⟩->bO 142 [aP b,sv to] s (tp b v) (iv (Fs.cZ ⟨st,t,false⟩ to)):=λs hr=>pE s b v ⟨st,t,false⟩ tP ht to af tV hr
 have Kd:∀s,bO 87 [sv to,sv z] s [] (.bool (under to z)):=λs=>yG s to z hzt hz
 have hpt2:∀s,lq s b v ⟨st,t,false⟩->bO 144 [aP b,sv to] s (tp b v) (.tuple ⟨[iv (Fs.bL ⟨st,t,false⟩ to).1,iv (Fs.bL ⟨st,t,false⟩ to).2]⟩):=λs hr=>tq s b v ⟨st,t,false⟩ tP ht to af tV hr
 have ri:∀s,lq s b v ⟨st,t,false⟩->bO 144 [aP b,sv z] s (tp b v) (.tuple ⟨[iv (Fs.bL ⟨st,t,false⟩ z).1,iv (Fs.bL ⟨st,t,false⟩ z).2]⟩):=λs hr=>tq s b v ⟨st,t,false⟩ tP ht z af hp hr
 obtain⟨G,l0,q0,hF,hG⟩:=oO;by_cases h1:Fs.cZ ⟨st,t,false⟩ z<0
 .rw[if_pos h1] at mc;rw[mc];generalize Fs.cZ ⟨st,t,false⟩ z=w at *
  refine aO f97 ?_;dsimp only[j5,eM];(repeat' (first|refine' aX|refine' AN|refine' ar|fail))
  all_goals refine' zax
 rw[if_neg h1] at mc;obtain⟨k,e1,e2⟩:=Pg.ie hF h1;obtain⟨ei,qA⟩:=Pg.jg hG e2;have hk:k<16:=(hF.lt qA).2;rw[e1] at mc NX;clear h1 e1;by_cases h2:(k:Int)=0
 .rw[if_pos h2] at mc;rw[mc];refine aO f97 ?_;dsimp only[j5,eM];(repeat' (first|refine' aX|refine' AN|refine' ar|fail))
  all_goals try refine cI
  all_goals refine mw (v':=v) bB bj aq rfl
 rw[if_neg h2] at mc;have UJ:k≠0:=λhc=>h2 af
 by_cases h3:0<=Fs.cZ ⟨st,t,false⟩ to
 .rw[if_pos h3] at mc;rw[mc];generalize Fs.cZ ⟨st,t,false⟩ to=w at *
  refine aO f97 ?_;dsimp only[j5,eM];(repeat' (first|refine' aX|refine' AN|refine' ar|fail))
  all_goals refine' zax
 rw[if_neg h3] at mc;by_cases h4:under to z=true
 .rw[if_pos h4] at mc;rw[mc];rw[h4] at Kd;generalize Fs.cZ ⟨st,t,false⟩ to=w at *
  refine aO f97 ?_;dsimp only[j5,eM];(repeat' (first|refine' aX|refine' AN|refine' yC|refine' ar|fail))
  all_goals refine' zax
 rw[if_neg h4] at mc;have h4:under to z=false:=by simpa using h4
 rw[h4] at Kd;by_cases h5:0<(Fs.bL ⟨st,t,false⟩ to).2
 .rw[if_pos h5] at mc;rw[mc];generalize Fs.cZ ⟨st,t,false⟩ to=w at *
  generalize Fs.bL ⟨st,t,false⟩ to=w2 at *
  refine aO f97 ?_;dsimp only[j5,eM];(repeat' (first|refine' aX|refine' AN|refine' yC|refine' Qd|refine' ar|fail))
  all_goals refine' zax
 rw[if_neg h5] at mc;obtain⟨at_,e,a1,a2,a3,a4,a5⟩:=Pg.y7 hF h5;obtain⟨fr,ef,i,p1,p2,p3,p4,p5,p6,p7,p8⟩:=Pg.ss hF hG e2 UJ;have Eb:Fs.bF ⟨st,t,false⟩ (fr:Int)=ef.es:=Pg.lO hF false p3 p4;have za:Fs.bF ⟨st,t,false⟩ (at_:Int)=e.es:=Pg.lO hF false a4 a5;have OS:at_<16:=(hF.lt a4).2;have hfrl:fr<16:=(hF.lt p3).2;have hebf:=uV ⟨st,t,false⟩ (fr:Int);have heba:=uV ⟨st,t,false⟩ (at_:Int);have Ou:=Ei tV a2;rw[a1,p1] at mc;simp only at mc;rw[Eb,za,p5,pH] at mc;rw[a1] at hpt2;rw[p1] at ri;rw[Eb] at hebf;rw[za] at heba;have hla:=heba.1;have BG:=hebf.1;have U9:∀s,lq s b v ⟨st,t,false⟩->fa aU aW 137 [aP b,iv at_] s (tp b v) 186 e.es:=λs hr=>by
  have:=lu s b v ⟨st,t,false⟩ tP ht at_ af hr;rwa [za] at this
 have hef:∀s,lq s b v ⟨st,t,false⟩->fa aU aW 137 [aP b,iv fr] s (tp b v) 186 ef.es:=λs hr=>by
  have:=lu s b v ⟨st,t,false⟩ tP ht fr af hr;rwa [Eb] at this
 have RW:Fs.cZ ⟨st,t,false⟩ to<0:=by omega
 clear h5 a1;generalize Fs.cZ ⟨st,t,false⟩ to=w at *
 by_cases h6:(at_:Int)≠fr/\12<=e.es.length
 .rw[if_pos h6] at mc;rw[mc];obtain⟨h6,h7⟩:=h6;refine aO f97 ?_;dsimp only[j5,eM];(repeat' (first|refine' aX|refine' AN|refine' yC|refine' Qd|refine' Wf|refine' ar|fail))
  all_goals try refine cI
  all_goals refine mw (v':=v) bB bj aq rfl
 rw[if_neg h6] at mc;have hat2:∀a c s,bM s a ef.es.length 2 (ah ef.es)->bO 146 [.slice a ef.es.length c,sv (Fs.base z)] s (ai a) (iv i):=λa c s hr=>by
  have:=C5 s a c ef.es (Fs.base z) af hr;unfold WG at this;rw[p5] at this;exact this
 have hles:∀a c s,bM s a ef.es.length 2 (ah ef.es)->E0 s a ef.es.length c 186 2->fa aU aW 145 [.slice a ef.es.length c,iv i] s (ai a) 186 (er ef.es i):=λa c s hr hv=>Dj s a c ef.es i af p6 hr hv
 have hbo:=Tb (i:=i) hebf;have hle:=hbo.1;generalize er ef.es i=old at *
 by_cases h7:(at_:Int)=fr
 .rw[if_pos h7] at mc;have Bd:∀a c s,bM s a old.length 2 (ah old)->fa aU aW 140 [.slice a old.length c,.agg ⟨[sv (Fs.base to),iv k]⟩] s (ai a) 186 (gu old ⟨Fs.base to,k⟩):=λa c s hr=>vk s a c old ⟨Fs.base to,k⟩ af hr
  have lT:=zc (x:=⟨Fs.base to,k⟩) hbo ⟨Ou,by show(0:Int)<=(k:Int);omega,by show(k:Int)<=1000;omega⟩;generalize gu old ⟨Fs.base to,k⟩=vY at *
  have nG:∀dI a c s,bM s a vY.length 2 (ah vY)->(∀j∈ai a,j∉(j5 b dI ⟨st,t,false⟩).flatMap It.aS)->AJ 139 [aP b,iv at_,.slice a vY.length c] s (j5 b dI ⟨st,t,false⟩) (ai a) λR L=>∃v':SA,R= .tuple ⟨[]⟩/\L=j5 b v' (Fs.aZ ⟨st,t,false⟩ at_ vY):=λdI a c s hr hm=>
   nT s b dI ⟨st,t,false⟩ ⟨h.mono af,ht⟩ at_ OS a c vY af lT.2 hr hm
  generalize Fs.aZ ⟨st,t,false⟩ at_ vY=f2 at *
  rw[mc];refine aO f97 ?_;dsimp only[j5,eM];(repeat' (first|refine' aX|refine' AN|refine' yC|refine' Qd|refine' Wf|refine' C7|refine' KW|refine' KX|refine' Qc|refine' zc189|refine' ar|fail))
  all_goals refine' zaC
 .rw[if_neg h7] at mc;have MX:∀dI a c s,bM s a old.length 2 (ah old)->(∀j∈ai a,j∉(j5 b dI ⟨st,t,false⟩).flatMap It.aS)->AJ 139 [aP b,iv fr,.slice a old.length c] s (j5 b dI ⟨st,t,false⟩) (ai a) λR L=>∃v':SA,R= .tuple ⟨[]⟩/\L=j5 b v' (Fs.aZ ⟨st,t,false⟩ fr old):=λdI a c s hr hm=>
   nT s b dI ⟨st,t,false⟩ ⟨h.mono af,ht⟩ fr hfrl a c old af hbo.2 hr hm
  have BB:su 50630 (Fs.aZ ⟨st,t,false⟩ fr old):=su.aZ (n:=50000) ⟨h,ht⟩ af _;generalize Fs.aZ ⟨st,t,false⟩ fr old=f1 at *
  have heb1:=uV f1 (at_:Int);have sC:=heb1.1;have he1:∀dI s,lq s b dI f1->fa aU aW 137 [aP b,iv at_] s (tp b dI) 186 (f1.bF at_):=λdI s hr=>lu s b dI f1 (BB.st.mono af) BB.t at_ af hr
  generalize f1.bF at_=es1 at *
  have Bd:∀a c s,bM s a es1.length 2 (ah es1)->fa aU aW 140 [.slice a es1.length c,.agg ⟨[sv (Fs.base to),iv k]⟩] s (ai a) 186 (gu es1 ⟨Fs.base to,k⟩):=λa c s hr=>vk s a c es1 ⟨Fs.base to,k⟩ af hr
  have lT:=zc (x:=⟨Fs.base to,k⟩) heb1 ⟨Ou,by show(0:Int)<=(k:Int);omega,by show(k:Int)<=1000;omega⟩;generalize gu es1 ⟨Fs.base to,k⟩=vY at *
  have nG:∀dI a c s,bM s a vY.length 2 (ah vY)->(∀j∈ai a,j∉(j5 b dI f1).flatMap It.aS)->AJ 139 [aP b,iv at_,.slice a vY.length c] s (j5 b dI f1) (ai a) λR L=>∃v':SA,R= .tuple ⟨[]⟩/\L=j5 b v' (Fs.aZ f1 at_ vY):=λdI a c s hr hm=>
   nT s b dI f1 (BB.mono af) at_ OS a c vY af lT.2 hr hm
  generalize Fs.aZ f1 at_ vY=f2 at *
  rw[mc];refine aO f97 ?_;dsimp only[j5,eM];(repeat' (first|refine' aX|refine' AN|refine' yC|refine' Qd|refine' Wf|((with_reducible apply WO.XY);exact aD;(intro v s hr;(first|exact he1 v s hr));exact tI;intro _ _ Tp Tq _ _)|refine' C7|refine' KW|refine' KX|refine' Qc|refine' zc189|refine' ar|fail))
  all_goals refine' zaC
end Go.Pl
