/- Lemmas of the proof. No conditions. -/
import Derived.Test.YtajgfdfbnhchcaaGreatDoorAe5
set_option maxRecDepth 100000
set_option maxHeartbeats 4000000
set_option linter.unusedVariables false
set_option linter.unusedSimpArgs false
open Go.Proofs.Tryz
namespace Go.Pl
open Go Go.Ev Go.Lg Go.Proofs
theorem T5 (s:St)(b:Nat)(v:SA)(st:ar)(t:bX)(h:dv 50000 st)(ht:eb t)(o9:Pg.FS st t)(z:aA)(hz:z.length<=3000)(hp:aT z=true)(to:aA)(hzt:to.length<=3000)(uu:aT to=true):
  mG a8 bj 116 [bc b,sv z,sv to] s b v ⟨st,t,false⟩ (Fs.move ⟨st,t,false⟩ z to).1 (iv (Fs.move ⟨st,t,false⟩ z to).2):=by
 have tc:dv 100000 st:=h.mono ag;have mA:Fs.move ⟨st,t,false⟩ z to=if Fs.da ⟨st,t,false⟩ z<0 then(⟨st,t,false⟩,2) else if Fs.da ⟨st,t,false⟩ z=0 then(⟨st,t,false⟩,5) else if 0<=Fs.da ⟨st,t,false⟩ to then(⟨st,t,false⟩,3) else if under to z=true then(⟨st,t,false⟩,5) else
   if 0<(Fs.bM ⟨st,t,false⟩ to).2 then(⟨st,t,false⟩,(Fs.bM ⟨st,t,false⟩ to).2) else
   if(Fs.bM ⟨st,t,false⟩ to).1≠(Fs.bM ⟨st,t,false⟩ z).1/\12<=(Fs.bH ⟨st,t,false⟩ (Fs.bM ⟨st,t,false⟩ to).1).length then(⟨st,t,false⟩,6) else
   if(Fs.bM ⟨st,t,false⟩ to).1=(Fs.bM ⟨st,t,false⟩ z).1 then(Fs.bf ⟨st,t,false⟩ (Fs.bM ⟨st,t,false⟩ to).1 (gm (eu (Fs.bH ⟨st,t,false⟩ (Fs.bM ⟨st,t,false⟩ z).1) ((eA (Fs.bH ⟨st,t,false⟩ (Fs.bM ⟨st,t,false⟩ z).1) (Fs.base z)).getD 0)) ⟨Fs.base to,Fs.da ⟨st,t,false⟩ z⟩),0) else
   (Fs.bf (Fs.bf ⟨st,t,false⟩ (Fs.bM ⟨st,t,false⟩ z).1 (eu (Fs.bH ⟨st,t,false⟩ (Fs.bM ⟨st,t,false⟩ z).1) ((eA (Fs.bH ⟨st,t,false⟩ (Fs.bM ⟨st,t,false⟩ z).1) (Fs.base z)).getD 0))) (Fs.bM ⟨st,t,false⟩ to).1 (gm (Fs.bH (Fs.bf ⟨st,t,false⟩ (Fs.bM ⟨st,t,false⟩ z).1 (eu (Fs.bH ⟨st,t,false⟩ (Fs.bM ⟨st,t,false⟩ z).1) ((eA (Fs.bH ⟨st,t,false⟩ (Fs.bM ⟨st,t,false⟩ z).1) (Fs.base z)).getD 0))) (Fs.bM ⟨st,t,false⟩ to).1) ⟨Fs.base to,Fs.da ⟨st,t,false⟩ z⟩),0):=rfl
 have WR:∀s,lJ s b v ⟨st,t,false⟩->bP 161 [bc b,sv z] s (tN b v) (iv (Fs.da ⟨st,t,false⟩ z)):=λs hr=>pS s b v ⟨st,t,false⟩ tc ht z ag hp hr
 have Qy:∀s,lJ s b v ⟨st,t,false⟩->bP 161 [bc b,sv to] s (tN b v) (iv (Fs.da ⟨st,t,false⟩ to)):=λs hr=>pS s b v ⟨st,t,false⟩ tc ht to ag uu hr
 have IL:∀s,bP 99 [sv to,sv z] s [] (.bool (under to z)):=λs=>za s to z hzt hz
 have ahC:∀s,lJ s b v ⟨st,t,false⟩->bP 163 [bc b,sv to] s (tN b v) (.tuple ⟨[iv (Fs.bM ⟨st,t,false⟩ to).1,iv (Fs.bM ⟨st,t,false⟩ to).2]⟩):=λs hr=>tO s b v ⟨st,t,false⟩ tc ht to ag uu hr
 have rD:∀s,lJ s b v ⟨st,t,false⟩->bP 163 [bc b,sv z] s (tN b v) (.tuple ⟨[iv (Fs.bM ⟨st,t,false⟩ z).1,iv (Fs.bM ⟨st,t,false⟩ z).2]⟩):=λs hr=>tO s b v ⟨st,t,false⟩ tc ht z ag hp hr
 obtain⟨G,l0,q0,hF,hG⟩:=o9;by_cases h1:Fs.da ⟨st,t,false⟩ z<0
 .rw[if_pos h1] at mA;rw[mA];generalize Fs.da ⟨st,t,false⟩ z=w at *
  refine aU f116 ?_;dsimp only[kg,eO];(repeat' (first|refine' a7|refine' Bm|refine' aw|fail))
  all_goals refine' zaz
 rw[if_neg h1] at mA;obtain⟨k,e1,e2⟩:=Pg.iB hF h1;obtain⟨ei,qO⟩:=Pg.jr hG e2;have hk:k<16:=(hF.lt qO).2;rw[e1] at mA WR;clear h1 e1;by_cases h2:(k:Int)=0
 .rw[if_pos h2] at mA;rw[mA];refine aU f116 ?_;dsimp only[kg,eO];(repeat' (first|refine' a7|refine' Bm|refine' aw|fail))
  all_goals try refine cM
  all_goals refine mP (v':=v) bB bn au rfl
 rw[if_neg h2] at mA;have R9:k≠0:=λhc=>h2 ag
 by_cases h3:0<=Fs.da ⟨st,t,false⟩ to
 .rw[if_pos h3] at mA;rw[mA];generalize Fs.da ⟨st,t,false⟩ to=w at *
  refine aU f116 ?_;dsimp only[kg,eO];(repeat' (first|refine' a7|refine' Bm|refine' aw|fail))
  all_goals refine' zaz
 rw[if_neg h3] at mA;by_cases h4:under to z=true
 .rw[if_pos h4] at mA;rw[mA];rw[h4] at IL;generalize Fs.da ⟨st,t,false⟩ to=w at *
  refine aU f116 ?_;dsimp only[kg,eO];(repeat' (first|refine' a7|refine' Bm|refine' y6|refine' aw|fail))
  all_goals refine' zaz
 rw[if_neg h4] at mA;have h4:under to z=false:=by simpa using h4
 rw[h4] at IL;by_cases h5:0<(Fs.bM ⟨st,t,false⟩ to).2
 .rw[if_pos h5] at mA;rw[mA];generalize Fs.da ⟨st,t,false⟩ to=w at *
  generalize Fs.bM ⟨st,t,false⟩ to=w2 at *
  refine aU f116 ?_;dsimp only[kg,eO];(repeat' (first|refine' a7|refine' Bm|refine' y6|refine' QR|refine' aw|fail))
  all_goals refine' zaz
 rw[if_neg h5] at mA;obtain⟨at_,e,a1,a2,a3,a4,a5⟩:=Pg.zy hF h5;obtain⟨fr,ef,i,p1,p2,p3,p4,p5,p6,p7,p8⟩:=Pg.sL hF hG e2 R9;have EM:Fs.bH ⟨st,t,false⟩ (fr:Int)=ef.es:=Pg.l9 hF false p3 p4;have zC:Fs.bH ⟨st,t,false⟩ (at_:Int)=e.es:=Pg.l9 hF false a4 a5;have PA:at_<16:=(hF.lt a4).2;have afe:fr<16:=(hF.lt p3).2;have afg:=vk ⟨st,t,false⟩ (fr:Int);have aiS:=vk ⟨st,t,false⟩ (at_:Int);have O8:=EV uu a2;rw[a1,p1] at mA;simp only at mA;rw[EM,zC,p5,pV] at mA;rw[a1] at ahC;rw[p1] at rD;rw[EM] at afg;rw[zC] at aiS;have hla:=aiS.1;have Cj:=afg.1;have VP:∀s,lJ s b v ⟨st,t,false⟩->fa a8 bj 156 [bc b,iv at_] s (tN b v) 200 e.es:=λs hr=>by
  have:=lK s b v ⟨st,t,false⟩ tc ht at_ ag hr;rwa [zC] at this
 have hef:∀s,lJ s b v ⟨st,t,false⟩->fa a8 bj 156 [bc b,iv fr] s (tN b v) 200 ef.es:=λs hr=>by
  have:=lK s b v ⟨st,t,false⟩ tc ht fr ag hr;rwa [EM] at this
 have SG:Fs.da ⟨st,t,false⟩ to<0:=by omega
 clear h5 a1;generalize Fs.da ⟨st,t,false⟩ to=w at *
 by_cases h6:(at_:Int)≠fr/\12<=e.es.length
 .rw[if_pos h6] at mA;rw[mA];obtain⟨h6,h7⟩:=h6;refine aU f116 ?_;dsimp only[kg,eO];(repeat' (first|refine' a7|refine' Bm|refine' y6|refine' QR|refine' W1|refine' aw|fail))
  all_goals try refine cM
  all_goals refine mP (v':=v) bB bn au rfl
 rw[if_neg h6] at mA;have OI:∀a c s,bO s a ef.es.length 2 (ai ef.es)->bP 165 [.slice a ef.es.length c,sv (Fs.base z)] s (aj a) (iv i):=λa c s hr=>by
  have:=DI s a c ef.es (Fs.base z) ag hr;unfold Xv at this;rw[p5] at this;exact this
 have ahz:∀a c s,bO s a ef.es.length 2 (ai ef.es)->FH s a ef.es.length c 200 2->fa a8 bj 164 [.slice a ef.es.length c,iv i] s (aj a) 200 (eu ef.es i):=λa c s hr hv=>DY s a c ef.es i ag p6 hr hv
 have hbo:=TR (i:=i) afg;have hle:=hbo.1;generalize eu ef.es i=old at *
 by_cases h7:(at_:Int)=fr
 .rw[if_pos h7] at mA;have BO:∀a c s,bO s a old.length 2 (ai old)->fa a8 bj 159 [.slice a old.length c,.agg ⟨[sv (Fs.base to),iv k]⟩] s (aj a) 200 (gm old ⟨Fs.base to,k⟩):=λa c s hr=>vJ s a c old ⟨Fs.base to,k⟩ ag hr
  have kK:=zE (x:=⟨Fs.base to,k⟩) hbo ⟨O8,by show(0:Int)<=(k:Int);omega,by show(k:Int)<=1000;omega⟩;generalize gm old ⟨Fs.base to,k⟩=wI at *
  have nU:∀dI a c s,bO s a wI.length 2 (ai wI)->(∀j∈aj a,j∉(kg b dI ⟨st,t,false⟩).flatMap It.aY)->Bi 158 [bc b,iv at_,.slice a wI.length c] s (kg b dI ⟨st,t,false⟩) (aj a) λR L=>∃v':SA,R= .tuple ⟨[]⟩/\L=kg b v' (Fs.bf ⟨st,t,false⟩ at_ wI):=λdI a c s hr hm=>
   om s b dI ⟨st,t,false⟩ ⟨h.mono ag,ht⟩ at_ PA a c wI ag kK.2 hr hm
  generalize Fs.bf ⟨st,t,false⟩ at_ wI=f2 at *
  rw[mA];refine aU f116 ?_;dsimp only[kg,eO];(repeat' (first|refine' a7|refine' Bm|refine' y6|refine' QR|refine' W1|refine' DK|refine' Lv|refine' Lw|refine' QQ|refine' acC|refine' aw|fail))
  all_goals refine' zaE
 .rw[if_neg h7] at mA;have ND:∀dI a c s,bO s a old.length 2 (ai old)->(∀j∈aj a,j∉(kg b dI ⟨st,t,false⟩).flatMap It.aY)->Bi 158 [bc b,iv fr,.slice a old.length c] s (kg b dI ⟨st,t,false⟩) (aj a) λR L=>∃v':SA,R= .tuple ⟨[]⟩/\L=kg b v' (Fs.bf ⟨st,t,false⟩ fr old):=λdI a c s hr hm=>
   om s b dI ⟨st,t,false⟩ ⟨h.mono ag,ht⟩ fr afe a c old ag hbo.2 hr hm
  have Ce:sM 50630 (Fs.bf ⟨st,t,false⟩ fr old):=sM.bf (n:=50000) ⟨h,ht⟩ ag _;generalize Fs.bf ⟨st,t,false⟩ fr old=f1 at *
  have aiT:=vk f1 (at_:Int);have sS:=aiT.1;have he1:∀dI s,lJ s b dI f1->fa a8 bj 156 [bc b,iv at_] s (tN b dI) 200 (f1.bH at_):=λdI s hr=>lK s b dI f1 (Ce.st.mono ag) Ce.t at_ ag hr
  generalize f1.bH at_=es1 at *
  have BO:∀a c s,bO s a es1.length 2 (ai es1)->fa a8 bj 159 [.slice a es1.length c,.agg ⟨[sv (Fs.base to),iv k]⟩] s (aj a) 200 (gm es1 ⟨Fs.base to,k⟩):=λa c s hr=>vJ s a c es1 ⟨Fs.base to,k⟩ ag hr
  have kK:=zE (x:=⟨Fs.base to,k⟩) aiT ⟨O8,by show(0:Int)<=(k:Int);omega,by show(k:Int)<=1000;omega⟩;generalize gm es1 ⟨Fs.base to,k⟩=wI at *
  have nU:∀dI a c s,bO s a wI.length 2 (ai wI)->(∀j∈aj a,j∉(kg b dI f1).flatMap It.aY)->Bi 158 [bc b,iv at_,.slice a wI.length c] s (kg b dI f1) (aj a) λR L=>∃v':SA,R= .tuple ⟨[]⟩/\L=kg b v' (Fs.bf f1 at_ wI):=λdI a c s hr hm=>
   om s b dI f1 (Ce.mono ag) at_ PA a c wI ag kK.2 hr hm
  generalize Fs.bf f1 at_ wI=f2 at *
  rw[mA];refine aU f116 ?_;dsimp only[kg,eO];(repeat' (first|refine' a7|refine' Bm|refine' y6|refine' QR|refine' W1|((with_reducible apply WO.YH);exact aE;(intro v s hr;(first|exact he1 v s hr));exact uc;intro _ _ T6 T7 _ _)|refine' DK|refine' Lv|refine' Lw|refine' QQ|refine' acC|refine' aw|fail))
  all_goals refine' zaE
end Go.Pl
