/- Lemmas of the proof. No conditions. -/
import Derived.Test.YtjaeddbblleomaaGreatDoorAe4
set_option maxRecDepth 100000
set_option maxHeartbeats 4000000
set_option linter.unusedVariables false
set_option linter.unusedSimpArgs false
open Go.Proofs.Tryz
namespace Go.Pl
open Go Go.Ev Go.Lg Go.Proofs
theorem Mv (s:St)(v:SA)(st:ak)(h:du 50000 st)(n:Nde)(hn:jW n)(a:Nat)(z:ay)(ha:a+z.length<=192)(hf:(bA st n).length<=192):
  eP aU aW 148 [fF v st,nv n,iv a,sv z] s [] v st (fB st n a z).1 true (D4 (fB st n a z).2.1 (fB st n a z).2.2):=by
 have h1:du 100000 st:=h.mono af;have hov:(gg (bA st n) a z).length<=192/\a+z.length<=(gg (bA st n) a z).length:=by
  unfold gg hZ;simp only[bR,dg,gp,rC];omega
 refine aO f148 ?_;dsimp only[eM];by_cases hz:z=[]
 .subst hz;have hw:fB st n a []=(st,n,true):=rfl;rw[hw];(refine' cO)
  (refine' dV)
  .rfl
  .intro hc;cases hc
 .have hw:fB st n a z=gz st n (gg (bA st n) a z) (a/ 12) ((a+z.length-1)/ 12):=by unfold fB;rw[if_neg hz]
  rw[hw];have hzl:0<z.length:=oX.2 hz;have hmt:((min ((bA st n++hZ ((a:Int)-((bA st n).length:Int))).length:Int) ((a:Int)+(z.length:Int))).toNat)=min (bA st n++hZ ((a:Int)-((bA st n).length:Int))).length (a+z.length):=by omega
  have YN:=λ(dI:SA) s=>Hg s dI st h n hn (gg (bA st n) a z) af (a/ 12) ((a+z.length-1)/ 12) af af af
  have WQ:((a:Int)).tdiv 12=((a/ 12:Nat):Int):=by rw[Ue af];omega
  have YK:((a:Int)+(z.length:Int)-1).tdiv 12=(((a+z.length-1)/ 12:Nat):Int):=by rw[Ue af];omega
  refine' zbc
  have Sk:∀(dI:SA) s,eP aU aW 185 [fF dI st,nv n,sv (List.take a (bA st n++hZ ((a:Int)-((bA st n).length:Int)))++z++List.drop (min ((bA st n++hZ ((a:Int)-((bA st n).length:Int))).length:Int) ((a:Int)+(z.length:Int))).toNat (bA st n++hZ ((a:Int)-((bA st n).length:Int)))),iv (((a:Int)).tdiv 12),iv (((a:Int)+(z.length:Int)-1).tdiv 12)] s [] dI st (gz st n (gg (bA st n) a z) (a/ 12) ((a+z.length-1)/ 12)).1 true (D4 (gz st n (gg (bA st n) a z) (a/ 12) ((a+z.length-1)/ 12)).2.1 (gz st n (gg (bA st n) a z) (a/ 12) ((a+z.length-1)/ 12)).2.2):=λdI s=>by
   rw[WQ,YK,hmt];exact YN dI s
  (repeat' (first|refine' aX|refine' yA|refine' KQ|((with_reducible apply WO.mQ);exact aD;(first|exact λs=>Sk _ s);exact eu;intro _ _ Th _ _ Ti)|refine' ar|fail))
  all_goals try refine cI
  (refine' dV)
  .rfl
  .intro hc;cases hc
theorem Tj (s:St)(v:SA)(st:ak)(h:du 40000 st)(n:Nde)(hn:jW n)(a:Nat)(ha:a<=192)(hs:n.size<=192)(hf:((bA st n).length:Int)=n.size)(hm:n.aN.many=dr n.size 12):
  eP aU aW 149 [fF v st,nv n,iv a] s [] v st (fk st n a).1 true (D4 (fk st n a).2.1 (fk st n a).2.2):=by
 have h1:du 100000 st:=h.mono af;have h8:du 80000 st:=h.mono af;have CO:=hn.tr;have iI:=hn.sz;have hpa:dr a 12=((a+11)/ 12:Nat):=by unfold dr;omega
 refine' zbc
 have hKv:12*((a+11)/ 12)<=a+11/\a+11<12*((a+11)/ 12)+12:=by omega
 generalize(a+11)/ 12=K at hpa hKv;have hpi:∀s,bO 186 [iv a,iv 12] s [] (iv K):=λs=>by have:=yD s a 12 af af;rwa [hpa] at this
 by_cases hsa:n.size<=a
 .by_cases hme:(K:Int)=n.aN.many
  .have hw:fk st n a=(st,{n with size:=(a:Int)},true):=by
    unfold fk;simp only[hpa];rw[if_pos hsa,if_pos hme]
   rw[hw];refine aO f149 ?_;dsimp only[eM];(repeat' (first|refine' aX|refine' yA|refine' KQ|refine' KZ|refine' ar|fail))
   all_goals try refine cI
   (refine' dV)
   .rfl
   .intro hc;cases hc
  .have hK1:1<=K:=by unfold dr at hm;omega
   have hKe:((K:Int)-1)=((K-1:Nat):Int):=by omega
   rcases tV:nj st n.aN (K-1) [] with⟨eI,t2,ok⟩
   have hw:fk st n a=(eI,{n with size:=(a:Int),aN:=t2},ok):=by
    unfold fk;simp only[hpa];rw[if_pos hsa,if_neg hme,hKe,tX];simp only[tV]
   rw[hw];have Sk:∀(dI:SA) s,eP aU aW 132 [fF dI st,tv n.aN,iv ((K:Int)-1),sv []] s [] dI st eI ok (Bp t2 ok):=λdI s=>by
    have:=sh s dI st h8 n.aN CO (K-1) af [] (by simp);rw[tV] at this;rw[hKe];exact this
   refine aO f149 ?_;dsimp only[eM];(repeat' (first|refine' aX|refine' yA|refine' KQ|refine' KZ|refine' C3|refine' ar|fail))
   all_goals try refine cI
   (refine' dV)
   .rfl
   .intro hc;cases hc
 .rcases YO:sU st n.aN K with⟨eI,t2,ok⟩
  have bP:=yW (many:=(K:Int)) h CO af;rw[YO] at bP;have Rk:∀(dI:SA) s,eP aU aW 184 [fF dI st,tv n.aN,iv K] s [] dI st eI ok (Bp t2 ok):=λdI s=>by
   have:=C4 s dI st h8 n.aN CO (K:Int) af;rw[YO] at this;exact this
  cases ok with
  |false=>
   have hw:fk st n a=(eI,n,false):=by
    unfold fk;simp only[hpa];rw[if_neg hsa];simp only[YO]
   rw[hw];have L7:=bP.2.2 rfl;refine aO f149 ?_;dsimp only[eM];(repeat' (first|refine' aX|refine' yA|refine' KQ|refine' KZ|refine' V9|refine' ar|fail))
   all_goals try refine cI
   (refine' dV)
   .rw[show fF K0 eI=fF K0 st from L7.fF _];rw[Wa rfl];rfl
   .intro hc;cases hc
  |true=>
   by_cases hK0:K=0
   .have hw:fk st n a=(eI,{n with size:=(a:Int),aN:=t2},true):=by
     unfold fk;simp only[hpa];rw[if_neg hsa];simp only[YO];rw[if_pos af]
    rw[hw];refine aO f149 ?_;dsimp only[eM];(repeat' (first|refine' aX|refine' yA|refine' KQ|refine' KZ|refine' V9|refine' ar|fail))
    all_goals try refine cI
    (refine' dV)
    .rfl
    .intro hc;cases hc
   .have hw:fk st n a=gz eI {n with size:=(a:Int),aN:=t2} ((bA st n).take a) (K-1) (K-1):=by
     unfold fk;simp only[hpa];rw[if_neg hsa];simp only[YO];rw[if_neg af,show((K:Int)-1).toNat=K-1 by omega]
    rw[hw];have hnn:jW {n with size:=(a:Int),aN:=t2}:=⟨bP.2.1,⟨JA _,by show(a:Int)<=10000;omega⟩⟩;have dA:((bA st n).take a).length=a:=by rw[dg];omega
    have RY:∀(dI:SA) s,eP aU aW 185 [fF dI eI,nv {n with size:=(a:Int),aN:=t2},sv ((bA st n).take a),iv ((K:Int)-1),iv ((K:Int)-1)] s [] dI eI (gz eI {n with size:=(a:Int),aN:=t2} ((bA st n).take a) (K-1) (K-1)).1 true (D4 (gz eI {n with size:=(a:Int),aN:=t2} ((bA st n).take a) (K-1) (K-1)).2.1 (gz eI {n with size:=(a:Int),aN:=t2} ((bA st n).take a) (K-1) (K-1)).2.2):=λdI s=>by
     have:=Hg s dI eI (bP.1.mono af) _ hnn ((bA st n).take a) af (K-1) (K-1) af af af;rw[show((K:Int)-1)=((K-1:Nat):Int) by omega];exact this
    refine aO f149 ?_;dsimp only[eM];(repeat' (first|refine' aX|refine' yA|refine' KQ|refine' KZ|refine' V9|((with_reducible apply WO.mQ);exact aD;(first|exact λs=>RY _ s);exact eu;intro _ _ Th _ _ Ti)|refine' ar|fail))
    all_goals try refine cI
    (refine' dV)
    .rfl
    .intro hc;cases hc
end Go.Pl
namespace Go.Pl
open Go Go.Ev Go.Lg Go.Proofs
variable {st:ak}
theorem A4 {n:Nat}{u:Nde}{z:ay}{a b:Nat}(h:du n st)(hu:jW u)(hz:z.length<=1000)(hb:b<16):du (n+510) (gz st u z a b).1/\jW (gz st u z a b).2.1:=by
 unfold gz;by_cases lT:a<=b+1
 .have:=wh z (b+1-a) a n st {u with size:=z.length} h ⟨hu.tr,⟨JA _,by show(z.length:Int)<=10000;omega⟩⟩ af;exact⟨this.1.mono af,this.2⟩
 .rw[show b+1-a=0 by omega];exact⟨h.mono af,⟨hu.tr,⟨JA _,by show(z.length:Int)<=10000;omega⟩⟩⟩
theorem wj {n:Nat}{u:Nde}{z:ay}{a:Nat}(h:du n st)(hu:jW u)(ha:a+z.length<=192)(hf:(bA st u).length<=192):du (n+600) (fB st u a z).1/\jW (fB st u a z).2.1:=by
 have hov:(gg (bA st u) a z).length<=192:=by
  unfold gg hZ;simp only[bR,dg,gp,rC];omega
 unfold fB;split
 .exact⟨h.mono af,hu⟩
 .rename_i hz;have hzl:0<z.length:=oX.2 hz;have:=A4 (a:=a/ 12) (b:=(a+z.length-1)/ 12) h hu (show(gg (bA st u) a z).length<=1000 by omega) af;exact⟨this.1.mono af,this.2⟩
theorem A5 {n:Nat}{u:Nde}{a:Nat}(h:du n st)(hu:jW u)(ha:a<=192)(hf:(bA st u).length<=192):du (n+600) (fk st u a).1/\jW (fk st u a).2.1:=by
 have hp:0<=dr a 12/\dr a 12<=16:=by unfold dr;omega
 have tW:jW {u with size:=(a:Int)}:=⟨hu.tr,⟨JA _,by show(a:Int)<=10000;omega⟩⟩;unfold fk;simp only;split
 .split
  .exact⟨h.mono af,tW⟩
  .have bP:=mV (k:=(dr a 12-1).toNat) (z:=[]) h hu.tr af (by simp);rcases tV:nj st u.aN (dr a 12-1).toNat [] with⟨eI,t2,ok⟩
   rw[tV] at bP;exact⟨bP.1.mono af,tW.aN bP.2.1⟩
 .have bP:=yW (many:=dr a 12) h hu.tr hp;rcases YO:sU st u.aN (dr a 12) with⟨eI,t2,ok⟩
  rw[YO] at bP;cases ok with
  |false=>exact⟨bP.1.mono af,hu⟩
  |true=>
   simp only;have F0:jW {u with aN:=t2,size:=(a:Int)}:=⟨bP.2.1,⟨JA _,by show(a:Int)<=10000;omega⟩⟩;split
   .exact⟨bP.1.mono af,F0⟩
   .have:=A4 (a:=(dr a 12-1).toNat) (b:=(dr a 12-1).toNat) bP.1 F0 (show((bA st u).take a).length<=1000 by rw[dg];omega) af;exact⟨this.1.mono af,this.2⟩
theorem Mw (s:St)(b:Nat)(v:SA)(st:ak)(t:bX)(h:du 39000 st)(ht:dZ t)(oO:Pg.FS st t)(o:Op)(hz:o.ag.length<=90000)(hp:bf o.ag=true)(ha:0<=o.at_/\o.at_<=192)(AS:o.bh.length<=24):
  ml aU aW 98 [aP b,ov o] s b v ⟨st,t,false⟩ (Fs.change ⟨st,t,false⟩ o).1 (iv (Fs.change ⟨st,t,false⟩ o).2):=by
 have tP:du 100000 st:=h.mono af;have dR:Fs.change ⟨st,t,false⟩ o=if Fs.cZ ⟨st,t,false⟩ o.ag<0 then(⟨st,t,false⟩,2) else if(Fs.node ⟨st,t,false⟩ (Fs.cZ ⟨st,t,false⟩ o.ag)).kind≠1 then(⟨st,t,false⟩,4) else if 192<o.at_+o.bh.length then(⟨st,t,false⟩,6) else
   match(if o.kind=3 then fB st (Fs.node ⟨st,t,false⟩ (Fs.cZ ⟨st,t,false⟩ o.ag)) o.at_.toNat o.bh else fk st (Fs.node ⟨st,t,false⟩ (Fs.cZ ⟨st,t,false⟩ o.ag)) o.at_.toNat) with
   |(eI,n,ok)=>((Fs.put ⟨eI,t,!ok⟩ (Fs.cZ ⟨st,t,false⟩ o.ag) n,(0:Int)):Fs×Int):=rfl
 obtain⟨G,l0,q0,hF,hG⟩:=oO;have NX:∀s,lq s b v ⟨st,t,false⟩->bO 142 [aP b,sv o.ag] s (tp b v) (iv (Fs.cZ ⟨st,t,false⟩ o.ag)):=λs hr=>pE s b v ⟨st,t,false⟩ tP ht o.ag hz hp hr
 by_cases h1:Fs.cZ ⟨st,t,false⟩ o.ag<0
 .rw[if_pos h1] at dR;rw[dR];generalize Fs.cZ ⟨st,t,false⟩ o.ag=w at *
  refine aO f98 ?_;dsimp only[j5,eM];(repeat' (first|refine' aX|refine' tJ|refine' ar|fail))
  all_goals try exact pb
  refine mw (v':=v) bB bj aq rfl
 .rw[if_neg h1] at dR;obtain⟨k,e1,e2⟩:=Pg.ie hF h1;obtain⟨e,he⟩:=Pg.jg hG e2;have hk:k<16:=(hF.lt he).2;have Bh:Fs.node ⟨st,t,false⟩ (k:Int)=e.n:=by rw[Pg.na hF,he];rfl
  rw[e1,Bh] at dR;rw[e1] at NX;have xZ:∀s,lq s b v ⟨st,t,false⟩->bO 143 [aP b,iv k] s (tp b v) (nv e.n):=λs hr=>by rw[<-Bh];exact tc s b v ⟨st,t,false⟩ tP ht k af hr
  by_cases h2:e.n.kind≠1
  .rw[if_pos h2] at dR;rw[dR];clear h1 e1;refine aO f98 ?_;dsimp only[j5,eM];(refine' Qg)
   all_goals first|(exfalso;omega;done)|(exfalso;exact h2 (by assumption))|skip
   refine mw (v':=v) bB bj aq rfl
  .rw[if_neg h2] at dR;have h2:e.n.kind=1:=by simpa using h2
   by_cases h3:192<o.at_+(o.bh.length:Int)
   .rw[if_pos h3] at dR;rw[dR];clear h1 e1;refine aO f98 ?_;dsimp only[j5,eM];(refine' Qg)
    all_goals try refine cI
    refine mw (v':=v) bB bj aq rfl
   .rw[if_neg h3] at dR;have Ho:∃ln qn,Pg.oU st e.n ln qn:=by
     obtain⟨ln,qn,hq,hh⟩:=((hF.at_ k).some he).2;rcases hh with⟨_,hh⟩|hh
     .exact⟨ln,qn,hh⟩
     .have:=hh.kd;rw[h2] at this;cases this
    obtain⟨ln,qn,EG⟩:=Ho;have PQ:=Pg.mW EG.tr EG.sz.1 EG.mn EG.ft;have iI:=EG.sz;have xz:=EG.mn;have tW:jW e.n:=jW.of EG.ok;obtain⟨a,hta⟩:∃a:Nat,o.at_=(a:Int):=⟨o.at_.toNat,af⟩;rw[hta] at dR h3 ha;rw[tX] at dR;have hhw:=wj (n:=39000) (u:=e.n) (z:=o.bh) (a:=a) h tW af af;have hhc:=A5 (n:=39000) (u:=e.n) (a:=a) h tW af af;rw[dR];by_cases h4:o.kind=3
    .rw[if_pos h4];rcases hw:fB st e.n a o.bh with⟨eI,n2,ok⟩
     rw[hw] at hhw;have nG:∀(dI:SA) s,eP aU aW 148 [fF dI st,nv e.n,iv o.at_,sv o.bh] s [] dI st eI true (D4 n2 ok):=λdI s=>by
      have:=Mv s dI st (h.mono af) e.n tW a o.bh af af;rw[hw] at this;rw[hta];exact this
     have dK:∀(dI:SA) s,ml aU aW 138 [aP b,iv k,nv n2] s b dI ⟨eI,t,!ok⟩ (Fs.put ⟨eI,t,!ok⟩ k n2) (.tuple ⟨[]⟩):=λdI s=>si s b dI ⟨eI,t,!ok⟩ (hhw.1.mono af) ht k hk _
     refine' zaS
     clear h1 e1 hhw hhc hw EG xz;refine aO f98 ?_;dsimp only[j5,eM];(repeat' (first|refine' aX|refine' tJ|refine' yB|((with_reducible apply WO.mQ);exact aD;(first|exact λs=>nG _ s);exact eu;intro _ _ v_l13WriteW _ _ k_l13WriteW)|refine' GF|refine' ar|fail))
     all_goals try refine cI
     all_goals refine mw (v':=ph) bB bj aq rfl
    .rw[if_neg h4];rcases hw:fk st e.n a with⟨eI,n2,ok⟩
     rw[hw] at hhc;have nG:∀(dI:SA) s,eP aU aW 149 [fF dI st,nv e.n,iv o.at_] s [] dI st eI true (D4 n2 ok):=λdI s=>by
      have:=Tj s dI st (h.mono af) e.n tW a af af af xz;rw[hw] at this;rw[hta];exact this
     have dK:∀(dI:SA) s,ml aU aW 138 [aP b,iv k,nv n2] s b dI ⟨eI,t,!ok⟩ (Fs.put ⟨eI,t,!ok⟩ k n2) (.tuple ⟨[]⟩):=λdI s=>si s b dI ⟨eI,t,!ok⟩ (hhc.1.mono af) ht k hk _
     refine' zaS
     clear h1 e1 hhw hhc hw EG xz;refine aO f98 ?_;dsimp only[j5,eM];(repeat' (first|refine' aX|refine' tJ|refine' yB|((with_reducible apply WO.mQ);exact aD;(first|exact λs=>nG _ s);exact eu;intro _ _ v_l13CutW _ _ k_l13CutW)|refine' GF|refine' ar|fail))
     all_goals try refine cI
     all_goals refine mw (v':=ph) bB bj aq rfl
end Go.Pl
namespace Go.Pl
variable {st:ak}{t:bX}{o:Op}{to:ay}
theorem Mx {n:Nat}(h:du n st)(ht:dZ t)(oO:Pg.FS st t){z:ay}(hp:bf z=true)(kind:Int):su (n+1730) (Fs.make ⟨st,t,false⟩ z kind).1:=by
 have h0:su (n+1730) ⟨st,t,false⟩:=⟨h.mono af,ht⟩;have mc:Fs.make ⟨st,t,false⟩ z kind=if 0<(Fs.bD ⟨st,t,false⟩ z).2 then(⟨st,t,false⟩,(Fs.bD ⟨st,t,false⟩ z).2) else
   match uq st t with
   |none=>(⟨st,t,false⟩,6)
   |some id=>if 12<=(Fs.bF ⟨st,t,false⟩ (Fs.bD ⟨st,t,false⟩ z).1).length then(⟨st,t,false⟩,6) else((Fs.aZ (Fs.put ⟨st,t,false⟩ id ⟨kind,1,0,eX⟩) (Fs.bD ⟨st,t,false⟩ z).1 (gu (Fs.bF ⟨st,t,false⟩ (Fs.bD ⟨st,t,false⟩ z).1) ⟨Fs.base z,id⟩)),0):=rfl
 obtain⟨G,l0,q0,hF,hG⟩:=oO;rw[mc];by_cases hc:0<(Fs.bD ⟨st,t,false⟩ z).2
 .rw[if_pos hc];exact h0
 .rw[if_neg hc];obtain⟨at_,e,e1,e2,e3,e4,e5,e6,e7⟩:=Pg.sr hF hp hc;have n4:at_<16:=(hF.lt e4).2;rw[e1];cases hid:uq st t with
  |none=>exact h0
  |some id=>
   obtain⟨hid16,_⟩:=Pg.D8 hF hid;simp only;split
   .exact h0
   .exact(su.aZ (su.put (n:=n) ⟨h,ht⟩ af _) af _).mono af
theorem OU {n:Nat}(h:du n st)(ht:dZ t)(oO:Pg.FS st t)(ha:0<=o.at_/\o.at_<=192):su (n+1730) (Fs.change ⟨st,t,false⟩ o).1:=by
 have h0:su (n+1730) ⟨st,t,false⟩:=⟨h.mono af,ht⟩;have dR:Fs.change ⟨st,t,false⟩ o=if Fs.cZ ⟨st,t,false⟩ o.ag<0 then(⟨st,t,false⟩,2) else if(Fs.node ⟨st,t,false⟩ (Fs.cZ ⟨st,t,false⟩ o.ag)).kind≠1 then(⟨st,t,false⟩,4) else if 192<o.at_+o.bh.length then(⟨st,t,false⟩,6) else
   match(if o.kind=3 then fB st (Fs.node ⟨st,t,false⟩ (Fs.cZ ⟨st,t,false⟩ o.ag)) o.at_.toNat o.bh else fk st (Fs.node ⟨st,t,false⟩ (Fs.cZ ⟨st,t,false⟩ o.ag)) o.at_.toNat) with
   |(eI,n,ok)=>((Fs.put ⟨eI,t,!ok⟩ (Fs.cZ ⟨st,t,false⟩ o.ag) n,(0:Int)):Fs×Int):=rfl
 obtain⟨G,l0,q0,hF,hG⟩:=oO;rw[dR];by_cases h1:Fs.cZ ⟨st,t,false⟩ o.ag<0
 .rw[if_pos h1];exact h0
 rw[if_neg h1];obtain⟨k,e1,e2⟩:=Pg.ie hF h1;obtain⟨e,he⟩:=Pg.jg hG e2;have hk:k<16:=(hF.lt he).2;have Bh:Fs.node ⟨st,t,false⟩ (k:Int)=e.n:=by rw[Pg.na hF,he];rfl
 rw[e1,Bh];by_cases h2:e.n.kind≠1
 .rw[if_pos h2];exact h0
 rw[if_neg h2];have h2:e.n.kind=1:=by simpa using h2
 by_cases h3:192<o.at_+(o.bh.length:Int)
 .rw[if_pos h3];exact h0
 rw[if_neg h3];have Ho:∃ln qn,Pg.oU st e.n ln qn:=by
  obtain⟨ln,qn,hq,hh⟩:=((hF.at_ k).some he).2;rcases hh with⟨_,hh⟩|hh
  .exact⟨ln,qn,hh⟩
  .have:=hh.kd;rw[h2] at this;cases this
 obtain⟨ln,qn,EG⟩:=Ho;have PQ:=Pg.mW EG.tr EG.sz.1 EG.mn EG.ft;have iI:=EG.sz;have tW:jW e.n:=jW.of EG.ok;have hhw:=wj (n:=n) (u:=e.n) (z:=o.bh) (a:=o.at_.toNat) h tW af af;have hhc:=A5 (n:=n) (u:=e.n) (a:=o.at_.toNat) h tW af af;split;rename_i eI n2 ok heq;have hst2:du (n+600) eI:=by
  by_cases h4:o.kind=3
  .rw[if_pos h4] at heq;rw[heq] at hhw;exact hhw.1
  .rw[if_neg h4] at heq;rw[heq] at hhc;exact hhc.1
 exact(su.put (f:=⟨eI,t,!ok⟩) ⟨hst2,ht⟩ af _).mono af
theorem XP {n:Nat}(h:du n st)(hn:n<=80000)(ht:dZ t)(oO:Pg.FS st t){z:ay}(hp:bf z=true):su (n+1730) (Fs.pR ⟨st,t,false⟩ z).1:=by
 have h0:su (n+1730) ⟨st,t,false⟩:=⟨h.mono af,ht⟩;have dR:Fs.pR ⟨st,t,false⟩ z=if Fs.cZ ⟨st,t,false⟩ z<0 then(⟨st,t,false⟩,2) else if Fs.cZ ⟨st,t,false⟩ z=0\/((Fs.node ⟨st,t,false⟩ (Fs.cZ ⟨st,t,false⟩ z)).kind=2/\0<(Fs.node ⟨st,t,false⟩ (Fs.cZ ⟨st,t,false⟩ z)).size) then(⟨st,t,false⟩,5) else
   (let f1:=Fs.aZ ⟨st,t,false⟩ (Fs.bL ⟨st,t,false⟩ z).1 (er (Fs.bF ⟨st,t,false⟩ (Fs.bL ⟨st,t,false⟩ z).1) ((ey (Fs.bF ⟨st,t,false⟩ (Fs.bL ⟨st,t,false⟩ z).1) (Fs.base z)).getD 0))
    let n1:Nde:={Fs.node ⟨st,t,false⟩ (Fs.cZ ⟨st,t,false⟩ z) with bE:=(Fs.node ⟨st,t,false⟩ (Fs.cZ ⟨st,t,false⟩ z)).bE-1}
    if 0<n1.bE then(f1.put (Fs.cZ ⟨st,t,false⟩ z) n1,0) else if f1.cK then(f1,0) else match dX f1.st f1.t (Fs.cZ ⟨st,t,false⟩ z) with
     |(eI,t2,ok)=>((⟨eI,t2,!ok⟩,0):Fs×Int)):=rfl
 obtain⟨G,l0,q0,hF,hG⟩:=oO;rw[dR];by_cases h1:Fs.cZ ⟨st,t,false⟩ z<0
 .rw[if_pos h1];exact h0
 rw[if_neg h1];obtain⟨k,e1,e2⟩:=Pg.ie hF h1;obtain⟨ei,qA⟩:=Pg.jg hG e2;have hk:k<16:=(hF.lt qA).2;have Bh:Fs.node ⟨st,t,false⟩ (k:Int)=ei.n:=by rw[Pg.na hF,qA];rfl
 rw[e1,Bh];by_cases h2:(k:Int)=0\/(ei.n.kind=2/\0<ei.n.size)
 .rw[if_pos h2];exact h0
 rw[if_neg h2];have UJ:k≠0:=λhc=>h2 (.inl af)
 obtain⟨at_,e,i,p1,p2,p3,p4,p5,p6,p7,p8⟩:=Pg.ss hF hG e2 UJ;have jq:Fs.bF ⟨st,t,false⟩ (at_:Int)=e.es:=Pg.lO hF false p3 p4;have sP:bz e.es=true:=by have:=Pg.po hG.wf at_;rwa [Pg.dU p3] at this
 have y8:=Pg.I2 sP (Pg.jf e.es i);have OS:at_<16:=(hF.lt p3).2;have H5:Pg.bF G k=[]:=by
  rw[Pg.dU qA];obtain⟨ln,qn,hq,⟨h0,_⟩|hd⟩:=((hF.at_ k).some qA).2
  .exact h0
  .have iI:=hd.sz;have UG:=hd.kd;by_cases hc:ei.es=[]
   .exact hc
   .have h3:=(Pg.lJ hd.eo).2 hc;exact absurd (.inr ⟨UG,af⟩) h2
 refine' za6
 rw[p1];simp only;rw[jq,p5,pH];have BB:su (n+630) (Fs.aZ ⟨st,t,false⟩ at_ (er e.es i)):=su.aZ (n:=n) ⟨h,ht⟩ af _;split
 .exact(su.put BB af _).mono af
 split
 .exact BB.mono af
 .rename_i hf;have hf:(Fs.aZ ⟨st,t,false⟩ at_ (er e.es i)).cK=false:=by simpa using hf
  obtain⟨e',l1,q1,xA,g1,g2,g3⟩:=Pg.oG hF p3 p4 y8 hf;obtain⟨o,ho,J7,mg⟩:=xA.all (k:=k) (e:=ei) (by rw[Pg.fM _ _ (λh=>n4 h.symm)];exact qA);have:=Tf BB.st af BB.t hk ho J7 mg;rcases oK:dX (Fs.aZ ⟨st,t,false⟩ at_ (er e.es i)).st (Fs.aZ ⟨st,t,false⟩ at_ (er e.es i)).t k with⟨eI,t2,ok⟩
  rw[oK] at this;exact⟨this.1.mono af,this.2⟩
theorem XQ {n:Nat}(h:du n st)(ht:dZ t)(oO:Pg.FS st t){z to:ay}(tV:bf to=true):su (n+1730) (Fs.link ⟨st,t,false⟩ z to).1:=by
 have h0:su (n+1730) ⟨st,t,false⟩:=⟨h.mono af,ht⟩;have mc:Fs.link ⟨st,t,false⟩ z to=if Fs.cZ ⟨st,t,false⟩ z<0 then(⟨st,t,false⟩,2) else if(Fs.node ⟨st,t,false⟩ (Fs.cZ ⟨st,t,false⟩ z)).kind≠1 then(⟨st,t,false⟩,4) else if 0<(Fs.bD ⟨st,t,false⟩ to).2 then(⟨st,t,false⟩,(Fs.bD ⟨st,t,false⟩ to).2) else
   if 9<=(Fs.node ⟨st,t,false⟩ (Fs.cZ ⟨st,t,false⟩ z)).bE\/12<=(Fs.bF ⟨st,t,false⟩ (Fs.bD ⟨st,t,false⟩ to).1).length then(⟨st,t,false⟩,6) else
   ((Fs.aZ (Fs.put ⟨st,t,false⟩ (Fs.cZ ⟨st,t,false⟩ z) {Fs.node ⟨st,t,false⟩ (Fs.cZ ⟨st,t,false⟩ z) with bE:=(Fs.node ⟨st,t,false⟩ (Fs.cZ ⟨st,t,false⟩ z)).bE+1}) (Fs.bD ⟨st,t,false⟩ to).1 (gu (Fs.bF ⟨st,t,false⟩ (Fs.bD ⟨st,t,false⟩ to).1) ⟨Fs.base to,Fs.cZ ⟨st,t,false⟩ z⟩)),0):=rfl
 obtain⟨G,l0,q0,hF,hG⟩:=oO;rw[mc];by_cases h1:Fs.cZ ⟨st,t,false⟩ z<0
 .rw[if_pos h1];exact h0
 rw[if_neg h1];obtain⟨k,e1,e2⟩:=Pg.ie hF h1;obtain⟨ei,qA⟩:=Pg.jg hG e2;have hk:k<16:=(hF.lt qA).2;rw[e1];split
 .exact h0
 by_cases hc:0<(Fs.bD ⟨st,t,false⟩ to).2
 .rw[if_pos hc];exact h0
 rw[if_neg hc];obtain⟨at_,e,f1,f2,f3,f4,f5,f6,f7⟩:=Pg.sr hF tV hc;have n4:at_<16:=(hF.lt f4).2;rw[f1];split
 .exact h0
 .exact(su.aZ (su.put (n:=n) ⟨h,ht⟩ af _) af _).mono af
theorem XR {n:Nat}(h:du n st)(ht:dZ t)(oO:Pg.FS st t){z to:ay}(hp:bf z=true)(tV:bf to=true):su (n+1730) (Fs.move ⟨st,t,false⟩ z to).1:=by
 have h0:su (n+1730) ⟨st,t,false⟩:=⟨h.mono af,ht⟩;have mc:Fs.move ⟨st,t,false⟩ z to=if Fs.cZ ⟨st,t,false⟩ z<0 then(⟨st,t,false⟩,2) else if Fs.cZ ⟨st,t,false⟩ z=0 then(⟨st,t,false⟩,5) else if 0<=Fs.cZ ⟨st,t,false⟩ to then(⟨st,t,false⟩,3) else if under to z=true then(⟨st,t,false⟩,5) else
   if 0<(Fs.bL ⟨st,t,false⟩ to).2 then(⟨st,t,false⟩,(Fs.bL ⟨st,t,false⟩ to).2) else
   if(Fs.bL ⟨st,t,false⟩ to).1≠(Fs.bL ⟨st,t,false⟩ z).1/\12<=(Fs.bF ⟨st,t,false⟩ (Fs.bL ⟨st,t,false⟩ to).1).length then(⟨st,t,false⟩,6) else
   if(Fs.bL ⟨st,t,false⟩ to).1=(Fs.bL ⟨st,t,false⟩ z).1 then(Fs.aZ ⟨st,t,false⟩ (Fs.bL ⟨st,t,false⟩ to).1 (gu (er (Fs.bF ⟨st,t,false⟩ (Fs.bL ⟨st,t,false⟩ z).1) ((ey (Fs.bF ⟨st,t,false⟩ (Fs.bL ⟨st,t,false⟩ z).1) (Fs.base z)).getD 0)) ⟨Fs.base to,Fs.cZ ⟨st,t,false⟩ z⟩),0) else
   (Fs.aZ (Fs.aZ ⟨st,t,false⟩ (Fs.bL ⟨st,t,false⟩ z).1 (er (Fs.bF ⟨st,t,false⟩ (Fs.bL ⟨st,t,false⟩ z).1) ((ey (Fs.bF ⟨st,t,false⟩ (Fs.bL ⟨st,t,false⟩ z).1) (Fs.base z)).getD 0))) (Fs.bL ⟨st,t,false⟩ to).1 (gu (Fs.bF (Fs.aZ ⟨st,t,false⟩ (Fs.bL ⟨st,t,false⟩ z).1 (er (Fs.bF ⟨st,t,false⟩ (Fs.bL ⟨st,t,false⟩ z).1) ((ey (Fs.bF ⟨st,t,false⟩ (Fs.bL ⟨st,t,false⟩ z).1) (Fs.base z)).getD 0))) (Fs.bL ⟨st,t,false⟩ to).1) ⟨Fs.base to,Fs.cZ ⟨st,t,false⟩ z⟩),0):=rfl
 obtain⟨G,l0,q0,hF,hG⟩:=oO;rw[mc];by_cases h1:Fs.cZ ⟨st,t,false⟩ z<0
 .rw[if_pos h1];exact h0
 rw[if_neg h1];obtain⟨k,e1,e2⟩:=Pg.ie hF h1;by_cases UJ:k=0
 .rw[e1,if_pos af];exact h0
 rw[e1,if_neg af];split
 .exact h0
 split
 .exact h0
 by_cases h5:0<(Fs.bL ⟨st,t,false⟩ to).2
 .rw[if_pos h5];exact h0
 rw[if_neg h5];obtain⟨at_,e,a1,a2,a3,a4,a5⟩:=Pg.y7 hF h5;obtain⟨fr,ef,i,p1,p2,p3,p4,p5,p6,p7,p8⟩:=Pg.ss hF hG e2 UJ;have OS:at_<16:=(hF.lt a4).2;have hfrl:fr<16:=(hF.lt p3).2;rw[a1,p1];simp only;by_cases h6:(at_:Int)≠fr/\12<=(Fs.bF ⟨st,t,false⟩ (at_:Int)).length
 .rw[if_pos h6];exact h0
 rw[if_neg h6];have MX:∀(k:Nat) l,k<16->su (n+630) (Fs.aZ ⟨st,t,false⟩ (k:Int) l):=λk l hk=>su.aZ (n:=n) (f:=⟨st,t,false⟩) ⟨h,ht⟩ af l
 by_cases h7:(at_:Int)=fr
 .rw[if_pos h7];dsimp only;exact(MX at_ _ OS).mono af
 .rw[if_neg h7];dsimp only;exact(su.aZ (MX fr _ hfrl) (k:=(at_:Int)) af _).mono af
theorem Eh {n:Nat}(h:du n st)(hn:n<=80000)(ht:dZ t)(oO:Pg.FS st t)(ho:iJ o=true):du (n+1730) (eS st t o).1/\dZ (eS st t o).2.1:=by
 obtain⟨o1,o2,o3,o4⟩:=Pg.Af ho;unfold eS;simp only;have key:∀r:Fs×Int,su (n+1730) r.1->du (n+1730) (if(if r.2=0/\r.1.cK=true then 7 else r.2)≠0 then(st,t,(if r.2=0/\r.1.cK=true then 7 else r.2)) else(r.1.st,r.1.t,(if r.2=0/\r.1.cK=true then 7 else r.2))).1/\dZ (if(if r.2=0/\r.1.cK=true then 7 else r.2)≠0 then(st,t,(if r.2=0/\r.1.cK=true then 7 else r.2)) else(r.1.st,r.1.t,(if r.2=0/\r.1.cK=true then 7 else r.2))).2.1:=λr hr=>by
  generalize(if r.2=0/\r.1.cK=true then(7:Int) else r.2)=c;split
  .exact⟨h.mono af,ht⟩
  .exact⟨hr.st,hr.t⟩
 refine key _ ?_;split
 .exact Mx h ht oO o1 1
 split
 .exact Mx h ht oO o1 2
 split
 .exact XP h hn ht oO o1
 split
 .rename_i hk;exact XQ h ht oO (o2 (.inl hk))
 split
 .rename_i hk;exact XR h ht oO o1 (o2 (.inr hk))
 .exact OU h ht oO ⟨o3,o4⟩
end Go.Pl
namespace Go.Pl
open Go Go.Ev Go.Lg Go.Proofs
structure uW (s:St)(a:aH)(code:ay):Prop where
 lt:∀b∈ai a,b<s.next
 row:0<code.length->∃b o m c,a=some ⟨b,o,none⟩/\s.heap.get b=some (.xL m c)/\m<=o/\∀i,i<code.length->c[o-m+i]?=some (bv (code.getD i c9.lW))
structure s9 (Γ:gY)(a:aH)(code:ay):Prop where
 r0:uW Γ.s0 a code
 A:∀b∈ai a,b∈Γ.A
 M:∀b∈ai a,b∉Γ.M
abbrev XS (n c:Nat):Prop:=n<=c/\c<eL
abbrev SubC (a:aH)(code:ay)(a2:aH)(qj:ay):Prop:=a2=a/\∃k,qj=code.take k
section
variable {E:dy}{X:dM}{Γ:gY}{s:St}{l:Kn}{L R Lm:bn}{K:KO}{x y:Operand}{t:TypeId}{a:aH}{c i:Nat}{k:IntKind}{u:Int}{code:ay}
theorem s9.of {A:List Nat}(h:uW s a code)(hA:∀b∈ai a,b∈A):s9 ⟨s,([]:bn).flatMap It.aS,A⟩ a code:=⟨h,hA,λ_ _ h=>by cases h⟩
theorem s9.row (h:s9 Γ a code)(hi:Inv Γ s L):uW s a code/\∀b∈ai a,EF Γ s b:=by
 have hle:=hi.le;refine⟨⟨λb hb=>by have:=h.r0.lt b hb;omega,λh0=>?_⟩,λb hb=>⟨by have:=h.r0.lt b hb;omega,.inl (h.A b hb)⟩⟩;obtain⟨b,o,m,c,rfl,h1,h2,h3⟩:=h.r0.row h0;exact⟨b,o,m,c,rfl,by rw[hi.fr b (h.r0.lt b (by simp[ai])) (h.M b (by simp[ai]))];exact h1,h2,h3⟩
theorem s9.apart (h:s9 Γ a code)(hi:Inv Γ s (Lm++R)):∀b∈ai a,b∉Lm.flatMap It.aS:=λb hb hm=>by
 obtain⟨x,hx,hxb⟩:=oW.1 hm;have h2:=h.r0.lt b hb;rcases(hi.lt x (di _ hx) b hxb).2 with h1|h1
 .omega
 .exact h.M b hb h1
theorem s9.sub {a2:aH}{qj:ay}(h:s9 Γ a code)(hs:SubC a code a2 qj):s9 Γ a2 qj:=by
 obtain⟨rfl,k,rfl⟩:=hs;refine⟨⟨h.r0.lt,λh0=>?_⟩,h.A,h.M⟩;rw[dg] at h0;obtain⟨b,o,m,c,h1,h2,h3,h4⟩:=h.r0.row af;refine⟨b,o,m,c,h1,h2,h3,λi hi=>?_⟩;rw[dg] at hi;rw[h4 i af,aY,aY,Jy,if_pos af]
theorem WO.wQ {e:Nat}[ht:o9 E t e 1](hx:Ev l x (.slice a code.length c))(hy:Ev l y (.int k u))(hd:s9 Γ a code)(hi:0<=u/\u<code.length)(hk:∀n,K (da a u.toNat 1 0) L n n Z Z):WO E X Γ l (.indexAddr t x y) L K:=λtm s h1 h2=>by
 obtain⟨b,o,m,cc,rfl,_⟩:=hd.r0.row af;obtain⟨hu,z1,z2,hz,hz2,_⟩:=ht.h;have Be:=nM hy hi.1;refine fS.pure (v:=da (some ⟨b,o,none⟩) u.toNat 1 0) (s':=s) (λcall=>?_) ⟨L,Z,Z,h2,kx.id,hk _⟩;show nD E s t (aI tm x) (aI tm y)=_;rw[hx.eval h1,Be.eval h1];unfold nD;rw[hu];show eb (Nat.ble (Nat.succ u.toNat) code.length) (ob (size E e) λsz=>aG (.pointer (some ⟨b,Nat.add o (Nat.mul u.toNat sz),none⟩)) s)=_;have hs:size E e=some 1:=by unfold size;rw[hz];simp[hz2]
 rw[gR af,hs];rfl
theorem WO.loadC [ht:ny E t](hx:Ev l x (da a i 1 0))(hd:s9 Γ a code)(hi:i<code.length)(k:∀n,K (bv (code.getD i c9.lW)) L n n (λi=>i∈ai a) Z):WO E X Γ l (.load t x) L K:=λtm s h1 h2=>by
 obtain⟨hr,hm⟩:=hd.row h2;obtain⟨b,o,m,c,rfl,h3,h4,h5⟩:=hr.row af;have hb:=(hm b (by simp[ai]));refine fS.pure (v:=bv (code.getD i c9.lW)) (s':=s.aR b) (λcall=>?_) ⟨L,(λi=>i∈ai (some ⟨b,o,none⟩)),Z,h2.aR hb,cW hb.1 (by simp[ai]),by rw[cw];exact k _⟩;show(Ez (aI tm x) λb o=>l6 E s t b o)=_;rw[hx.eval h1];show l6 E s t b (o+(i*1+0))=_;obtain⟨d,g1,g2⟩:=ht.h;unfold l6 St.JQ St.look;rw[h3];simp only[cq];rw[gR (show m<=o+(i*1+0) by omega)];show ob (iQ E t) _=_;rw[g1];show bo (zy d) _ _=_;rw[g2];show ob (iR c (o+(i*1+0)-m)) _=_;rw[dQ,show o+(i*1+0)-m=o-m+i by omega,h5 i hi];rfl
theorem WO.cutC {e:Nat}{enc:c9 UInt8 1}[ht:TT E t e 1 UInt8 enc](hx:Ev l x (.slice a code.length c))(ho:Ev l y (.int k u))(hd:s9 Γ a code)(hv:XS code.length c)(hj:0<u/\u<=(code.length:Int))
  (h:∀m c',K (.slice a (code.take u.toNat).length c') L m m Z Z):WO E X Γ l (.slice t x none (some y) none) L K:=λtm s hl hi=>by
 have hb:=PX (n:=code.length) ho ⟨af,hj.2⟩;obtain⟨b,o,m,cc,rfl,_⟩:=hd.r0.row af;obtain⟨z,hr,_⟩:=ht.h;obtain⟨hu,ii,z1,Jq,tG,_⟩:=hr.h;have iI:size E e=some 1:=by unfold size;rw[Jq];simp[tG]
 refine fS.pure (v:=.slice (some ⟨b,o,none⟩) (code.take u.toNat).length (c-0)) (s':=s) (λcall=>?_) ⟨L,Z,Z,hi,kx.id,h _ _⟩;show j7 E s t (aI tm x) (dz (aI tm) none) (dz (aI tm) (some y)) none=_;rw[hx.eval hl];unfold j7;rw[hu];show(ob (size E e) λsz=>bo (Nat.ble eL c) _ (ob (ej sz (some ⟨b,o,none⟩) code.length c (dz (aI tm) none) (dz (aI tm) (some y)) none) λv=>aG v s))=_;rw[iI];show bo (Nat.ble eL c) _ (ob (ej 1 (some ⟨b,o,none⟩) code.length c (dz (aI tm) none) (dz (aI tm) (some y)) none) λv=>aG v s)=_;rw[show Nat.ble eL c=false from by rw[<-jJ,oc];have:=hv.2;omega];show ob (ej 1 (some ⟨b,o,none⟩) code.length c (dz (aI tm) none) (dz (aI tm) (some y)) none) (λv=>aG v s)=_;unfold ej;rw[py hb hl hv.1];have hc:Nat.beq c 0=false:=by
  cases hc:Nat.beq c 0 with
  |false=>rfl
  |true=>have:=oM hc;have:=hv.1;omega
 show aG (.slice (bo (Nat.beq c 0) (some ⟨b,o,none⟩) (some ⟨b,o,none⟩)) (u.toNat-0) (c-0)) s=_;rw[hc,dg,Ba af];rfl
theorem s9.lt (h:s9 Γ a code):∀b∈ai a,b<Γ.s0.next:=h.r0.lt
end
end Go.Pl
