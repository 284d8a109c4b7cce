/- Lemmas of the proof. No conditions. -/
import Derived.Test.YtajgfdfbnhchcaaGreatDoorBe1
set_option maxRecDepth 100000
set_option maxHeartbeats 4000000
set_option linter.unusedVariables false
set_option linter.unusedSimpArgs false
open Go.Proofs.Tryz
namespace Go.Pl
open Go Go.Ev Go.Lg Go.Proofs
variable {l:Kn}{L R:bZ}{v:SA}{f:Fs}{b:Nat}{r:Value}{st:au}{a:aM}{p:List a7}{i:Nat}
theorem UH (s:St)(b:Nat)(v:SA)(st:au)(t:cB)(h:dA 40000 st)(ht:ek t)(pr:Pg.FS st t)(z:az)(hz:z.length<=90000)(hp:aP z=true):
  mJ bh bw 114 [bg b,sv z] s b v ⟨st,t,false⟩ (Fs.qz ⟨st,t,false⟩ z).1 (iv (Fs.qz ⟨st,t,false⟩ z).2):=by
 have tz:dA 100000 st:=h.mono ag;have dS:Fs.qz ⟨st,t,false⟩ z=if Fs.di ⟨st,t,false⟩ z<0 then(⟨st,t,false⟩,2) else if Fs.di ⟨st,t,false⟩ z=0\/((Fs.node ⟨st,t,false⟩ (Fs.di ⟨st,t,false⟩ z)).kind=2/\0<(Fs.node ⟨st,t,false⟩ (Fs.di ⟨st,t,false⟩ z)).size) then(⟨st,t,false⟩,5) else
   (let f1:=Fs.bk ⟨st,t,false⟩ (Fs.bU ⟨st,t,false⟩ z).1 (eA (Fs.bM ⟨st,t,false⟩ (Fs.bU ⟨st,t,false⟩ z).1) ((eE (Fs.bM ⟨st,t,false⟩ (Fs.bU ⟨st,t,false⟩ z).1) (Fs.base z)).getD 0))
    let n1:iM:={Fs.node ⟨st,t,false⟩ (Fs.di ⟨st,t,false⟩ z) with bK:=(Fs.node ⟨st,t,false⟩ (Fs.di ⟨st,t,false⟩ z)).bK-1}
    if 0<n1.bK then(f1.put (Fs.di ⟨st,t,false⟩ z) n1,0) else if f1.cJ then(f1,0) else match eb f1.st f1.t (Fs.di ⟨st,t,false⟩ z) with
     |(eN,t2,ok)=>((⟨eN,t2,!ok⟩,0):Fs×Int)):=rfl
 obtain⟨G,l0,q0,hF,hG⟩:=pr;have Xy:∀s,lN s b v ⟨st,t,false⟩->bF 161 [bg b,sv z] s (ub b v) (iv (Fs.di ⟨st,t,false⟩ z)):=λs hr=>qg s b v ⟨st,t,false⟩ tz ht z hz hp hr
 by_cases h1:Fs.di ⟨st,t,false⟩ z<0
 .rw[if_pos h1] at dS;rw[dS];generalize Fs.di ⟨st,t,false⟩ z=w at *
  refine aT f114 ?_;dsimp only[ko,eQ];repeat' (first|refine' aW|refine' uv|refine' av|fail)
  all_goals try exact pJ
  refine mR (v':=v) bG bu ar rfl
 .rw[if_neg h1] at dS;obtain⟨k,e1,e2⟩:=Pg.iF hF h1;obtain⟨ei,re⟩:=Pg.jy hG e2;have hk:k<16:=(hF.lt re).2;have Ch:Fs.node ⟨st,t,false⟩ (k:Int)=ei.n:=by rw[Pg.ny hF,re];rfl
  rw[e1,Ch] at dS;rw[e1] at Xy;have nN:∀s,lN s b v ⟨st,t,false⟩->bF 162 [bg b,iv k] s (ub b v) (nv ei.n):=λs hr=>by rw[<-Ch];exact tT s b v ⟨st,t,false⟩ tz ht k ag hr
  by_cases h2:(k:Int)=0\/(ei.n.kind=2/\0<ei.n.size)
  .rw[if_pos h2] at dS;rw[dS];clear h1 e1;refine aT f114 ?_;dsimp only[ko,eQ];refine' RD
   (all_goals try exact pJ);all_goals refine mR (v':=v) bG bu ar rfl
  .rw[if_neg h2] at dS;have SZ:k≠0:=λhc=>h2 (.inl ag)
   obtain⟨at_,e,i,p1,p2,p3,p4,p5,p6,p7,p8⟩:=Pg.sX hF hG e2 SZ;have jJ:Fs.bM ⟨st,t,false⟩ (at_:Int)=e.es:=Pg.mb hF false p3 p4;have tE:bD e.es=true:=by have:=Pg.pV hG.wf at_;rwa [Pg.dV p3] at this
   have zZ:=Pg.Kb tE (Pg.jx e.es i);have Qp:at_<16:=(hF.lt p3).2;rw[p1] at dS;simp only at dS;rw[jJ,p5,qj] at dS;obtain⟨ajw,heb⟩:=Zf tE;obtain⟨anE,amg⟩:=Zf zZ;have Je:Pg.bM G k=[]:=by
    rw[Pg.dV re];obtain⟨ln,qn,hq,⟨h0,_⟩|hd⟩:=((hF.at_ k).some re).2
    .exact h0
    .have jd:=hd.sz;have V5:=hd.kd;have:ei.es=[]:=by
      by_cases hc:ei.es=[]
      .exact hc
      .have h3:=(Pg.l6 hd.eo).2 hc;exact absurd (.inr ⟨V5,ag⟩) h2
     exact this
   refine' zbf
   have rS:∀s,lN s b v ⟨st,t,false⟩->bF 163 [bg b,sv z] s (ub b v) (.tuple ⟨[iv at_,iv 0]⟩):=λs hr=>by
    have:=uc s b v ⟨st,t,false⟩ tz ht z hz hp hr;rwa [p1] at this
   have Wu:∀s,lN s b v ⟨st,t,false⟩->eU bh bw 156 [bg b,iv at_] s (ub b v) 200 e.es:=λs hr=>by
    refine' zbe
   have ah7:∀a c s,bH s a e.es.length 2 (ai e.es)->bF 165 [.slice a e.es.length c,sv (Fs.base z)] s (aj a) (iv i):=λa c s hr=>by
    have:=Ea s a c e.es (Fs.base z) ag hr;unfold X9 at this;rw[p5] at this;exact this
   have ah8:∀a c s,bH s a e.es.length 2 (ai e.es)->w9 s a e.es.length c 200 2->eU bh bw 164 [.slice a e.es.length c,iv i] s (aj a) 200 (eA e.es i):=λa c s hr hv=>Ep s a c e.es i ag p6 hr hv
   have nY:∀dL a c s,bH s a (eA e.es i).length 2 (ai (eA e.es i))->(∀j∈aj a,j∉(ko b dL ⟨st,t,false⟩).flatMap It.a8)->BH 158 [bg b,iv at_,.slice a (eA e.es i).length c] s (ko b dL ⟨st,t,false⟩) (aj a) λR L=>∃v':SA,R= .tuple ⟨[]⟩/\L=ko b v' (Fs.bk ⟨st,t,false⟩ at_ (eA e.es i)):=λdL a c s hr hm=>
    oA s b dL ⟨st,t,false⟩ ⟨h.mono ag,ht⟩ at_ Qp a c (eA e.es i) ag amg hr hm
   have Cz:sY 40630 (Fs.bk ⟨st,t,false⟩ at_ (eA e.es i)):=sY.bk (n:=40000) ⟨h,ht⟩ ag _;have je:(Fs.bk ⟨st,t,false⟩ at_ (eA e.es i)).cJ=false->∃o,qw 200 (Fs.bk ⟨st,t,false⟩ at_ (eA e.es i)).st [((jr (Fs.bk ⟨st,t,false⟩ at_ (eA e.es i)).st (Fs.bk ⟨st,t,false⟩ at_ (eA e.es i)).t k).getD bB).aX.cI] []=some o/\o.length<=1000/\∀p∈o,bC p=true:=λhf=>by
    obtain⟨e',l1,q1,yB,g1,g2,g3⟩:=Pg.pd hF p3 p4 zZ hf;exact yB.all (k:=k) (e:=ei) (by rw[Pg.fP _ _ (λh=>nJ h.symm)];exact re)
   generalize YT:Fs.bk ⟨st,t,false⟩ at_ (eA e.es i)=f1 at *
   obtain⟨st1,t1,z6⟩:=f1;have hs2:=Cz.st;have ht2:=Cz.t;simp only at hs2 ht2 je dS;have dM:∀(dL:SA) s,mJ bh bw 157 [bg b,iv k,nv {ei.n with bK:=ei.n.bK-1}] s b dL ⟨st1,t1,z6⟩ (Fs.put ⟨st1,t1,z6⟩ k {ei.n with bK:=ei.n.bK-1}) (.tuple ⟨[]⟩):=λdL s=>sS s b dL ⟨st1,t1,z6⟩ (hs2.mono ag) ht2 k hk _
   have MK: -1000<=ei.n.bK/\ei.n.bK<=1000:=by
    have:=Pg.lh ((hF.at_ k).some re).2.ok;omega
   generalize hfp:Fs.put ⟨st1,t1,z6⟩ k {ei.n with bK:=ei.n.bK-1}=f2 at *
   clear h1 e1 YT hfp;by_cases hl:0<ei.n.bK-1
   .rw[if_pos hl] at dS;rw[dS];refine aT f114 ?_;dsimp only[ko,eQ];repeat' (first|refine' aW|refine' uv|refine' zq|refine' Xz|refine' BJ|refine' Ec|refine' Mc|refine' Md|refine' Me|refine' HD|refine' av|fail)
    (all_goals try refine cj);all_goals refine mR (v':=pQ) bG bu ar rfl
   .rw[if_neg hl] at dS;cases NM:z6 with
    |true=>
     rw[NM,if_pos rfl] at dS;rw[dS];subst NM;refine aT f114 ?_;dsimp only[ko,eQ];(repeat' (first|refine' aW|refine' uv|refine' zq|refine' Xz|refine' BJ|refine' Ec|refine' Mc|refine' Md|refine' Me|refine' av|fail));all_goals refine' zaF
    |false=>
     rw[NM,if_neg bJ] at dS;obtain⟨o,ho,Li,mG⟩:=je NM;subst NM;rcases pk:eb st1 t1 k with⟨eN,t2,ok⟩
     have amh:∀(dL:SA) s,eV bh bw 166 [fK dL st1,tv t1,iv k] s [] dL st1 eN true (Co t2 ok):=λdL s=>by
      have:=Qb s dL st1 (hs2.mono ag) t1 ht2 k hk o ho Li mG;rw[pk] at this;exact this
     rw[pk] at dS;simp only at dS;rw[dS];refine aT f114 ?_;dsimp only[ko,eQ];(repeat' (first|refine' aW|refine' uv|refine' zq|refine' Xz|refine' BJ|refine' Ec|refine' Mc|refine' Md|refine' Me|((with_reducible apply WO.nf);exact aC;exact λs=>amh _ s;exact eC;intro _ _ Qq _ _ afH)|refine' av|fail));(all_goals try refine cj);all_goals refine mR (v':=Qq) bG bu ar rfl
theorem B0 {n:Nat}{u:iM}{z:az}{a b:Nat}(h:dA n st)(hu:ka u)(hz:z.length<=1000)(hb:b<16):dA (n+510) (gE st u z a b).1/\ka (gE st u z a b).2.1:=by
 unfold gE;by_cases lV:a<=b+1
 .have:=xi z (b+1-a) a n st {u with size:=z.length} h ⟨hu.tr,⟨KL _,by show(z.length:Int)<=10000;omega⟩⟩ ag;exact⟨this.1.mono ag,this.2⟩
 .rw[show b+1-a=0 by omega];exact⟨h.mono ag,⟨hu.tr,⟨KL _,by show(z.length:Int)<=10000;omega⟩⟩⟩
theorem xk {n:Nat}{u:iM}{z:az}{a:Nat}(h:dA n st)(hu:ka u)(ha:a+z.length<=192)(hf:(bE st u).length<=192):dA (n+600) (fH st u a z).1/\ka (fH st u a z).2.1:=by
 have hov:(gk (bE st u) a z).length<=192:=by
  unfold gk iz;simp only[bL,cW,eW,qX];omega
 unfold fH;split
 .exact⟨h.mono ag,hu⟩
 .rename_i hz;have hzl:0<z.length:=nL.2 hz;have:=B0 (a:=a/ 12) (b:=(a+z.length-1)/ 12) h hu (show(gk (bE st u) a z).length<=1000 by omega) ag;exact⟨this.1.mono ag,this.2⟩
theorem B1 {n:Nat}{u:iM}{a:Nat}(h:dA n st)(hu:ka u)(ha:a<=192)(hf:(bE st u).length<=192):dA (n+600) (fB st u a).1/\ka (fB st u a).2.1:=by
 have hp:0<=dx a 12/\dx a 12<=16:=by unfold dx;omega
 have uG:ka {u with size:=(a:Int)}:=⟨hu.tr,⟨KL _,by show(a:Int)<=10000;omega⟩⟩;unfold fB;simp only;split
 .split
  .exact⟨h.mono ag,uG⟩
  .have bV:=nq (k:=(dx a 12-1).toNat) (z:=[]) h hu.tr ag ay;rcases uF:nH st u.aX (dx a 12-1).toNat [] with⟨eN,t2,ok⟩
   rw[uF] at bV;exact⟨bV.1.mono ag,uG.aX bV.2.1⟩
 .have bV:=zS (many:=dx a 12) h hu.tr hp;rcases P3:tJ st u.aX (dx a 12) with⟨eN,t2,ok⟩
  rw[P3] at bV;cases ok with
  |false=>exact⟨bV.1.mono ag,hu⟩
  |true=>
   simp only;have G9:ka {u with aX:=t2,size:=(a:Int)}:=⟨bV.2.1,⟨KL _,by show(a:Int)<=10000;omega⟩⟩;split
   .exact⟨bV.1.mono ag,G9⟩
   .have:=B0 (a:=(dx a 12-1).toNat) (b:=(dx a 12-1).toNat) bV.1 G9 (show((bE st u).take a).length<=1000 by rw[cW];omega) ag;exact⟨this.1.mono ag,this.2⟩
theorem NO (s:St)(b:Nat)(v:SA)(st:au)(t:cB)(h:dA 39000 st)(ht:ek t)(pr:Pg.FS st t)(o:Op)(hz:o.af.length<=90000)(hp:aP o.af=true)(ha:0<=o.at_/\o.at_<=192)(yy:o.bq.length<=24):
  mJ bh bw 117 [bg b,ov o] s b v ⟨st,t,false⟩ (Fs.change ⟨st,t,false⟩ o).1 (iv (Fs.change ⟨st,t,false⟩ o).2):=by
 have tz:dA 100000 st:=h.mono ag;have dS:Fs.change ⟨st,t,false⟩ o=if Fs.di ⟨st,t,false⟩ o.af<0 then(⟨st,t,false⟩,2) else if(Fs.node ⟨st,t,false⟩ (Fs.di ⟨st,t,false⟩ o.af)).kind≠1 then(⟨st,t,false⟩,4) else if 192<o.at_+o.bq.length then(⟨st,t,false⟩,6) else
   match(if o.kind=3 then fH st (Fs.node ⟨st,t,false⟩ (Fs.di ⟨st,t,false⟩ o.af)) o.at_.toNat o.bq else fB st (Fs.node ⟨st,t,false⟩ (Fs.di ⟨st,t,false⟩ o.af)) o.at_.toNat) with
   |(eN,n,ok)=>((Fs.put ⟨eN,t,!ok⟩ (Fs.di ⟨st,t,false⟩ o.af) n,(0:Int)):Fs×Int):=rfl
 obtain⟨G,l0,q0,hF,hG⟩:=pr;have Xy:∀s,lN s b v ⟨st,t,false⟩->bF 161 [bg b,sv o.af] s (ub b v) (iv (Fs.di ⟨st,t,false⟩ o.af)):=λs hr=>qg s b v ⟨st,t,false⟩ tz ht o.af hz hp hr
 by_cases h1:Fs.di ⟨st,t,false⟩ o.af<0
 .rw[if_pos h1] at dS;rw[dS];generalize Fs.di ⟨st,t,false⟩ o.af=w at *
  refine aT f117 ?_;dsimp only[ko,eQ];repeat' (first|refine' aW|refine' uv|refine' av|fail)
  all_goals try exact pJ
  refine mR (v':=v) bG bu ar rfl
 .rw[if_neg h1] at dS;obtain⟨k,e1,e2⟩:=Pg.iF hF h1;obtain⟨e,he⟩:=Pg.jy hG e2;have hk:k<16:=(hF.lt he).2;have Ch:Fs.node ⟨st,t,false⟩ (k:Int)=e.n:=by rw[Pg.ny hF,he];rfl
  rw[e1,Ch] at dS;rw[e1] at Xy;have nN:∀s,lN s b v ⟨st,t,false⟩->bF 162 [bg b,iv k] s (ub b v) (nv e.n):=λs hr=>by rw[<-Ch];exact tT s b v ⟨st,t,false⟩ tz ht k ag hr
  by_cases h2:e.n.kind≠1
  .rw[if_pos h2] at dS;rw[dS];clear h1 e1;refine aT f117 ?_;dsimp only[ko,eQ];refine' RD
   (all_goals first|(exfalso;omega;done)|(exfalso;exact h2 aL)|skip);refine mR (v':=v) bG bu ar rfl
  .rw[if_neg h2] at dS;have h2:e.n.kind=1:=by simpa using h2
   by_cases h3:192<o.at_+(o.bq.length:Int)
   .rw[if_pos h3] at dS;rw[dS];clear h1 e1;refine aT f117 ?_;dsimp only[ko,eQ];refine' RD
    (all_goals try refine cj);refine mR (v':=v) bG bu ar rfl
   .rw[if_neg h3] at dS;have Is:∃ln qn,Pg.pA st e.n ln qn:=by
     obtain⟨ln,qn,hq,hh⟩:=((hF.at_ k).some he).2;rcases hh with⟨_,hh⟩|hh
     .exact⟨ln,qn,hh⟩
     .have:=hh.kd;rw[h2] at this;cases this
    obtain⟨ln,qn,Gw⟩:=Is;have Rh:=Pg.nt Gw.tr Gw.sz.1 Gw.mn Gw.ft;have jd:=Gw.sz;have yx:=Gw.mn;have uG:ka e.n:=ka.of Gw.ok;obtain⟨a,hta⟩:∃a:Nat,o.at_=(a:Int):=⟨o.at_.toNat,ag⟩;rw[hta] at dS h3 ha;rw[uK] at dS;have hhw:=xk (n:=39000) (u:=e.n) (z:=o.bq) (a:=a) h uG ag ag;have hhc:=B1 (n:=39000) (u:=e.n) (a:=a) h uG ag ag;rw[dS];by_cases h4:o.kind=3
    .rw[if_pos h4];rcases hw:fH st e.n a o.bq with⟨eN,n2,ok⟩
     rw[hw] at hhw;have nY:∀(dL:SA) s,eV bh bw 167 [fK dL st,nv e.n,iv o.at_,sv o.bq] s [] dL st eN true (Fa n2 ok):=λdL s=>by
      have:=NN s dL st (h.mono ag) e.n uG a o.bq ag ag;rw[hw] at this;rw[hta];exact this
     (have dM:∀(dL:SA) s,mJ bh bw 157 [bg b,iv k,nv n2] s b dL ⟨eN,t,!ok⟩ (Fs.put ⟨eN,t,!ok⟩ k n2) (.tuple ⟨[]⟩):=λdL s=>sS s b dL ⟨eN,t,!ok⟩ (hhw.1.mono ag) ht k hk _);refine' za0;clear h1 e1 hhw hhc hw Gw yx;refine aT f117 ?_;dsimp only[ko,eQ];(repeat' (first|refine' aW|refine' uv|refine' zq|((with_reducible apply WO.nf);exact aC;exact λs=>nY _ s;exact eC;intro _ _ adz _ _ adA)|refine' HD|refine' av|fail));(all_goals try refine cj);all_goals refine mR (v':=pQ) bG bu ar rfl
    .rw[if_neg h4];rcases hw:fB st e.n a with⟨eN,n2,ok⟩
     rw[hw] at hhc;have nY:∀(dL:SA) s,eV bh bw 168 [fK dL st,nv e.n,iv o.at_] s [] dL st eN true (Fa n2 ok):=λdL s=>by
      have:=UK s dL st (h.mono ag) e.n uG a ag ag ag yx;rw[hw] at this;rw[hta];exact this
     (have dM:∀(dL:SA) s,mJ bh bw 157 [bg b,iv k,nv n2] s b dL ⟨eN,t,!ok⟩ (Fs.put ⟨eN,t,!ok⟩ k n2) (.tuple ⟨[]⟩):=λdL s=>sS s b dL ⟨eN,t,!ok⟩ (hhc.1.mono ag) ht k hk _);refine' za0;clear h1 e1 hhw hhc hw Gw yx;refine aT f117 ?_;dsimp only[ko,eQ];(repeat' (first|refine' aW|refine' uv|refine' zq|((with_reducible apply WO.nf);exact aC;exact λs=>nY _ s;exact eC;intro _ _ agA _ _ agB)|refine' HD|refine' av|fail));(all_goals try refine cj);all_goals refine mR (v':=pQ) bG bu ar rfl
end Go.Pl
namespace Go.Pl
variable {st:au}{t:cB}{o:Op}{to:az}
theorem NP {n:Nat}(h:dA n st)(ht:ek t)(pr:Pg.FS st t){z:az}(hp:aP z=true)(kind:Int):sY (n+1730) (Fs.make ⟨st,t,false⟩ z kind).1:=by
 have h0:sY (n+1730) ⟨st,t,false⟩:=⟨h.mono ag,ht⟩;have mE:Fs.make ⟨st,t,false⟩ z kind=if 0<(Fs.bI ⟨st,t,false⟩ z).2 then(⟨st,t,false⟩,(Fs.bI ⟨st,t,false⟩ z).2) else
   match vb st t with
   |none=>(⟨st,t,false⟩,6)
   |some id=>if 12<=(Fs.bM ⟨st,t,false⟩ (Fs.bI ⟨st,t,false⟩ z).1).length then(⟨st,t,false⟩,6) else((Fs.bk (Fs.put ⟨st,t,false⟩ id ⟨kind,1,0,fh⟩) (Fs.bI ⟨st,t,false⟩ z).1 (gz (Fs.bM ⟨st,t,false⟩ (Fs.bI ⟨st,t,false⟩ z).1) ⟨Fs.base z,id⟩)),0):=rfl
 obtain⟨G,l0,q0,hF,hG⟩:=pr;rw[mE];by_cases hc:0<(Fs.bI ⟨st,t,false⟩ z).2
 .rw[if_pos hc];exact h0
 .rw[if_neg hc];obtain⟨at_,e,e1,e2,e3,e4,e5,e6,e7⟩:=Pg.sW hF hp hc;have nJ:at_<16:=(hF.lt e4).2;rw[e1];cases hid:vb st t with
  |none=>exact h0
  |some id=>
   obtain⟨adB,_⟩:=Pg.Ff hF hid;simp only;split
   .exact h0
   .exact(sY.bk (sY.put (n:=n) ⟨h,ht⟩ ag _) ag _).mono ag
theorem Qr {n:Nat}(h:dA n st)(ht:ek t)(pr:Pg.FS st t)(ha:0<=o.at_/\o.at_<=192):sY (n+1730) (Fs.change ⟨st,t,false⟩ o).1:=by
 have h0:sY (n+1730) ⟨st,t,false⟩:=⟨h.mono ag,ht⟩;have dS:Fs.change ⟨st,t,false⟩ o=if Fs.di ⟨st,t,false⟩ o.af<0 then(⟨st,t,false⟩,2) else if(Fs.node ⟨st,t,false⟩ (Fs.di ⟨st,t,false⟩ o.af)).kind≠1 then(⟨st,t,false⟩,4) else if 192<o.at_+o.bq.length then(⟨st,t,false⟩,6) else
   match(if o.kind=3 then fH st (Fs.node ⟨st,t,false⟩ (Fs.di ⟨st,t,false⟩ o.af)) o.at_.toNat o.bq else fB st (Fs.node ⟨st,t,false⟩ (Fs.di ⟨st,t,false⟩ o.af)) o.at_.toNat) with
   |(eN,n,ok)=>((Fs.put ⟨eN,t,!ok⟩ (Fs.di ⟨st,t,false⟩ o.af) n,(0:Int)):Fs×Int):=rfl
 obtain⟨G,l0,q0,hF,hG⟩:=pr;rw[dS];by_cases h1:Fs.di ⟨st,t,false⟩ o.af<0
 .rw[if_pos h1];exact h0
 rw[if_neg h1];obtain⟨k,e1,e2⟩:=Pg.iF hF h1;obtain⟨e,he⟩:=Pg.jy hG e2;have hk:k<16:=(hF.lt he).2;have Ch:Fs.node ⟨st,t,false⟩ (k:Int)=e.n:=by rw[Pg.ny hF,he];rfl
 rw[e1,Ch];by_cases h2:e.n.kind≠1
 .rw[if_pos h2];exact h0
 rw[if_neg h2];have h2:e.n.kind=1:=by simpa using h2
 by_cases h3:192<o.at_+(o.bq.length:Int)
 .rw[if_pos h3];exact h0
 rw[if_neg h3];have Is:∃ln qn,Pg.pA st e.n ln qn:=by
  obtain⟨ln,qn,hq,hh⟩:=((hF.at_ k).some he).2;rcases hh with⟨_,hh⟩|hh
  .exact⟨ln,qn,hh⟩
  .have:=hh.kd;rw[h2] at this;cases this
 obtain⟨ln,qn,Gw⟩:=Is;have Rh:=Pg.nt Gw.tr Gw.sz.1 Gw.mn Gw.ft;have jd:=Gw.sz;have uG:ka e.n:=ka.of Gw.ok;have hhw:=xk (n:=n) (u:=e.n) (z:=o.bq) (a:=o.at_.toNat) h uG ag ag;have hhc:=B1 (n:=n) (u:=e.n) (a:=o.at_.toNat) h uG ag ag;split;rename_i eN n2 ok heq;have aft:dA (n+600) eN:=by
  by_cases h4:o.kind=3
  .rw[if_pos h4] at heq;rw[heq] at hhw;exact hhw.1
  .rw[if_neg h4] at heq;rw[heq] at hhc;exact hhc.1
 exact(sY.put (f:=⟨eN,t,!ok⟩) ⟨aft,ht⟩ ag _).mono ag
theorem Zk {n:Nat}(h:dA n st)(hn:n<=80000)(ht:ek t)(pr:Pg.FS st t){z:az}(hp:aP z=true):sY (n+1730) (Fs.qz ⟨st,t,false⟩ z).1:=by
 have h0:sY (n+1730) ⟨st,t,false⟩:=⟨h.mono ag,ht⟩;have dS:Fs.qz ⟨st,t,false⟩ z=if Fs.di ⟨st,t,false⟩ z<0 then(⟨st,t,false⟩,2) else if Fs.di ⟨st,t,false⟩ z=0\/((Fs.node ⟨st,t,false⟩ (Fs.di ⟨st,t,false⟩ z)).kind=2/\0<(Fs.node ⟨st,t,false⟩ (Fs.di ⟨st,t,false⟩ z)).size) then(⟨st,t,false⟩,5) else
   (let f1:=Fs.bk ⟨st,t,false⟩ (Fs.bU ⟨st,t,false⟩ z).1 (eA (Fs.bM ⟨st,t,false⟩ (Fs.bU ⟨st,t,false⟩ z).1) ((eE (Fs.bM ⟨st,t,false⟩ (Fs.bU ⟨st,t,false⟩ z).1) (Fs.base z)).getD 0))
    let n1:iM:={Fs.node ⟨st,t,false⟩ (Fs.di ⟨st,t,false⟩ z) with bK:=(Fs.node ⟨st,t,false⟩ (Fs.di ⟨st,t,false⟩ z)).bK-1}
    if 0<n1.bK then(f1.put (Fs.di ⟨st,t,false⟩ z) n1,0) else if f1.cJ then(f1,0) else match eb f1.st f1.t (Fs.di ⟨st,t,false⟩ z) with
     |(eN,t2,ok)=>((⟨eN,t2,!ok⟩,0):Fs×Int)):=rfl
 obtain⟨G,l0,q0,hF,hG⟩:=pr;rw[dS];by_cases h1:Fs.di ⟨st,t,false⟩ z<0
 .rw[if_pos h1];exact h0
 rw[if_neg h1];obtain⟨k,e1,e2⟩:=Pg.iF hF h1;obtain⟨ei,re⟩:=Pg.jy hG e2;have hk:k<16:=(hF.lt re).2;have Ch:Fs.node ⟨st,t,false⟩ (k:Int)=ei.n:=by rw[Pg.ny hF,re];rfl
 rw[e1,Ch];by_cases h2:(k:Int)=0\/(ei.n.kind=2/\0<ei.n.size)
 .rw[if_pos h2];exact h0
 rw[if_neg h2];have SZ:k≠0:=λhc=>h2 (.inl ag)
 obtain⟨at_,e,i,p1,p2,p3,p4,p5,p6,p7,p8⟩:=Pg.sX hF hG e2 SZ;have jJ:Fs.bM ⟨st,t,false⟩ (at_:Int)=e.es:=Pg.mb hF false p3 p4;have tE:bD e.es=true:=by have:=Pg.pV hG.wf at_;rwa [Pg.dV p3] at this
 have zZ:=Pg.Kb tE (Pg.jx e.es i);have Qp:at_<16:=(hF.lt p3).2;have Je:Pg.bM G k=[]:=by
  rw[Pg.dV re];obtain⟨ln,qn,hq,⟨h0,_⟩|hd⟩:=((hF.at_ k).some re).2
  .exact h0
  .have jd:=hd.sz;have V5:=hd.kd;by_cases hc:ei.es=[]
   .exact hc
   .have h3:=(Pg.l6 hd.eo).2 hc;exact absurd (.inr ⟨V5,ag⟩) h2
 refine' zbf;rw[p1];simp only;rw[jJ,p5,qj];have Cz:sY (n+630) (Fs.bk ⟨st,t,false⟩ at_ (eA e.es i)):=sY.bk (n:=n) ⟨h,ht⟩ ag _;split
 .exact(sY.put Cz ag _).mono ag
 split
 .exact Cz.mono ag
 .rename_i hf;have hf:(Fs.bk ⟨st,t,false⟩ at_ (eA e.es i)).cJ=false:=by simpa using hf
  obtain⟨e',l1,q1,yB,g1,g2,g3⟩:=Pg.pd hF p3 p4 zZ hf;obtain⟨o,ho,Li,mG⟩:=yB.all (k:=k) (e:=ei) (by rw[Pg.fP _ _ (λh=>nJ h.symm)];exact re);have:=UG Cz.st ag Cz.t hk ho Li mG;rcases pk:eb (Fs.bk ⟨st,t,false⟩ at_ (eA e.es i)).st (Fs.bk ⟨st,t,false⟩ at_ (eA e.es i)).t k with⟨eN,t2,ok⟩;rw[pk] at this;exact⟨this.1.mono ag,this.2⟩
theorem Zl {n:Nat}(h:dA n st)(ht:ek t)(pr:Pg.FS st t){z to:az}(uF:aP to=true):sY (n+1730) (Fs.link ⟨st,t,false⟩ z to).1:=by
 have h0:sY (n+1730) ⟨st,t,false⟩:=⟨h.mono ag,ht⟩;have mE:Fs.link ⟨st,t,false⟩ z to=if Fs.di ⟨st,t,false⟩ z<0 then(⟨st,t,false⟩,2) else if(Fs.node ⟨st,t,false⟩ (Fs.di ⟨st,t,false⟩ z)).kind≠1 then(⟨st,t,false⟩,4) else if 0<(Fs.bI ⟨st,t,false⟩ to).2 then(⟨st,t,false⟩,(Fs.bI ⟨st,t,false⟩ to).2) else
   if 9<=(Fs.node ⟨st,t,false⟩ (Fs.di ⟨st,t,false⟩ z)).bK\/12<=(Fs.bM ⟨st,t,false⟩ (Fs.bI ⟨st,t,false⟩ to).1).length then(⟨st,t,false⟩,6) else
   ((Fs.bk (Fs.put ⟨st,t,false⟩ (Fs.di ⟨st,t,false⟩ z) {Fs.node ⟨st,t,false⟩ (Fs.di ⟨st,t,false⟩ z) with bK:=(Fs.node ⟨st,t,false⟩ (Fs.di ⟨st,t,false⟩ z)).bK+1}) (Fs.bI ⟨st,t,false⟩ to).1 (gz (Fs.bM ⟨st,t,false⟩ (Fs.bI ⟨st,t,false⟩ to).1) ⟨Fs.base to,Fs.di ⟨st,t,false⟩ z⟩)),0):=rfl
 obtain⟨G,l0,q0,hF,hG⟩:=pr;rw[mE];by_cases h1:Fs.di ⟨st,t,false⟩ z<0
 .rw[if_pos h1];exact h0
 rw[if_neg h1];obtain⟨k,e1,e2⟩:=Pg.iF hF h1;obtain⟨ei,re⟩:=Pg.jy hG e2;have hk:k<16:=(hF.lt re).2;rw[e1];split
 .exact h0
 by_cases hc:0<(Fs.bI ⟨st,t,false⟩ to).2
 .rw[if_pos hc];exact h0
 rw[if_neg hc];obtain⟨at_,e,f1,f2,f3,f4,f5,f6,f7⟩:=Pg.sW hF uF hc;have nJ:at_<16:=(hF.lt f4).2;rw[f1];split
 .exact h0
 .exact(sY.bk (sY.put (n:=n) ⟨h,ht⟩ ag _) ag _).mono ag
theorem Zm {n:Nat}(h:dA n st)(ht:ek t)(pr:Pg.FS st t){z to:az}(hp:aP z=true)(uF:aP to=true):sY (n+1730) (Fs.move ⟨st,t,false⟩ z to).1:=by
 have h0:sY (n+1730) ⟨st,t,false⟩:=⟨h.mono ag,ht⟩;have mE:Fs.move ⟨st,t,false⟩ z to=if Fs.di ⟨st,t,false⟩ z<0 then(⟨st,t,false⟩,2) else if Fs.di ⟨st,t,false⟩ z=0 then(⟨st,t,false⟩,5) else if 0<=Fs.di ⟨st,t,false⟩ to then(⟨st,t,false⟩,3) else if under to z=true then(⟨st,t,false⟩,5) else
   if 0<(Fs.bU ⟨st,t,false⟩ to).2 then(⟨st,t,false⟩,(Fs.bU ⟨st,t,false⟩ to).2) else
   if(Fs.bU ⟨st,t,false⟩ to).1≠(Fs.bU ⟨st,t,false⟩ z).1/\12<=(Fs.bM ⟨st,t,false⟩ (Fs.bU ⟨st,t,false⟩ to).1).length then(⟨st,t,false⟩,6) else
   if(Fs.bU ⟨st,t,false⟩ to).1=(Fs.bU ⟨st,t,false⟩ z).1 then(Fs.bk ⟨st,t,false⟩ (Fs.bU ⟨st,t,false⟩ to).1 (gz (eA (Fs.bM ⟨st,t,false⟩ (Fs.bU ⟨st,t,false⟩ z).1) ((eE (Fs.bM ⟨st,t,false⟩ (Fs.bU ⟨st,t,false⟩ z).1) (Fs.base z)).getD 0)) ⟨Fs.base to,Fs.di ⟨st,t,false⟩ z⟩),0) else
   (Fs.bk (Fs.bk ⟨st,t,false⟩ (Fs.bU ⟨st,t,false⟩ z).1 (eA (Fs.bM ⟨st,t,false⟩ (Fs.bU ⟨st,t,false⟩ z).1) ((eE (Fs.bM ⟨st,t,false⟩ (Fs.bU ⟨st,t,false⟩ z).1) (Fs.base z)).getD 0))) (Fs.bU ⟨st,t,false⟩ to).1 (gz (Fs.bM (Fs.bk ⟨st,t,false⟩ (Fs.bU ⟨st,t,false⟩ z).1 (eA (Fs.bM ⟨st,t,false⟩ (Fs.bU ⟨st,t,false⟩ z).1) ((eE (Fs.bM ⟨st,t,false⟩ (Fs.bU ⟨st,t,false⟩ z).1) (Fs.base z)).getD 0))) (Fs.bU ⟨st,t,false⟩ to).1) ⟨Fs.base to,Fs.di ⟨st,t,false⟩ z⟩),0):=rfl
 obtain⟨G,l0,q0,hF,hG⟩:=pr;rw[mE];by_cases h1:Fs.di ⟨st,t,false⟩ z<0
 .rw[if_pos h1];exact h0
 rw[if_neg h1];obtain⟨k,e1,e2⟩:=Pg.iF hF h1;by_cases SZ:k=0
 .rw[e1,if_pos ag];exact h0
 rw[e1,if_neg ag];split
 .exact h0
 split
 .exact h0
 by_cases h5:0<(Fs.bU ⟨st,t,false⟩ to).2
 .rw[if_pos h5];exact h0
 rw[if_neg h5];obtain⟨at_,e,a1,a2,a3,a4,a5⟩:=Pg.zY hF h5;obtain⟨fr,ef,i,p1,p2,p3,p4,p5,p6,p7,p8⟩:=Pg.sX hF hG e2 SZ;have Qp:at_<16:=(hF.lt a4).2;have afI:fr<16:=(hF.lt p3).2;rw[a1,p1];simp only;by_cases h6:(at_:Int)≠fr/\12<=(Fs.bM ⟨st,t,false⟩ (at_:Int)).length
 .rw[if_pos h6];exact h0
 rw[if_neg h6];have Oq:∀(k:Nat) l,k<16->sY (n+630) (Fs.bk ⟨st,t,false⟩ (k:Int) l):=λk l hk=>sY.bk (n:=n) (f:=⟨st,t,false⟩) ⟨h,ht⟩ ag l
 by_cases h7:(at_:Int)=fr
 .rw[if_pos h7];dsimp only;exact(Oq at_ _ Qp).mono ag
 .rw[if_neg h7];dsimp only;exact(sY.bk (Oq fr _ afI) (k:=(at_:Int)) ag _).mono ag
theorem Fq {n:Nat}(h:dA n st)(hn:n<=80000)(ht:ek t)(pr:Pg.FS st t)(ho:ik o=true):dA (n+1730) (fb st t o).1/\ek (fb st t o).2.1:=by
 obtain⟨o1,o2,o3,o4⟩:=Pg.A9 ho;unfold fb;simp only;have key:∀r:Fs×Int,sY (n+1730) r.1->dA (n+1730) (if(if r.2=0/\r.1.cJ=true then 7 else r.2)≠0 then(st,t,(if r.2=0/\r.1.cJ=true then 7 else r.2)) else(r.1.st,r.1.t,(if r.2=0/\r.1.cJ=true then 7 else r.2))).1/\ek (if(if r.2=0/\r.1.cJ=true then 7 else r.2)≠0 then(st,t,(if r.2=0/\r.1.cJ=true then 7 else r.2)) else(r.1.st,r.1.t,(if r.2=0/\r.1.cJ=true then 7 else r.2))).2.1:=λr hr=>by
  generalize(if r.2=0/\r.1.cJ=true then(7:Int) else r.2)=c;split
  .exact⟨h.mono ag,ht⟩
  .exact⟨hr.st,hr.t⟩
 refine key _ ?_;split
 .exact NP h ht pr o1 1
 split
 .exact NP h ht pr o1 2
 split
 .exact Zk h hn ht pr o1
 split
 .rename_i hk;exact Zl h ht pr (o2 (.inl hk))
 split
 .rename_i hk;exact Zm h ht pr o1 (o2 (.inr hk))
 .exact Qr h ht pr ⟨o3,o4⟩
end Go.Pl
namespace Go.Pl
open Go Go.Ev Go.Lg Go.Proofs
end Go.Pl
