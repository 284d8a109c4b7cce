/- Lemmas of the proof. No conditions. -/
import Derived.Test.YtjaeddbblleomaaGreatDoorAe3
set_option maxRecDepth 100000
set_option maxHeartbeats 4000000
set_option linter.unusedVariables false
set_option linter.unusedSimpArgs false
open Go.Proofs.Tryz
namespace Go.Pl
open Go Go.Ev Go.Lg Go.Proofs
theorem Tg (s:St)(b:Nat)(v:SA)(st:ak)(t:bX)(h:du 40000 st)(ht:dZ t)(oO:Pg.FS st t)(z:ay)(hz:z.length<=90000)(hp:bf z=true):
  ml aU aW 95 [aP b,sv z] s b v ⟨st,t,false⟩ (Fs.pR ⟨st,t,false⟩ z).1 (iv (Fs.pR ⟨st,t,false⟩ z).2):=by
 have tP:du 100000 st:=h.mono af;have dR:Fs.pR ⟨st,t,false⟩ z=if Fs.cZ ⟨st,t,false⟩ z<0 then(⟨st,t,false⟩,2) else if Fs.cZ ⟨st,t,false⟩ z=0\/((Fs.node ⟨st,t,false⟩ (Fs.cZ ⟨st,t,false⟩ z)).kind=2/\0<(Fs.node ⟨st,t,false⟩ (Fs.cZ ⟨st,t,false⟩ z)).size) then(⟨st,t,false⟩,5) else
   (let f1:=Fs.aZ ⟨st,t,false⟩ (Fs.bL ⟨st,t,false⟩ z).1 (er (Fs.bF ⟨st,t,false⟩ (Fs.bL ⟨st,t,false⟩ z).1) ((ey (Fs.bF ⟨st,t,false⟩ (Fs.bL ⟨st,t,false⟩ z).1) (Fs.base z)).getD 0))
    let n1:Nde:={Fs.node ⟨st,t,false⟩ (Fs.cZ ⟨st,t,false⟩ z) with bE:=(Fs.node ⟨st,t,false⟩ (Fs.cZ ⟨st,t,false⟩ z)).bE-1}
    if 0<n1.bE then(f1.put (Fs.cZ ⟨st,t,false⟩ z) n1,0) else if f1.cK then(f1,0) else match dX f1.st f1.t (Fs.cZ ⟨st,t,false⟩ z) with
     |(eI,t2,ok)=>((⟨eI,t2,!ok⟩,0):Fs×Int)):=rfl
 obtain⟨G,l0,q0,hF,hG⟩:=oO;have NX:∀s,lq s b v ⟨st,t,false⟩->bO 142 [aP b,sv z] s (tp b v) (iv (Fs.cZ ⟨st,t,false⟩ z)):=λs hr=>pE s b v ⟨st,t,false⟩ tP ht z hz hp hr
 by_cases h1:Fs.cZ ⟨st,t,false⟩ z<0
 .rw[if_pos h1] at dR;rw[dR];generalize Fs.cZ ⟨st,t,false⟩ z=w at *
  refine aO f95 ?_;dsimp only[j5,eM];(repeat' (first|refine' aX|refine' tJ|refine' ar|fail))
  all_goals try exact pb
  refine mw (v':=v) bB bj aq rfl
 .rw[if_neg h1] at dR;obtain⟨k,e1,e2⟩:=Pg.ie hF h1;obtain⟨ei,qA⟩:=Pg.jg hG e2;have hk:k<16:=(hF.lt qA).2;have Bh:Fs.node ⟨st,t,false⟩ (k:Int)=ei.n:=by rw[Pg.na hF,qA];rfl
  rw[e1,Bh] at dR;rw[e1] at NX;have xZ:∀s,lq s b v ⟨st,t,false⟩->bO 143 [aP b,iv k] s (tp b v) (nv ei.n):=λs hr=>by rw[<-Bh];exact tc s b v ⟨st,t,false⟩ tP ht k af hr
  by_cases h2:(k:Int)=0\/(ei.n.kind=2/\0<ei.n.size)
  .rw[if_pos h2] at dR;rw[dR];clear h1 e1;refine aO f95 ?_;dsimp only[j5,eM];(refine' Qg)
   all_goals try exact pb
   all_goals refine mw (v':=v) bB bj aq rfl
  .rw[if_neg h2] at dR;have UJ:k≠0:=λhc=>h2 (.inl af)
   obtain⟨at_,e,i,p1,p2,p3,p4,p5,p6,p7,p8⟩:=Pg.ss hF hG e2 UJ;have jq:Fs.bF ⟨st,t,false⟩ (at_:Int)=e.es:=Pg.lO hF false p3 p4;have sP:bz e.es=true:=by have:=Pg.po hG.wf at_;rwa [Pg.dU p3] at this
   have y8:=Pg.I2 sP (Pg.jf e.es i);have OS:at_<16:=(hF.lt p3).2;rw[p1] at dR;simp only at dR;rw[jq,p5,pH] at dR;obtain⟨hl12,heb⟩:=XK sP;obtain⟨hl12',heb'⟩:=XK y8;have H5:Pg.bF G k=[]:=by
    rw[Pg.dU qA];obtain⟨ln,qn,hq,⟨h0,_⟩|hd⟩:=((hF.at_ k).some qA).2
    .exact h0
    .have iI:=hd.sz;have UG:=hd.kd;have:ei.es=[]:=by
      by_cases hc:ei.es=[]
      .exact hc
      .have h3:=(Pg.lJ hd.eo).2 hc;exact absurd (.inr ⟨UG,af⟩) h2
     exact this
   refine' za6
   have ri:∀s,lq s b v ⟨st,t,false⟩->bO 144 [aP b,sv z] s (tp b v) (.tuple ⟨[iv at_,iv 0]⟩):=λs hr=>by
    have:=tq s b v ⟨st,t,false⟩ tP ht z hz hp hr;rwa [p1] at this
   have U9:∀s,lq s b v ⟨st,t,false⟩->fa aU aW 137 [aP b,iv at_] s (tp b v) 186 e.es:=λs hr=>by
    refine' za5
   have hat2:∀a c s,bM s a e.es.length 2 (ah e.es)->bO 146 [.slice a e.es.length c,sv (Fs.base z)] s (ai a) (iv i):=λa c s hr=>by
    have:=C5 s a c e.es (Fs.base z) af hr;unfold WG at this;rw[p5] at this;exact this
   have hles:∀a c s,bM s a e.es.length 2 (ah e.es)->E0 s a e.es.length c 186 2->fa aU aW 145 [.slice a e.es.length c,iv i] s (ai a) 186 (er e.es i):=λa c s hr hv=>Dj s a c e.es i af p6 hr hv
   have nG:∀dI a c s,bM s a (er e.es i).length 2 (ah (er e.es i))->(∀j∈ai a,j∉(j5 b dI ⟨st,t,false⟩).flatMap It.aS)->AJ 139 [aP b,iv at_,.slice a (er e.es i).length c] s (j5 b dI ⟨st,t,false⟩) (ai a) λR L=>∃v':SA,R= .tuple ⟨[]⟩/\L=j5 b v' (Fs.aZ ⟨st,t,false⟩ at_ (er e.es i)):=λdI a c s hr hm=>
    nT s b dI ⟨st,t,false⟩ ⟨h.mono af,ht⟩ at_ OS a c (er e.es i) af heb' hr hm
   have BB:su 40630 (Fs.aZ ⟨st,t,false⟩ at_ (er e.es i)):=su.aZ (n:=40000) ⟨h,ht⟩ af _;have iK:(Fs.aZ ⟨st,t,false⟩ at_ (er e.es i)).cK=false->∃o,pP 200 (Fs.aZ ⟨st,t,false⟩ at_ (er e.es i)).st [((iY (Fs.aZ ⟨st,t,false⟩ at_ (er e.es i)).st (Fs.aZ ⟨st,t,false⟩ at_ (er e.es i)).t k).getD bu).aN.cC] []=some o/\o.length<=1000/\∀p∈o,bw p=true:=λhf=>by
    obtain⟨e',l1,q1,xA,g1,g2,g3⟩:=Pg.oG hF p3 p4 y8 hf;exact xA.all (k:=k) (e:=ei) (by rw[Pg.fM _ _ (λh=>n4 h.symm)];exact qA)
   generalize Xn:Fs.aZ ⟨st,t,false⟩ at_ (er e.es i)=f1 at *
   obtain⟨st1,t1,y9⟩:=f1;have hs2:=BB.st;have ht2:=BB.t;simp only at hs2 ht2 iK dR;have dK:∀(dI:SA) s,ml aU aW 138 [aP b,iv k,nv {ei.n with bE:=ei.n.bE-1}] s b dI ⟨st1,t1,y9⟩ (Fs.put ⟨st1,t1,y9⟩ k {ei.n with bE:=ei.n.bE-1}) (.tuple ⟨[]⟩):=λdI s=>si s b dI ⟨st1,t1,y9⟩ (hs2.mono af) ht2 k hk _
   have Qn: -1000<=ei.n.bE/\ei.n.bE<=1000:=by
    have:=Pg.kO ((hF.at_ k).some qA).2.ok;omega
   generalize hfp:Fs.put ⟨st1,t1,y9⟩ k {ei.n with bE:=ei.n.bE-1}=f2 at *
   clear h1 e1 Xn hfp;by_cases hl:0<ei.n.bE-1
   .rw[if_pos hl] at dR;rw[dR];refine aO f95 ?_;dsimp only[j5,eM];(repeat' (first|refine' aX|refine' tJ|refine' yB|refine' V7|refine' AL|refine' C7|refine' KW|refine' KX|refine' KY|refine' GF|refine' ar|fail))
    all_goals try refine cI
    all_goals refine mw (v':=ph) bB bj aq rfl
   .rw[if_neg hl] at dR;cases Mu:y9 with
    |true=>
     rw[Mu,if_pos rfl] at dR;rw[dR];subst Mu;refine aO f95 ?_;dsimp only[j5,eM];(repeat' (first|refine' aX|refine' tJ|refine' yB|refine' V7|refine' AL|refine' C7|refine' KW|refine' KX|refine' KY|refine' ar|fail))
     all_goals refine' zaC
    |false=>
     rw[Mu,if_neg (by decide)] at dR;obtain⟨o,ho,J7,mg⟩:=iK Mu;subst Mu;rcases oK:dX st1 t1 k with⟨eI,t2,ok⟩
     have hdrp:∀(dI:SA) s,eP aU aW 147 [fF dI st1,tv t1,iv k] s [] dI st1 eI true (Bp t2 ok):=λdI s=>by
      have:=OE s dI st1 (hs2.mono af) t1 ht2 k hk o ho J7 mg;rw[oK] at this;exact this
     rw[oK] at dR;simp only at dR;rw[dR];refine aO f95 ?_;dsimp only[j5,eM];(repeat' (first|refine' aX|refine' tJ|refine' yB|refine' V7|refine' AL|refine' C7|refine' KW|refine' KX|refine' KY|((with_reducible apply WO.mQ);exact aD;(first|exact λs=>hdrp _ s);exact eu;intro _ _ OT _ _ k_l11DropW)|refine' ar|fail))
     all_goals try refine cI
     all_goals refine mw (v':=OT) bB bj aq rfl
end Go.Pl
