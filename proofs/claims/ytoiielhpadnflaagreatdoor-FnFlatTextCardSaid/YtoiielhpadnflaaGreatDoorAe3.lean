/- Lemmas of the proof. No conditions. -/
import Derived.Test.YtoiielhpadnflaaGreatDoorAe2
set_option maxRecDepth 100000
set_option maxHeartbeats 4000000
set_option linter.unusedVariables false
set_option linter.unusedSimpArgs false
open Go.Proofs.Tryz
namespace Go.Pl
open Go Go.Ev Go.Lg Go.Proofs
variable {E:iq}{X:fY}{Γ:qN}{l:Kn}{L:dy}{K:KO}{g:FuncId}{xs:List Operand}{ts:Array TypeId}{vs:aY}{v:SA}{f:Fs}{b:Nat}{r:Value}{st:ar}{a:aS}{p:List bE}{i:Nat}
theorem Nb (s:St)(b:Nat)(v:SA)(st:ar)(t:cB)(h:dv 39000 st)(ht:dZ t)(pf:Pg.FS st t)(o:Op)(hz:o.ag.length<=90000)(hp:aT o.ag=true)(ha:0<=o.at_/\o.at_<=192)(Cb:o.a8.length<=24):
  mO bf bw 103 [bk b,ov o] s b v ⟨st,t,false⟩ (Fs.change ⟨st,t,false⟩ o).1 (iv (Fs.change ⟨st,t,false⟩ o).2):=by
 have u6:dv 100000 st:=h.mono af;have dP:Fs.change ⟨st,t,false⟩ o=if Fs.db ⟨st,t,false⟩ o.ag<0 then(⟨st,t,false⟩,2) else if(Fs.node ⟨st,t,false⟩ (Fs.db ⟨st,t,false⟩ o.ag)).kind≠1 then(⟨st,t,false⟩,4) else if 192<o.at_+o.a8.length then(⟨st,t,false⟩,6) else
   match(if o.kind=3 then fF st (Fs.node ⟨st,t,false⟩ (Fs.db ⟨st,t,false⟩ o.ag)) o.at_.toNat o.a8 else fq st (Fs.node ⟨st,t,false⟩ (Fs.db ⟨st,t,false⟩ o.ag)) o.at_.toNat) with
   |(eI,n,ok)=>((Fs.put ⟨eI,t,!ok⟩ (Fs.db ⟨st,t,false⟩ o.ag) n,(0:Int)):Fs×Int):=rfl
 obtain⟨G,l0,q0,hF,hG⟩:=pf;have Oe:∀s,lI s b v ⟨st,t,false⟩->bL 154 [bk b,sv o.ag] s (ua b v) (iv (Fs.db ⟨st,t,false⟩ o.ag)):=λs hr=>qc s b v ⟨st,t,false⟩ u6 ht o.ag hz hp hr
 by_cases h1:Fs.db ⟨st,t,false⟩ o.ag<0
 .rw[if_pos h1] at dP;rw[dP];generalize Fs.db ⟨st,t,false⟩ o.ag=w at *
  refine aX f103 ?_;dsimp only[kh,eK];repeat' (first|refine' aZ|refine' ux|refine' av|fail)
  all_goals try exact pE
  refine mY (v':=v) cy bY au rfl
 .rw[if_neg h1] at dP;obtain⟨k,e1,e2⟩:=Pg.iy hF h1;obtain⟨e,he⟩:=Pg.jn hG e2;have hk:k<16:=(hF.lt he).2;have D9:Fs.node ⟨st,t,false⟩ (k:Int)=e.n:=by rw[Pg.nC hF,he];rfl
  rw[e1,D9] at dP;rw[e1] at Oe;have pR:∀s,lI s b v ⟨st,t,false⟩->bL 155 [bk b,iv k] s (ua b v) (nv e.n):=λs hr=>by rw[<-D9];exact tU s b v ⟨st,t,false⟩ u6 ht k af hr
  by_cases h2:e.n.kind≠1
  .rw[if_pos h2] at dP;rw[dP];clear h1 e1;refine aX f103 ?_;dsimp only[kh,eK];refine' RE
   (all_goals first|(exfalso;omega;done)|(exfalso;exact h2 aP)|skip);refine mY (v':=v) cy bY au rfl
  .rw[if_neg h2] at dP;have h2:e.n.kind=1:=by simpa using h2
   by_cases h3:192<o.at_+(o.a8.length:Int)
   .rw[if_pos h3] at dP;rw[dP];clear h1 e1;refine aX f103 ?_;dsimp only[kh,eK];refine' RE
    (all_goals try refine cI);refine mY (v':=v) cy bY au rfl
   .rw[if_neg h3] at dP;have Hp:∃ln qn,Pg.pq st e.n ln qn:=by
     obtain⟨ln,qn,hq,hh⟩:=((hF.at_ k).some he).2;rcases hh with⟨_,hh⟩|hh
     .exact⟨ln,qn,hh⟩
     .have:=hh.kd;rw[h2] at this;cases this
    obtain⟨ln,qn,D7⟩:=Hp;have WK:=Pg.nz D7.tr D7.sz.1 D7.mn D7.ft;have iX:=D7.sz;have yr:=D7.mn;have FA:j6 e.n:=j6.of D7.ok;obtain⟨a,hta⟩:∃a:Nat,o.at_=(a:Int):=⟨o.at_.toNat,af⟩;rw[hta] at dP h3 ha;rw[uM] at dP;have hhw:=xe (n:=39000) (u:=e.n) (z:=o.a8) (a:=a) h FA af af;have hhc:=BX (n:=39000) (u:=e.n) (a:=a) h FA af af;rw[dP];by_cases h4:o.kind=3
    .rw[if_pos h4];rcases hw:fF st e.n a o.a8 with⟨eI,n2,ok⟩
     rw[hw] at hhw;have mZ:∀(dH:SA) s,eO bf bw 161 [fI dH st,nv e.n,iv o.at_,sv o.a8] s [] dH st eI true (ER n2 ok):=λdH s=>by
      have:=M0 s dH st (h.mono af) e.n FA a o.a8 af af;rw[hw] at this;rw[hta];exact this
     (have dD:∀(dH:SA) s,mO bf bw 150 [bk b,iv k,nv n2] s b dH ⟨eI,t,!ok⟩ (Fs.put ⟨eI,t,!ok⟩ k n2) (.tuple ⟨[]⟩):=λdH s=>sJ s b dH ⟨eI,t,!ok⟩ (hhw.1.mono af) ht k hk _);refine' zaX;clear h1 e1 hhw hhc hw D7 yr;refine aX f103 ?_;dsimp only[kh,eK];(repeat' (first|refine' aZ|refine' ux|refine' zu|((with_reducible apply WO.nE);exact aD;exact λs=>mZ _ s;exact dU;intro _ _ adH _ _ adI)|refine' HH|refine' av|fail));(all_goals try refine cI);all_goals refine mY (v':=pN) cy bY au rfl
    .rw[if_neg h4];rcases hw:fq st e.n a with⟨eI,n2,ok⟩
     rw[hw] at hhc;have mZ:∀(dH:SA) s,eO bf bw 162 [fI dH st,nv e.n,iv o.at_] s [] dH st eI true (ER n2 ok):=λdH s=>by
      have:=Uh s dH st (h.mono af) e.n FA a af af af yr;rw[hw] at this;rw[hta];exact this
     (have dD:∀(dH:SA) s,mO bf bw 150 [bk b,iv k,nv n2] s b dH ⟨eI,t,!ok⟩ (Fs.put ⟨eI,t,!ok⟩ k n2) (.tuple ⟨[]⟩):=λdH s=>sJ s b dH ⟨eI,t,!ok⟩ (hhc.1.mono af) ht k hk _);refine' zaX;clear h1 e1 hhw hhc hw D7 yr;refine aX f103 ?_;dsimp only[kh,eK];(repeat' (first|refine' aZ|refine' ux|refine' zu|((with_reducible apply WO.nE);exact aD;exact λs=>mZ _ s;exact dU;intro _ _ agx _ _ agy)|refine' HH|refine' av|fail));(all_goals try refine cI);all_goals refine mY (v':=pN) cy bY au rfl
end Go.Pl
namespace Go.Pl
variable {st:ar}{t:cB}{o:Op}{to:aC}
theorem Nc {n:Nat}(h:dv n st)(ht:dZ t)(pf:Pg.FS st t){z:aC}(hp:aT z=true)(kind:Int):sK (n+1730) (Fs.make ⟨st,t,false⟩ z kind).1:=by
 have h0:sK (n+1730) ⟨st,t,false⟩:=⟨h.mono af,ht⟩;have mF:Fs.make ⟨st,t,false⟩ z kind=if 0<(Fs.cu ⟨st,t,false⟩ z).2 then(⟨st,t,false⟩,(Fs.cu ⟨st,t,false⟩ z).2) else
   match vc st t with
   |none=>(⟨st,t,false⟩,6)
   |some id=>if 12<=(Fs.bG ⟨st,t,false⟩ (Fs.cu ⟨st,t,false⟩ z).1).length then(⟨st,t,false⟩,6) else((Fs.bh (Fs.put ⟨st,t,false⟩ id ⟨kind,1,0,eY⟩) (Fs.cu ⟨st,t,false⟩ z).1 (gx (Fs.bG ⟨st,t,false⟩ (Fs.cu ⟨st,t,false⟩ z).1) ⟨Fs.base z,id⟩)),0):=rfl
 obtain⟨G,l0,q0,hF,hG⟩:=pf;rw[mF];by_cases hc:0<(Fs.cu ⟨st,t,false⟩ z).2
 .rw[if_pos hc];exact h0
 .rw[if_neg hc];obtain⟨at_,e,e1,e2,e3,e4,e5,e6,e7⟩:=Pg.sF hF hp hc;have pD:at_<16:=(hF.lt e4).2;rw[e1];cases hid:vc st t with
  |none=>exact h0
  |some id=>
   obtain⟨adJ,_⟩:=Pg.D4 hF hid;simp only;split
   .exact h0
   .exact(sK.bh (sK.put (n:=n) ⟨h,ht⟩ af _) af _).mono af
theorem P0 {n:Nat}(h:dv n st)(ht:dZ t)(pf:Pg.FS st t)(ha:0<=o.at_/\o.at_<=192):sK (n+1730) (Fs.change ⟨st,t,false⟩ o).1:=by
 have h0:sK (n+1730) ⟨st,t,false⟩:=⟨h.mono af,ht⟩;have dP:Fs.change ⟨st,t,false⟩ o=if Fs.db ⟨st,t,false⟩ o.ag<0 then(⟨st,t,false⟩,2) else if(Fs.node ⟨st,t,false⟩ (Fs.db ⟨st,t,false⟩ o.ag)).kind≠1 then(⟨st,t,false⟩,4) else if 192<o.at_+o.a8.length then(⟨st,t,false⟩,6) else
   match(if o.kind=3 then fF st (Fs.node ⟨st,t,false⟩ (Fs.db ⟨st,t,false⟩ o.ag)) o.at_.toNat o.a8 else fq st (Fs.node ⟨st,t,false⟩ (Fs.db ⟨st,t,false⟩ o.ag)) o.at_.toNat) with
   |(eI,n,ok)=>((Fs.put ⟨eI,t,!ok⟩ (Fs.db ⟨st,t,false⟩ o.ag) n,(0:Int)):Fs×Int):=rfl
 obtain⟨G,l0,q0,hF,hG⟩:=pf;rw[dP];by_cases h1:Fs.db ⟨st,t,false⟩ o.ag<0
 .rw[if_pos h1];exact h0
 rw[if_neg h1];obtain⟨k,e1,e2⟩:=Pg.iy hF h1;obtain⟨e,he⟩:=Pg.jn hG e2;have hk:k<16:=(hF.lt he).2;have D9:Fs.node ⟨st,t,false⟩ (k:Int)=e.n:=by rw[Pg.nC hF,he];rfl
 rw[e1,D9];by_cases h2:e.n.kind≠1
 .rw[if_pos h2];exact h0
 rw[if_neg h2];have h2:e.n.kind=1:=by simpa using h2
 by_cases h3:192<o.at_+(o.a8.length:Int)
 .rw[if_pos h3];exact h0
 rw[if_neg h3];have Hp:∃ln qn,Pg.pq st e.n ln qn:=by
  obtain⟨ln,qn,hq,hh⟩:=((hF.at_ k).some he).2;rcases hh with⟨_,hh⟩|hh
  .exact⟨ln,qn,hh⟩
  .have:=hh.kd;rw[h2] at this;cases this
 obtain⟨ln,qn,D7⟩:=Hp;have WK:=Pg.nz D7.tr D7.sz.1 D7.mn D7.ft;have iX:=D7.sz;have FA:j6 e.n:=j6.of D7.ok;have hhw:=xe (n:=n) (u:=e.n) (z:=o.a8) (a:=o.at_.toNat) h FA af af;have hhc:=BX (n:=n) (u:=e.n) (a:=o.at_.toNat) h FA af af;split;rename_i eI n2 ok heq;have afq:dv (n+600) eI:=by
  by_cases h4:o.kind=3
  .rw[if_pos h4] at heq;rw[heq] at hhw;exact hhw.1
  .rw[if_neg h4] at heq;rw[heq] at hhc;exact hhc.1
 exact(sK.put (f:=⟨eI,t,!ok⟩) ⟨afq,ht⟩ af _).mono af
theorem Y0 {n:Nat}(h:dv n st)(hn:n<=80000)(ht:dZ t)(pf:Pg.FS st t){z:aC}(hp:aT z=true):sK (n+1730) (Fs.qu ⟨st,t,false⟩ z).1:=by
 have h0:sK (n+1730) ⟨st,t,false⟩:=⟨h.mono af,ht⟩;have dP:Fs.qu ⟨st,t,false⟩ z=if Fs.db ⟨st,t,false⟩ z<0 then(⟨st,t,false⟩,2) else if Fs.db ⟨st,t,false⟩ z=0\/((Fs.node ⟨st,t,false⟩ (Fs.db ⟨st,t,false⟩ z)).kind=2/\0<(Fs.node ⟨st,t,false⟩ (Fs.db ⟨st,t,false⟩ z)).size) then(⟨st,t,false⟩,5) else
   (let f1:=Fs.bh ⟨st,t,false⟩ (Fs.bP ⟨st,t,false⟩ z).1 (ek (Fs.bG ⟨st,t,false⟩ (Fs.bP ⟨st,t,false⟩ z).1) ((ey (Fs.bG ⟨st,t,false⟩ (Fs.bP ⟨st,t,false⟩ z).1) (Fs.base z)).getD 0))
    let n1:iE:={Fs.node ⟨st,t,false⟩ (Fs.db ⟨st,t,false⟩ z) with bF:=(Fs.node ⟨st,t,false⟩ (Fs.db ⟨st,t,false⟩ z)).bF-1}
    if 0<n1.bF then(f1.put (Fs.db ⟨st,t,false⟩ z) n1,0) else if f1.cq then(f1,0) else match gg f1.st f1.t (Fs.db ⟨st,t,false⟩ z) with
     |(eI,t2,ok)=>((⟨eI,t2,!ok⟩,0):Fs×Int)):=rfl
 obtain⟨G,l0,q0,hF,hG⟩:=pf;rw[dP];by_cases h1:Fs.db ⟨st,t,false⟩ z<0
 .rw[if_pos h1];exact h0
 rw[if_neg h1];obtain⟨k,e1,e2⟩:=Pg.iy hF h1;obtain⟨ei,qT⟩:=Pg.jn hG e2;have hk:k<16:=(hF.lt qT).2;have D9:Fs.node ⟨st,t,false⟩ (k:Int)=ei.n:=by rw[Pg.nC hF,qT];rfl
 rw[e1,D9];by_cases h2:(k:Int)=0\/(ei.n.kind=2/\0<ei.n.size)
 .rw[if_pos h2];exact h0
 rw[if_neg h2];have SO:k≠0:=λhc=>h2 (.inl af)
 obtain⟨at_,e,i,p1,p2,p3,p4,p5,p6,p7,p8⟩:=Pg.sG hF hG e2 SO;have jw:Fs.bG ⟨st,t,false⟩ (at_:Int)=e.es:=Pg.mf hF false p3 p4;have tw:bC e.es=true:=by have:=Pg.pM hG.wf at_;rwa [Pg.dR p3] at this
 have zh:=Pg.JB tw (Pg.jm e.es i);have PY:at_<16:=(hF.lt p3).2;have Dc:Pg.bG G k=[]:=by
  rw[Pg.dR qT];obtain⟨ln,qn,hq,⟨h0,_⟩|hd⟩:=((hF.at_ k).some qT).2
  .exact h0
  .have iX:=hd.sz;have V0:=hd.kd;by_cases hc:ei.es=[]
   .exact hc
   .have h3:=(Pg.l8 hd.eo).2 hc;exact absurd (.inr ⟨V0,af⟩) h2
 refine' zbd;rw[p1];simp only;rw[jw,p5,qd];have Ct:sK (n+630) (Fs.bh ⟨st,t,false⟩ at_ (ek e.es i)):=sK.bh (n:=n) ⟨h,ht⟩ af _;split
 .exact(sK.put Ct af _).mono af
 split
 .exact Ct.mono af
 .rename_i hf;have hf:(Fs.bh ⟨st,t,false⟩ at_ (ek e.es i)).cq=false:=by simpa using hf
  obtain⟨e',l1,q1,yu,g1,g2,g3⟩:=Pg.oW hF p3 p4 zh hf;obtain⟨o,ho,QQ,og⟩:=yu.all (k:=k) (e:=ei) (by rw[Pg.fN _ _ (λh=>pD h.symm)];exact qT);have:=Uo Ct.st af Ct.t hk ho QQ og;rcases pL:gg (Fs.bh ⟨st,t,false⟩ at_ (ek e.es i)).st (Fs.bh ⟨st,t,false⟩ at_ (ek e.es i)).t k with⟨eI,t2,ok⟩;rw[pL] at this;exact⟨this.1.mono af,this.2⟩
theorem Y1 {n:Nat}(h:dv n st)(ht:dZ t)(pf:Pg.FS st t){z to:aC}(uJ:aT to=true):sK (n+1730) (Fs.link ⟨st,t,false⟩ z to).1:=by
 have h0:sK (n+1730) ⟨st,t,false⟩:=⟨h.mono af,ht⟩;have mF:Fs.link ⟨st,t,false⟩ z to=if Fs.db ⟨st,t,false⟩ z<0 then(⟨st,t,false⟩,2) else if(Fs.node ⟨st,t,false⟩ (Fs.db ⟨st,t,false⟩ z)).kind≠1 then(⟨st,t,false⟩,4) else if 0<(Fs.cu ⟨st,t,false⟩ to).2 then(⟨st,t,false⟩,(Fs.cu ⟨st,t,false⟩ to).2) else
   if 9<=(Fs.node ⟨st,t,false⟩ (Fs.db ⟨st,t,false⟩ z)).bF\/12<=(Fs.bG ⟨st,t,false⟩ (Fs.cu ⟨st,t,false⟩ to).1).length then(⟨st,t,false⟩,6) else
   ((Fs.bh (Fs.put ⟨st,t,false⟩ (Fs.db ⟨st,t,false⟩ z) {Fs.node ⟨st,t,false⟩ (Fs.db ⟨st,t,false⟩ z) with bF:=(Fs.node ⟨st,t,false⟩ (Fs.db ⟨st,t,false⟩ z)).bF+1}) (Fs.cu ⟨st,t,false⟩ to).1 (gx (Fs.bG ⟨st,t,false⟩ (Fs.cu ⟨st,t,false⟩ to).1) ⟨Fs.base to,Fs.db ⟨st,t,false⟩ z⟩)),0):=rfl
 obtain⟨G,l0,q0,hF,hG⟩:=pf;rw[mF];by_cases h1:Fs.db ⟨st,t,false⟩ z<0
 .rw[if_pos h1];exact h0
 rw[if_neg h1];obtain⟨k,e1,e2⟩:=Pg.iy hF h1;obtain⟨ei,qT⟩:=Pg.jn hG e2;have hk:k<16:=(hF.lt qT).2;rw[e1];split
 .exact h0
 by_cases hc:0<(Fs.cu ⟨st,t,false⟩ to).2
 .rw[if_pos hc];exact h0
 rw[if_neg hc];obtain⟨at_,e,f1,f2,f3,f4,f5,f6,f7⟩:=Pg.sF hF uJ hc;have pD:at_<16:=(hF.lt f4).2;rw[f1];split
 .exact h0
 .exact(sK.bh (sK.put (n:=n) ⟨h,ht⟩ af _) af _).mono af
theorem Y2 {n:Nat}(h:dv n st)(ht:dZ t)(pf:Pg.FS st t){z to:aC}(hp:aT z=true)(uJ:aT to=true):sK (n+1730) (Fs.move ⟨st,t,false⟩ z to).1:=by
 have h0:sK (n+1730) ⟨st,t,false⟩:=⟨h.mono af,ht⟩;have mF:Fs.move ⟨st,t,false⟩ z to=if Fs.db ⟨st,t,false⟩ z<0 then(⟨st,t,false⟩,2) else if Fs.db ⟨st,t,false⟩ z=0 then(⟨st,t,false⟩,5) else if 0<=Fs.db ⟨st,t,false⟩ to then(⟨st,t,false⟩,3) else if under to z=true then(⟨st,t,false⟩,5) else
   if 0<(Fs.bP ⟨st,t,false⟩ to).2 then(⟨st,t,false⟩,(Fs.bP ⟨st,t,false⟩ to).2) else
   if(Fs.bP ⟨st,t,false⟩ to).1≠(Fs.bP ⟨st,t,false⟩ z).1/\12<=(Fs.bG ⟨st,t,false⟩ (Fs.bP ⟨st,t,false⟩ to).1).length then(⟨st,t,false⟩,6) else
   if(Fs.bP ⟨st,t,false⟩ to).1=(Fs.bP ⟨st,t,false⟩ z).1 then(Fs.bh ⟨st,t,false⟩ (Fs.bP ⟨st,t,false⟩ to).1 (gx (ek (Fs.bG ⟨st,t,false⟩ (Fs.bP ⟨st,t,false⟩ z).1) ((ey (Fs.bG ⟨st,t,false⟩ (Fs.bP ⟨st,t,false⟩ z).1) (Fs.base z)).getD 0)) ⟨Fs.base to,Fs.db ⟨st,t,false⟩ z⟩),0) else
   (Fs.bh (Fs.bh ⟨st,t,false⟩ (Fs.bP ⟨st,t,false⟩ z).1 (ek (Fs.bG ⟨st,t,false⟩ (Fs.bP ⟨st,t,false⟩ z).1) ((ey (Fs.bG ⟨st,t,false⟩ (Fs.bP ⟨st,t,false⟩ z).1) (Fs.base z)).getD 0))) (Fs.bP ⟨st,t,false⟩ to).1 (gx (Fs.bG (Fs.bh ⟨st,t,false⟩ (Fs.bP ⟨st,t,false⟩ z).1 (ek (Fs.bG ⟨st,t,false⟩ (Fs.bP ⟨st,t,false⟩ z).1) ((ey (Fs.bG ⟨st,t,false⟩ (Fs.bP ⟨st,t,false⟩ z).1) (Fs.base z)).getD 0))) (Fs.bP ⟨st,t,false⟩ to).1) ⟨Fs.base to,Fs.db ⟨st,t,false⟩ z⟩),0):=rfl
 obtain⟨G,l0,q0,hF,hG⟩:=pf;rw[mF];by_cases h1:Fs.db ⟨st,t,false⟩ z<0
 .rw[if_pos h1];exact h0
 rw[if_neg h1];obtain⟨k,e1,e2⟩:=Pg.iy hF h1;by_cases SO:k=0
 .rw[e1,if_pos af];exact h0
 rw[e1,if_neg af];split
 .exact h0
 split
 .exact h0
 by_cases h5:0<(Fs.bP ⟨st,t,false⟩ to).2
 .rw[if_pos h5];exact h0
 rw[if_neg h5];obtain⟨at_,e,a1,a2,a3,a4,a5⟩:=Pg.zg hF h5;obtain⟨fr,ef,i,p1,p2,p3,p4,p5,p6,p7,p8⟩:=Pg.sG hF hG e2 SO;have PY:at_<16:=(hF.lt a4).2;have afC:fr<16:=(hF.lt p3).2;rw[a1,p1];simp only;by_cases h6:(at_:Int)≠fr/\12<=(Fs.bG ⟨st,t,false⟩ (at_:Int)).length
 .rw[if_pos h6];exact h0
 rw[if_neg h6];have N6:∀(k:Nat) l,k<16->sK (n+630) (Fs.bh ⟨st,t,false⟩ (k:Int) l):=λk l hk=>sK.bh (n:=n) (f:=⟨st,t,false⟩) ⟨h,ht⟩ af l
 by_cases h7:(at_:Int)=fr
 .rw[if_pos h7];dsimp only;exact(N6 at_ _ PY).mono af
 .rw[if_neg h7];dsimp only;exact(sK.bh (N6 fr _ afC) (k:=(at_:Int)) af _).mono af
theorem E1 {n:Nat}(h:dv n st)(hn:n<=80000)(ht:dZ t)(pf:Pg.FS st t)(ho:kV o=true):dv (n+1730) (gW st t o).1/\dZ (gW st t o).2.1:=by
 obtain⟨o1,o2,o3,o4⟩:=Pg.AJ ho;unfold gW;simp only;have key:∀r:Fs×Int,sK (n+1730) r.1->dv (n+1730) (if(if r.2=0/\r.1.cq=true then 7 else r.2)≠0 then(st,t,(if r.2=0/\r.1.cq=true then 7 else r.2)) else(r.1.st,r.1.t,(if r.2=0/\r.1.cq=true then 7 else r.2))).1/\dZ (if(if r.2=0/\r.1.cq=true then 7 else r.2)≠0 then(st,t,(if r.2=0/\r.1.cq=true then 7 else r.2)) else(r.1.st,r.1.t,(if r.2=0/\r.1.cq=true then 7 else r.2))).2.1:=λr hr=>by
  generalize(if r.2=0/\r.1.cq=true then(7:Int) else r.2)=c;split
  .exact⟨h.mono af,ht⟩
  .exact⟨hr.st,hr.t⟩
 refine key _ ?_;split
 .exact Nc h ht pf o1 1
 split
 .exact Nc h ht pf o1 2
 split
 .exact Y0 h hn ht pf o1
 split
 .rename_i hk;exact Y1 h ht pf (o2 (.inl hk))
 split
 .rename_i hk;exact Y2 h ht pf o1 (o2 (.inr hk))
 .exact P0 h ht pf ⟨o3,o4⟩
end Go.Pl
namespace Go.Pl
open Go Go.Ev Go.Lg Go.Proofs
theorem abR (s:St)(o:Op)(h1:o.ag.length<=90000)(h2:o.to.length<=90000)(h3:o.a8.length<=90000):bL 63 [ov o] s [] (.bool (kV o)):=by
 refine' zap
 generalize kV o=r at *
 refine aX f63 ?_;repeat' (first|refine' aZ|refine' Od|refine' aeW|refine' av|fail)
 all_goals refine' zaC
 all_goals(rw[e];simp_all [gK,fM];try omega)
theorem E2 {z:aC}(hp:aT z=true)(hn:aI z≠[]):(Fs.base z).length<=1000:=by have:=Pg.JE hp hn;unfold aV at this;simp only[bI,bR] at this;omega
theorem Ig (s:St)(b:Nat)(v:SA)(st:ar)(t:cB)(h:dv 50000 st)(ht:dZ t)(pf:Pg.FS st t)(z:aC)(hz:z.length<=90000)(hp:aT z=true)(kind:Int)(hk:kind=1\/kind=2):
  mO bf bw 99 [bk b,sv z,iv kind] s b v ⟨st,t,false⟩ (Fs.make ⟨st,t,false⟩ z kind).1 (iv (Fs.make ⟨st,t,false⟩ z kind).2):=by
 have u6:dv 100000 st:=h.mono af;have mF:Fs.make ⟨st,t,false⟩ z kind=if 0<(Fs.cu ⟨st,t,false⟩ z).2 then(⟨st,t,false⟩,(Fs.cu ⟨st,t,false⟩ z).2) else
   match vc st t with
   |none=>(⟨st,t,false⟩,6)
   |some id=>if 12<=(Fs.bG ⟨st,t,false⟩ (Fs.cu ⟨st,t,false⟩ z).1).length then(⟨st,t,false⟩,6) else((Fs.bh (Fs.put ⟨st,t,false⟩ id ⟨kind,1,0,eY⟩) (Fs.cu ⟨st,t,false⟩ z).1 (gx (Fs.bG ⟨st,t,false⟩ (Fs.cu ⟨st,t,false⟩ z).1) ⟨Fs.base z,id⟩)),0):=rfl
 have C6:∀s,lI s b v ⟨st,t,false⟩->bL 147 [bk b,sv z] s (ua b v) (.tuple ⟨[iv (Fs.cu ⟨st,t,false⟩ z).1,iv (Fs.cu ⟨st,t,false⟩ z).2]⟩):=λs hr=>EY s b v _ u6 ht z hz hp hr
 have Mw:∀s,cS s v st->bL 148 [fI v st,tv t] s (iH v) (iv (Yx (vc st t))):=λs hr=>PG s v st u6 t ht hr
 obtain⟨G,l0,q0,hF,hG⟩:=pf;by_cases hc:0<(Fs.cu ⟨st,t,false⟩ z).2
 .rw[if_pos hc] at mF;rw[mF];generalize Fs.cu ⟨st,t,false⟩ z=fr at *
  refine aX f99 ?_;dsimp only[kh,eK];repeat' (first|refine' aZ|refine' EA|refine' av|fail)
  all_goals try exact pE
  refine mY (v':=v) cy bY au rfl
 .obtain⟨at_,e,e1,e2,e3,e4,e5,e6,e7⟩:=Pg.sF hF hp hc;have jw:Fs.bG ⟨st,t,false⟩ (at_:Int)=e.es:=Pg.mf hF false e4 e5;have pD:at_<16:=(hF.lt e4).2;have heb:=vC ⟨st,t,false⟩ (at_:Int);have PF:=E2 hp e2;rw[if_neg hc,e1,jw] at mF;rw[e1] at C6;rw[jw] at heb;have aiZ:=heb.1;have Wp:∀s,lI s b v ⟨st,t,false⟩->eu bf bw 149 [bk b,iv at_] s (ua b v) 198 e.es:=λs hr=>by
   refine' zbc
  have qQ:(Fs.cu ⟨st,t,false⟩ z).2<=0:=by omega
  generalize(Fs.cu ⟨st,t,false⟩ z).2=fc at *
  cases hid:vc st t with
  |none=>
   rw[hid] at mF Mw;simp only at mF;rw[mF];refine aX f99 ?_;dsimp only[kh,eK];(repeat' (first|refine' aZ|refine' EA|refine' Ya|refine' BI|refine' av|fail));all_goals refine' zay
  |some id=>
   obtain⟨adJ,_⟩:=Pg.D4 hF hid;rw[hid] at mF Mw;simp only at mF;have Mw:∀s,cS s v st->bL 148 [fI v st,tv t] s (iH v) (iv id):=Mw;by_cases Ar:12<=e.es.length
   .rw[if_pos Ar] at mF;rw[mF];refine aX f99 ?_;dsimp only[kh,eK];repeat' (first|refine' aZ|refine' EA|refine' Ya|refine' BI|refine' av|fail)
    (all_goals try refine cI);all_goals refine mY (v':=v) cy bY au rfl
   .rw[if_neg Ar] at mF;have FK:∀a c s,bM s a e.es.length 2 (ai e.es)->eu bf bw 152 [.slice a e.es.length c,.agg ⟨[sv (Fs.base z),iv id]⟩] s (aj a) 198 (gx e.es ⟨Fs.base z,id⟩):=λa c s hr=>wh s a c e.es ⟨Fs.base z,id⟩ af hr
    have lS:=zJ (x:=⟨Fs.base z,id⟩) heb ⟨PF,by show(0:Int)<=(id:Int);omega,by show(id:Int)<=1000;omega⟩;have dD:∀(dH:SA) s,mO bf bw 150 [bk b,iv id,.agg ⟨[iv kind,.int .i64 1,cg,cg,cg,cg,cg,cg,cg,cg]⟩] s b dH ⟨st,t,false⟩ (Fs.put ⟨st,t,false⟩ id ⟨kind,1,0,eY⟩) (.tuple ⟨[]⟩):=λdH s=>sJ s b dH ⟨st,t,false⟩ (h.mono af) ht id adJ ⟨kind,1,0,eY⟩
    have Ct:sK 50030 (Fs.put ⟨st,t,false⟩ id ⟨kind,1,0,eY⟩):=sK.put (n:=50000) ⟨h,ht⟩ af _;generalize Fs.put ⟨st,t,false⟩ id ⟨kind,1,0,eY⟩=f1 at *
    generalize gx e.es ⟨Fs.base z,id⟩=wX at *
    refine' zaq;rw[mF];refine aX f99 ?_;dsimp only[kh,eK];(repeat' (first|refine' aZ|refine' EA|refine' Ya|refine' BI|refine' Ey|refine' Rz|refine' HH|refine' Mt|refine' av|fail));all_goals refine' zaD
theorem Uq (s:St)(b:Nat)(v:SA)(st:ar)(t:cB)(h:dv 50000 st)(ht:dZ t)(pf:Pg.FS st t)(z:aC)(hz:z.length<=90000)(hp:aT z=true)(to:aC)(hzt:to.length<=90000)(uJ:aT to=true):
  mO bf bw 101 [bk b,sv z,sv to] s b v ⟨st,t,false⟩ (Fs.link ⟨st,t,false⟩ z to).1 (iv (Fs.link ⟨st,t,false⟩ z to).2):=by
 have u6:dv 100000 st:=h.mono af;have mF:Fs.link ⟨st,t,false⟩ z to=if Fs.db ⟨st,t,false⟩ z<0 then(⟨st,t,false⟩,2) else if(Fs.node ⟨st,t,false⟩ (Fs.db ⟨st,t,false⟩ z)).kind≠1 then(⟨st,t,false⟩,4) else if 0<(Fs.cu ⟨st,t,false⟩ to).2 then(⟨st,t,false⟩,(Fs.cu ⟨st,t,false⟩ to).2) else
   if 9<=(Fs.node ⟨st,t,false⟩ (Fs.db ⟨st,t,false⟩ z)).bF\/12<=(Fs.bG ⟨st,t,false⟩ (Fs.cu ⟨st,t,false⟩ to).1).length then(⟨st,t,false⟩,6) else
   ((Fs.bh (Fs.put ⟨st,t,false⟩ (Fs.db ⟨st,t,false⟩ z) {Fs.node ⟨st,t,false⟩ (Fs.db ⟨st,t,false⟩ z) with bF:=(Fs.node ⟨st,t,false⟩ (Fs.db ⟨st,t,false⟩ z)).bF+1}) (Fs.cu ⟨st,t,false⟩ to).1 (gx (Fs.bG ⟨st,t,false⟩ (Fs.cu ⟨st,t,false⟩ to).1) ⟨Fs.base to,Fs.db ⟨st,t,false⟩ z⟩)),0):=rfl
 have C6:∀s,lI s b v ⟨st,t,false⟩->bL 147 [bk b,sv to] s (ua b v) (.tuple ⟨[iv (Fs.cu ⟨st,t,false⟩ to).1,iv (Fs.cu ⟨st,t,false⟩ to).2]⟩):=λs hr=>EY s b v _ u6 ht to hzt uJ hr
 have Oe:∀s,lI s b v ⟨st,t,false⟩->bL 154 [bk b,sv z] s (ua b v) (iv (Fs.db ⟨st,t,false⟩ z)):=λs hr=>qc s b v ⟨st,t,false⟩ u6 ht z hz hp hr
 obtain⟨G,l0,q0,hF,hG⟩:=pf;by_cases h1:Fs.db ⟨st,t,false⟩ z<0
 .rw[if_pos h1] at mF;rw[mF];generalize Fs.db ⟨st,t,false⟩ z=w at *
  refine aX f101 ?_;dsimp only[kh,eK];repeat' (first|refine' aZ|refine' ux|refine' av|fail)
  all_goals try exact pE
  refine mY (v':=v) cy bY au rfl
 .rw[if_neg h1] at mF;obtain⟨k,e1,e2⟩:=Pg.iy hF h1;obtain⟨ei,qT⟩:=Pg.jn hG e2;have hk:k<16:=(hF.lt qT).2;have D9:Fs.node ⟨st,t,false⟩ (k:Int)=ei.n:=by rw[Pg.nC hF,qT];rfl
  rw[e1,D9] at mF;rw[e1] at Oe;have pR:∀s,lI s b v ⟨st,t,false⟩->bL 155 [bk b,iv k] s (ua b v) (nv ei.n):=λs hr=>by rw[<-D9];exact tU s b v ⟨st,t,false⟩ u6 ht k af hr
  have LX: -1000<=ei.n.bF/\ei.n.bF<=1000:=by
   have:=Pg.kZ ((hF.at_ k).some qT).2.ok;omega
  clear h1 e1;by_cases h2:ei.n.kind≠1
  .rw[if_pos h2] at mF;rw[mF];refine aX f101 ?_;dsimp only[kh,eK];refine' RE
   (all_goals first|(exfalso;omega;done)|(exfalso;exact h2 aP)|skip);all_goals refine mY (v':=v) cy bY au rfl
  .rw[if_neg h2] at mF;have h2:ei.n.kind=1:=by simpa using h2
   by_cases hc:0<(Fs.cu ⟨st,t,false⟩ to).2
   .rw[if_pos hc] at mF;rw[mF];generalize Fs.cu ⟨st,t,false⟩ to=fr at *
    refine aX f101 ?_;dsimp only[kh,eK];(repeat' (first|refine' aZ|refine' ux|refine' zu|refine' EA|refine' av|fail));all_goals refine' zay
   .obtain⟨at_,e,f1,f2,f3,f4,f5,f6,f7⟩:=Pg.sF hF uJ hc;have jw:Fs.bG ⟨st,t,false⟩ (at_:Int)=e.es:=Pg.mf hF false f4 f5;have pD:at_<16:=(hF.lt f4).2;have heb:=vC ⟨st,t,false⟩ (at_:Int);have PF:=E2 uJ f2;rw[if_neg hc,f1,jw] at mF;rw[f1] at C6;rw[jw] at heb;have aiZ:=heb.1;have Wp:∀s,lI s b v ⟨st,t,false⟩->eu bf bw 149 [bk b,iv at_] s (ua b v) 198 e.es:=λs hr=>by
     refine' zbc
    have qQ:(Fs.cu ⟨st,t,false⟩ to).2<=0:=by omega
    generalize(Fs.cu ⟨st,t,false⟩ to).2=fc at *
    by_cases Ar:9<=ei.n.bF\/12<=e.es.length
    .rw[if_pos Ar] at mF;rw[mF];refine aX f101 ?_;dsimp only[kh,eK];repeat' (first|refine' aZ|refine' ux|refine' zu|refine' EA|refine' BI|refine' av|fail)
     (all_goals try refine cI);all_goals refine mY (v':=v) cy bY au rfl
    .rw[if_neg Ar] at mF;have FK:∀a c s,bM s a e.es.length 2 (ai e.es)->eu bf bw 152 [.slice a e.es.length c,.agg ⟨[sv (Fs.base to),iv k]⟩] s (aj a) 198 (gx e.es ⟨Fs.base to,k⟩):=λa c s hr=>wh s a c e.es ⟨Fs.base to,k⟩ af hr
     have lS:=zJ (x:=⟨Fs.base to,k⟩) heb ⟨PF,by show(0:Int)<=(k:Int);omega,by show(k:Int)<=1000;omega⟩;have dD:∀(dH:SA) s,mO bf bw 150 [bk b,iv k,nv {ei.n with bF:=ei.n.bF+1}] s b dH ⟨st,t,false⟩ (Fs.put ⟨st,t,false⟩ k {ei.n with bF:=ei.n.bF+1}) (.tuple ⟨[]⟩):=λdH s=>sJ s b dH ⟨st,t,false⟩ (h.mono af) ht k hk _
     have Ct:sK 50030 (Fs.put ⟨st,t,false⟩ k {ei.n with bF:=ei.n.bF+1}):=sK.put (n:=50000) ⟨h,ht⟩ af _;generalize Fs.put ⟨st,t,false⟩ k {ei.n with bF:=ei.n.bF+1}=f1 at *
     generalize gx e.es ⟨Fs.base to,k⟩=wX at *
     refine' zaq;rw[mF];refine aX f101 ?_;dsimp only[kh,eK];(repeat' (first|refine' aZ|refine' ux|refine' zu|refine' EA|refine' BI|refine' Ey|refine' Rz|refine' HH|refine' Mt|refine' av|fail));all_goals refine' zaD
variable {E:iq}{X:fY}{Γ:qN}{l:Kn}{L:dy}{K:KO}{g:FuncId}{xs:List Operand}{ts:Array TypeId}{vs:aY}{v:SA}{f:Fs}
section
variable {b:Nat}
theorem WO.Y3 {α:Type}{sz:Nat}{enc:aq α sz}{e:TypeId}{p:List α}(hx:jY l xs vs)(h:∀v s,lI s b v f->eu E X g vs s (ua b v) e p)(hh:L9 Γ L b v f)(k:∀m m' a c,iY L m->m<=m'->K (.slice a p.length c) (.aQ (.slice a p.length c) e sz (ai (sz:=sz) p)::L) m m' (mV (ua b v) [] m m') (mW [] m m')):WC E X Γ l g xs ts L K:=WO.RR hx hh (h v) k
end
end Go.Pl
