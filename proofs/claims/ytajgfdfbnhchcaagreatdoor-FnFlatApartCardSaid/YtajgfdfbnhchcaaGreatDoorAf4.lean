/- Lemmas of the proof. No conditions. -/
import Derived.Test.YtajgfdfbnhchcaaGreatDoorAf3
set_option maxRecDepth 100000
set_option maxHeartbeats 4000000
set_option linter.unusedVariables false
set_option linter.unusedSimpArgs false
open Go.Proofs.Tryz
namespace Go.Pl
open Go Go.Ev Go.Lg Go.Proofs
theorem Zb (s:St)(a:aK)(c:Nat)(a':aK)(c':Nat)(f:Flat)(hf:HY f)(o:Op)(hz:o.af.length<=2000)(hy:o.to.length<=2000)(nJ:0<=o.at_/\o.at_<=192)(Br:o.aW.length<=24)(hp:∀x∈f.ad,x.af.length<=2000)(hex:∀k,f.dq o.af=some k->(f.cH (f.ad.getD k ak.ah).id).isSome):rM a8 bj 27 [js a c a' c' f,ov o] s a c a' c' f (f.eT o):=by
 obtain⟨kd,pa,tq9,at_,tx⟩:=o;dsimp only at hz hy nJ Br hex;unfold Flat.eT;dsimp only;by_cases h1:kd=1\/kd=2
 .rw[if_pos h1];have iX:∀s,rM a8 bj 59 [js a c a' c' f,sv pa,.bool (decide (kd=2))] s a c a' c' f (f.make pa (decide (kd=2))):=λs=>(PL s a c a' c' f hf pa ag _).s
  refine aU f27 ?_;dsimp only[cv,dN];(refine' LI)
  all_goals refine' zap
 rw[if_neg h1];by_cases h2:kd=5
 .rw[if_pos h2];have iX:∀s,rM a8 bj 60 [js a c a' c' f,sv pa] s a c a' c' f (f.dY pa):=λs=>PO s a c a' c' f hf pa ag hex
  refine aU f27 ?_;dsimp only[cv,dN];(refine' LI)
  all_goals refine' zap
 rw[if_neg h2];by_cases h3:kd=6
 .rw[if_pos h3];have iX:∀s,rM a8 bj 61 [js a c a' c' f,sv pa,sv tq9] s a c a' c' f (f.link pa tq9):=λs=>(PM s a c a' c' f hf pa tq9 ag ag).s
  refine aU f27 ?_;dsimp only[cv,dN];(refine' LI)
  all_goals refine' zap
 rw[if_neg h3];by_cases h4:kd=7
 .rw[if_pos h4];have iX:∀s,rM a8 bj 62 [js a c a' c' f,sv pa,sv tq9] s a c a' c' f (f.move pa tq9):=λs=>(PQ s a c a' c' f hf pa tq9 ag ag hp).s
  refine aU f27 ?_;dsimp only[cv,dN];(refine' LI)
  all_goals refine' zap
 rw[if_neg h4];have iX:∀s,rM a8 bj 63 [js a c a' c' f,.agg ⟨[iv kd,sv pa,sv tq9,iv at_,sv tx]⟩] s a c a' c' f (f.change ⟨kd,pa,tq9,at_,tx⟩):=λs=>(JQ s a c a' c' f hf kd pa tq9 at_ tx ag nJ Br hex).s
 refine aU f27 ?_;dsimp only[cv,dN];(refine' LI)
 all_goals refine' zap
theorem EZ (s:St)(a:aK)(c:Nat)(a':aK)(c':Nat)(f:Flat)(o:Op)(hf:fU f)(fF:f.ok=false)(hr:cl s a a' f):bP 9 [js a c a' c' f,ov o] s (kF a a') (.tuple ⟨[.agg ⟨iw none 0 [] none 0 []⟩,iv 1]⟩):=by
 have oR:=fN.n hr;have qI:=fN.t hr;have tE:∀s,cl s a a' f->bP 24 [js a c a' c' f] s (kF a a') (.bool false):=λs hr=>by
  have:=wW s a c a' c' f hf.s hr
  rwa [fF] at this
 obtain⟨kd,pa,tq9,at_,tx⟩:=o;refine aU f9 ?_;(repeat' (first|refine' a7|refine' DP|refine' aw|fail))
 all_goals(refine' ax)
 all_goals rfl
theorem F0 (s:St)(a:aK)(c:Nat)(a':aK)(c':Nat)(f:Flat)(o:Op)(hf:fU f)(fF:f.ok=true)(KG:o.af.length<=800/\o.to.length<=800/\o.aW.length<=100)(Y5:gJ o=true->∀s a c a' c',rM a8 bj 27 [js a c a' c' f,ov o] s a c a' c' f (f.eT o))(hr:cl s a a' f):
  Bi 9 [js a c a' c' f,ov o] s [] (kF a a') λR L=>∃b d b' d' b0 d0,∃p0:eG,Sub 3 b0 p0 b' (if gJ o=true then f.eT o else(f,1)).1.ae/\R= .tuple ⟨[js b d b' d' (if gJ o=true then f.eT o else(f,1)).1,iv (if gJ o=true then f.eT o else(f,1)).2]⟩/\L=[cv b d (if gJ o=true then f.eT o else(f,1)).1.ad,dN b0 d0 p0]:=by
 have oR:=fN.n hr;have qI:=fN.t hr;have nC:=hf.nl;have pz:=hf.tl;have tE:∀s,cl s a a' f->bP 24 [js a c a' c' f] s (kF a a') (.bool true):=λs hr=>by
  have:=wW s a c a' c' f hf.s hr
  rwa [fF] at this
 have FZ:∀s,bP 25 [ov o] s [] (.bool (gJ o)):=λs=>Rp s o ag ag ag
 cases Zw:gJ o with
 |false=>
  rw[Zw] at FZ;rw[if_neg jT];clear Y5;obtain⟨kd,pa,tq9,at_,tx⟩:=o;have mD:=FZ;refine aU f9 ?_;(repeat' (first|refine' a7|refine' DP|refine' LD|refine' acH|refine' aw|fail))
  all_goals try refine cM
  all_goals exact⟨bB,_,_,bn,au,_,_,_,_,_,_,_,Sub.all,rfl,rfl⟩
 |true=>
  rw[Zw] at FZ;rw[if_pos rfl];have alR:=Y5 Zw;clear Y5;generalize f.eT o=r at *
  obtain⟨kd,pa,tq9,at_,tx⟩:=o;have mD:=FZ;have iX:=alR;refine aU f9 ?_;(repeat' (first|refine' a7|refine' DP|refine' LD|refine' acH|((with_reducible apply WO.Xe);exact aE;(intro s;exact iX s _ _ _ _);exact ey;intro _ _ ak4 ak5 ahU ahV ahW ahX ahY _ _ DQ)|refine' aw|fail))
  all_goals refine' zap
end Go.Pl
namespace Go.Pl
open Go.Lg
section
variable {z:aA}{q:eG}{n:Int}
structure OkG (p:List a6)(q:eG):Prop where
 tl:1<=q.length/\q.length<=16
 st:gi q
 t0:∃x∈q,x.id=0/\x.aD=true
 tx:∀x∈q,(0<=x.id/\x.id<=15)/\(x.aD=true->x.aW=[])/\x.aW.length<=192
 sn:kE p
 nr:(⟨[47],0⟩:a6)∈p
 th:∀x∈p,(kM q x.id).isSome=true
 up:∀x∈p,x.af≠[47]->bG (av x.af).2=true/\∃w∈p,w.af=(av x.af).1/\gC q w.id=true
 ct:∀n,rQ p n<=9
 cf:∀n,gC q n=true->rQ p n<=1
 cn:∀z,(p.countP λx=>decide (x.af≠[47])&&decide ((av x.af).1=z))<=12
 al:∀x∈q,∃w∈p,w.id=x.id
theorem Rz:∀(s:aA)(t:Nat),t<s.length->bL (s.take t) s=true
 |[],t,h=>by simp at h
 |c::s,0,_=>rfl
 |c::s,t+1,h=>by
  rw[x_5,qu,if_neg (Gf _),if_neg (Gf _)];exact Rz s t (by simpa using h)
theorem Nl (h:bG (av z).2=true):bL (av z).1 z=true:=by
 unfold av at h⊢;cases hl:dQ z with
 |none=>rw[hl] at h;cases h
 |some t=>
  rw[hl] at h;have du:=pO z t hl;have h:bG (z.drop (t+1))=true:=h;have fK:z.drop (t+1)≠[]:=λe=>by rw[e] at h;cases h
  have tZ:t+1<z.length:=by
   refine lT λhn=>fK (ye ag)
  exact Rz z (max t 1) ag
theorem JS (p:List a6)(n:Int):rQ p n=cL p p.length n:=(pP (λx:a6=>decide (x.id=n)) cu p).symm
theorem JT {p:List a6}(hr:p.getD 0 cu=⟨[47],0⟩)(h0:∀j,1<=j->j<p.length->(p.getD j cu).af≠[47])(z:aA):(p.countP λx=>decide (x.af≠[47])&&decide ((av x.af).1=z))=cN p p.length z:=by
 unfold cN;rw[<-pP (λx:a6=>decide (x.af≠[47])&&decide ((av x.af).1=z)) cu p];refine Gi λj hj=>?_
 have hj:=lS.1 hj;by_cases hj0:j=0
 .subst hj0;rw[hr];simp
 .have:=h0 j ag hj;rw[dt this,dt (show 1<=j by omega)]
theorem ic.g {f:Flat}(h:ic f):OkG f.ad f.ae:=by
 have Ed:∀x∈f.ad,∃j,j<f.ad.length/\x=f.ad.getD j cu:=λx hx=>by
  obtain⟨j,hj,rfl⟩:=iZ hx;exact⟨j,hj,by rw[aR,bd hj];rfl⟩
 have adj:∀x∈f.ae,∃j,j<f.ae.length/\x=f.ae.getD j ec:=λx hx=>by
  obtain⟨j,hj,rfl⟩:=iZ hx;exact⟨j,hj,by rw[aR,bd hj];rfl⟩
 refine' zaY
 refine⟨⟨h.q1,h.q16⟩,h.st,⟨_,dG ec h.q1,h.t0,h.tf⟩,λx hx=>?_,h.sn,by rw[<-h.nr];exact dG cu h.n1,λx hx=>?_,λx hx vA=>?_,λn=>?_,λn hn=>?_,λz=>?_,λx hx=>?_⟩
 .obtain⟨j,hj,rfl⟩:=adj x hx;have:=h.tb j hj;unfold tB fR at this;simp only[bU,bQ,pU,zX,mb] at this;refine⟨this.1.1.1,λhf=>?_,ag⟩;rcases this.1.2 with h1|h1
  .rw[hf] at h1;cases h1
  .exact Classical.not_not.1 h1
 .obtain⟨j,hj,rfl⟩:=Ed x hx;exact(h.nm j hj).1
 .obtain⟨j,hj,rfl⟩:=Ed x hx;have h1:1<=j:=by
   refine lT λhn=>vA ?_
   rw[show j=0 by omega,h.nr]
  obtain⟨m,hm,Fj,hf,hp⟩:=h.par h1 hj;exact⟨((h.nm j hj).2.1 h1).2.2.1,_,dG cu (show m<f.ad.length by omega),hp,hf⟩
 .rw[JS];exact Ej _ λj hj hid=>by rw[<-hid];exact(h.nm j hj).2.2.1
 .rw[JS];refine Ej _ λj hj hid=>?_
  rw[<-hid];refine(h.nm j hj).2.2.2 ?_;rw[<-h.ZF,hid];exact hn
 .rw[JT h.nr fK];exact O6 _ λj h1 hj hz=>by rw[<-hz];exact((h.nm j hj).2.1 h1).2.2.2
 .obtain⟨j,hj,rfl⟩:=adj x hx;obtain⟨k,hk,hid⟩:=h.al j hj;exact⟨_,dG cu hk,hid⟩
theorem OkG.f {p:List a6}(h:OkG p q):ic ⟨p,q⟩:=by
 have Wa:0<p.length:=Gh h.nr;have hgm:∀j,j<p.length->p.getD j cu∈p:=λj hj=>dG cu hj
 have du:∀i j,j<p.length->i<j->bL (p.getD i cu).af (p.getD j cu).af=true:=λi j hj mR=>qv h.sn cu mR hj
 have Nn:p.getD 0 cu=⟨[47],0⟩:=by
  obtain⟨j,hj,hje⟩:=iZ h.nr;have hje:p.getD j cu=⟨[47],0⟩:=by rw[aR,bd hj];exact hje
  by_cases hj0:j=0
  .rw[<-hj0];exact hje
  .exfalso;have h1:=du 0 j hj ag;rw[hje] at h1;have h2:(p.getD 0 cu).af≠[47]:=np h1;obtain⟨h3,w,hw,J6,_⟩:=h.up _ (hgm 0 Wa) h2;have h4:=Nl h3;rw[<-J6] at h4;obtain⟨m,hm,rfl⟩:=iZ hw;by_cases Fe:m=0
   .subst Fe;rw[aR,bd Wa] at h4;have h4:bL p[0].af p[0].af=true:=h4;rw[kh] at h4;cases h4
   .have h5:=du 0 m hm ag;rw[show p.getD m cu=p[m] by rw[aR,bd hm];rfl] at h5;have:=Eh h5;rw[h4] at this;cases this
 have fK:∀j,1<=j->j<p.length->(p.getD j cu).af≠[47]:=λj h1 hj e=>by
  have:=du 0 j hj ag;rw[Nn,e,kh] at this;cases this
 obtain⟨x0,vA,ajc,alS⟩:=h.t0;have hq0:(q.getD 0 ec).id=0/\(q.getD 0 ec).aD=true:=by
  obtain⟨j,hj,rfl⟩:=iZ vA;have e:q.getD j ec=q[j]:=by rw[aR,bd hj];rfl
  by_cases hj0:j=0
  .subst hj0;rw[e];exact⟨ajc,alS⟩
  .exfalso;have h1:=qv h.st ec (show 0<j by omega) hj;rw[e,ajc] at h1;have:=(h.tx _ (dG ec (show 0<q.length by omega))).1.1;omega
 refine⟨by have:=h.tl;show fR (q.length:Int) 1 16=true;unfold fR;simp only[bU,bQ];omega,hq0.1,hq0.2,λi hi=>?_,by show p.length≠0;omega,Nn,λi hi=>⟨h.th _ (hgm i hi),λh1=>?_,?_,λhf=>?_⟩,λi hi=>?_⟩
 .have h1:=h.tx _ (dG ec hi);unfold tB fR;simp only[bU,bQ,pU,zX,mb];refine⟨⟨⟨h1.1,?_⟩,?_⟩,ag⟩
  .by_cases ru:0<i
   .right
    have:=qv h.st ec (show i-1<i by omega) hi;omega
   .exact .inl ru
  .cases hb:(q.getD i ec).aD with
   |false=>exact .inl rfl
   |true=>exact .inr (λe=>e (h1.2.1 hb))
 .obtain⟨h3,w,hw,J6,JB⟩:=h.up _ (hgm i hi) (fK i h1 hi);have h4:=Nl h3;obtain⟨m,hm,rfl⟩:=iZ hw;have e:p.getD m cu=p[m]:=by rw[aR,bd hm];rfl
  have hmi:m<i:=by
   refine lT λhn=>?_
   rw[<-J6,<-e] at h4;rcases lq i m with Fu|ZW
   .have:=Eh (du i m hm Fu);rw[h4] at this;cases this
   .have:m=i:=by omega
    subst this;rw[kh] at h4;cases h4
  refine⟨du (i-1) i hi ag,⟨m,hmi,by rw[e];exact J6,?_⟩,h3,?_⟩
  .show gC q (p.getD m cu).id=true;rw[e];exact JB
  .refine ik (Q3 p _ (show i+1<=p.length by exact hi)) ?_;rw[<-JT Nn fK];exact h.cn _
 .refine ik (Cv p _ (show i+1<=p.length by exact hi)) ?_;rw[<-JS];exact h.ct _
 .refine ik (Cv p _ (show i+1<=p.length by exact hi)) ?_;rw[<-JS];exact h.cf _ hf
 .obtain⟨w,hw,hid⟩:=h.al _ (dG ec hi);obtain⟨m,hm,rfl⟩:=iZ hw;exact⟨m,hm,by show(p.getD m cu).id=_;rw[aR,bd hm];exact hid⟩
theorem x5 (P:a6->Bool):∀(l:List a6)(e:a6),(Flat.gb l e).countP P=l.countP P+if P e=true then 1 else 0
 |[],e=>by unfold Flat.gb;rw[iC]
 |y::l,e=>by
  unfold Flat.gb;split
  .rw[iC,iC]
  .rw[iC,x5 P l e,iC];omega
theorem AS:∀(l:eG)(e:bC),(Flat.oN l e).length=l.length+1
 |[],e=>rfl
 |x::l,e=>by
  unfold Flat.oN;split
  .rw[cY,AS l e,cY]
  .rfl
theorem zN:(kM q n).isSome=true↔∃y∈q,y.id=n:=by
 unfold kM;rw[List.findIdx?_isSome,Gb];simp
theorem nB (hs:gi q):gC q n=true↔∃y∈q,y.id=n/\y.aD=true:=by
 unfold gC;cases ht:kM q n with
 |none=>
  refine⟨λe=>(by cases e),λ⟨y,hy,hi,_⟩=>?_⟩;have:=zN.2 ⟨y,hy,hi⟩;rw[ht] at this;cases this
 |some t=>
  obtain⟨h1,h2⟩:=rK ht;refine⟨λe=>⟨_,dG ec h1,h2,e⟩,λ⟨y,hy,hi,hf⟩=>?_⟩;obtain⟨j,hj,rfl⟩:=iZ hy;have e:q.getD j ec=q[j]:=by rw[aR,bd hj];rfl
  have:=Ek hs hj;rw[e,hi,ht] at this;cases this
  show(q.getD t ec).aD=true;rw[e];exact hf
theorem qC:∀z∈Ev.cB,aT z=true->z≠[47]->bG (av z).2=true:=by decide
theorem OkG.make {p:List a6}(h:OkG p q)(hz:bG (av z).2=true)(hn:sT p z=none){w:a6}(hw:w∈p)(J6:w.af=(av z).1)(JB:gC q w.id=true)(x7:0<=n/\n<=15)(N3:kM q n=none)(hc:(p.countP λx=>decide (x.af≠[47])&&decide ((av x.af).1=(av z).1))<12)(fo:Bool):OkG (Flat.gb p ⟨z,n⟩) (Flat.oN q ⟨n,fo,[]⟩):=by
 have jw:gi (Flat.oN q ⟨n,fo,[]⟩):=AJ q ⟨n,fo,[]⟩ h.st (zL (f:=⟨p,q⟩) N3);have alT:∀x∈p,x.id≠n:=λx hx e=>by
  have:=h.th x hx;rw[e,N3] at this;cases this
 have BR:∀m,m≠n->gC (Flat.oN q ⟨n,fo,[]⟩) m=true->gC q m=true:=λm hm hf=>by
  obtain⟨y,hy,hi,hyf⟩:=(nB jw).1 hf;rcases(ki _ _ _).1 hy with rfl|hy
  .exact absurd hi.symm hm
  .exact(nB h.st).2 ⟨y,hy,hi,hyf⟩
 have aeV:∀m,gC q m=true->gC (Flat.oN q ⟨n,fo,[]⟩) m=true:=λm hf=>by
  obtain⟨y,hy,hi,hyf⟩:=(nB h.st).1 hf;exact(nB jw).2 ⟨y,(ki _ _ _).2 (.inr hy),hi,hyf⟩
 have c8:q.length<16:=by
  have h1:=pQ (q.map bC.id) (((List.range 16).map λ(k:Nat)=>(k:Int)).erase n) h.st.nodup λm hm=>by
   obtain⟨y,hy,rfl⟩:=kO.1 hm;have h2:=(h.tx y hy).1;refine(P6 (zL (f:=⟨p,q⟩) N3 y hy)).2 (kO.2 ⟨y.id.toNat,lS.2 ag,ag⟩)
  rw[ux,P7 (kO.2 ⟨n.toNat,lS.2 ag,ag⟩),ux,Km] at h1;omega
 have L9:∀m,rQ (Flat.gb p ⟨z,n⟩) m=rQ p m+if n=m then 1 else 0:=λm=>by
  unfold rQ;rw[x5];simp
 have ajd:rQ p n=0:=uz.2 λx hx e=>alT x hx (by simpa using e)
 refine⟨⟨by rw[AS];omega,by rw[AS];omega⟩,jw,?_,λx hx=>?_,vO p ⟨z,n⟩ h.sn (qB (f:=⟨p,q⟩) hn),(gW _ _ _).2 (.inr h.nr),λx hx=>?_,λx hx vA=>?_,λm=>?_,λm hm=>?_,λy=>?_,λx hx=>?_⟩
 .obtain⟨x,hx,h1⟩:=h.t0;exact⟨x,(ki _ _ _).2 (.inr hx),h1⟩
 .rcases(ki _ _ _).1 hx with rfl|hx
  .exact⟨x7,λ_=>rfl,by simp⟩
  .exact h.tx x hx
 .rw[zN];rcases(gW _ _ _).1 hx with rfl|hx
  .exact⟨_,(ki _ _ _).2 (.inl rfl),rfl⟩
  .obtain⟨y,hy,hi⟩:=zN.1 (h.th x hx);exact⟨y,(ki _ _ _).2 (.inr hy),hi⟩
 .rcases(gW _ _ _).1 hx with rfl|hx
  .exact⟨hz,w,(gW _ _ _).2 (.inr hw),J6,aeV _ JB⟩
  .obtain⟨h1,v,hv,hvp,hvf⟩:=h.up x hx vA;exact⟨h1,v,(gW _ _ _).2 (.inr hv),hvp,aeV _ hvf⟩
 .rw[L9];by_cases hm:n=m
  .rw[if_pos hm,<-hm,ajd];omega
  .rw[if_neg hm];exact h.ct m
 .rw[L9];by_cases Fj:n=m
  .rw[if_pos Fj,<-Fj,ajd];omega
  .rw[if_neg Fj];exact h.cf m (BR m (λe=>Fj e.symm) hm)
 .rw[x5];by_cases hy:(av z).1=y
  .rw[<-hy];split<;>omega
  .have hz2:¬((decide ((⟨z,n⟩:a6).af≠[47])&&decide ((av (⟨z,n⟩:a6).af).1=y))=true):=by
    rw[bU,bQ,bQ];exact λe=>hy e.2
   rw[if_neg hz2];exact h.cn y
 .rcases(ki _ _ _).1 hx with rfl|hx
  .exact⟨_,(gW _ _ _).2 (.inl rfl),rfl⟩
  .obtain⟨v,hv,hi⟩:=h.al x hx;exact⟨v,(gW _ _ _).2 (.inr hv),hi⟩
end
section
variable {f:Flat}{o:Op}
theorem yC (h:ic f)(ho:gJ o=true)(hk:o.kind=1\/o.kind=2)(h0:jB f.ad f.ae o=0):NK f.ad f.ae o=⟨Flat.gb f.ad ⟨o.af,f.cj⟩,Flat.oN f.ae ⟨f.cj,decide (o.kind=2),[]⟩⟩/\f.cj<16/\sT f.ad o.af=none/\o.af≠[47]/\(∃k,sT f.ad (aP o.af).1=some k/\tH f.ad f.ae k=true)/\f.nD (aP o.af).1<12:=by
 obtain⟨_,h3,_⟩:=jD ho;have ha:jB f.ad f.ae o=uw f.ad f.ae o.af (decide (zU f.ae 16 0<0)):=by unfold jB;exact if_pos hk
 rw[ha,AO h h3] at h0;have hf:¬0<f.bD o.af:=λe=>by rw[if_pos e] at h0;omega
 rw[if_neg hf] at h0;obtain⟨g1,g2,g3⟩:=oq hf;have hr:=afu f;have du:f.cj<16:=by
  refine lT λhh=>?_
  rw[if_neg hh] at hr;rw[hr] at h0;have:(if decide ((-1:Int)<0)=true\/12<=f.nD (aP o.af).1 then(6:Int) else 0)=6:=if_pos (.inl (by decide));rw[this] at h0;cases h0
 rw[if_pos du] at hr;have Ai:f.nD (aP o.af).1<12:=by
  refine lT λhh=>?_
  have:(if decide (zU f.ae 16 0<0)=true\/12<=f.nD (aP o.af).1 then(6:Int) else 0)=6:=if_pos (.inr ag);rw[this] at h0;cases h0
 refine⟨?_,du,g1,g2,g3,Ai⟩;have hJ:rR f.ad f.ae o=(f.ad++[⟨o.af,zU f.ae 16 0⟩],f.ae++[⟨zU f.ae 16 0,decide (o.kind=2),[]⟩]):=by
  unfold rR;exact if_pos hk
 unfold NK;rw[hJ,hr];dsimp only;rw[xK h.sn (qB g1),En h.st (zL (n:=(f.cj:Int)) (vm f).1)]
theorem abH (h:ic f)(ho:gJ o=true)(hz:o.af∈Ev.cB)(hk:o.kind=1\/o.kind=2)(h0:jB f.ad f.ae o=0):ic (NK f.ad f.ae o)/\dy (NK f.ad f.ae o).ad o.af=(f.cj:Int):=by
 obtain⟨e,h1,h2,h3,⟨k,h4,h5⟩,h6⟩:=yC h ho hk h0;obtain⟨_,hp,_⟩:=jD ho;obtain⟨BW,By⟩:=h.zJ h4;have Fj:=qC _ hz hp h3;have YA:=pF Fj;have fK:∀j,1<=j->j<f.ad.length->(f.ad.getD j cu).af≠[47]:=λj h1 hj e=>by
  have:=h.B5 hj;rw[e,h.cy] at this;cases this;omega
 have hcn:(f.ad.countP λx=>decide (x.af≠[47])&&decide ((av x.af).1=(av o.af).1))<12:=by
  rw[JT h.nr fK,<-h.abB,<-YA];exact h6
 have hg:=h.g.make (z:=o.af) Fj h2 (w:=f.ad.getD k cu) (dG cu BW) (by rw[By,YA]) (by rw[h.ZF];exact h5) (n:=(f.cj:Int)) ag (vm f).1 hcn (decide (o.kind=2));rw[e];have hF:=hg.f;refine⟨hF,?_⟩;have hm:(⟨o.af,f.cj⟩:a6)∈Flat.gb f.ad ⟨o.af,f.cj⟩:=(gW _ _ _).2 (.inl rfl);obtain⟨j,hj,hje⟩:=iZ hm;have hjd:(Flat.gb f.ad ⟨o.af,f.cj⟩).getD j cu=⟨o.af,f.cj⟩:=by rw[aR,bd hj];exact hje
 have:=hF.B5 hj;rw[show(⟨Flat.gb f.ad ⟨o.af,f.cj⟩,Flat.oN f.ae ⟨f.cj,decide (o.kind=2),[]⟩⟩:Flat).ad.getD j cu=⟨o.af,f.cj⟩ from hjd] at this;rw[hF.ml this];show((Flat.gb f.ad ⟨o.af,f.cj⟩).getD j cu).id=_;rw[hjd]
end
end Go.Pl
namespace Go.Pl
open Go Go.Ev Go.Lg Go.Proofs
section
variable {f:Flat}{o:Op}
theorem rv:∀z∈xX,z∈Ev.cB:=by decide
theorem RA:∀z∈Ev.cB,BE z:=by decide
theorem afz (h:ic f)(hf:H0 f):Jp f.ad f.ae:=
 ⟨h.sn,h.st,by have:=hf.nl;omega,by have:=hf.tl;omega,λx hx=>by have:=(hf.nm x hx).1.1;omega,λz hz=>by
   obtain⟨i,hi⟩:=ju.1 ((h.ld0 z).1 hz);rw[h.ml hi];exact(h.nm i (h.zJ hi).1).1,λx hx=>by have:=hf.nm x hx;omega⟩
theorem aje (h:ic f)(hf:fU f)(ho:T2 o):DoV f.ad f.ae o:=
 ⟨afz h hf.e,λx hx=>by have:=hf.th x hx;omega,rv _ ho.af,rv _ ho.to,λh0 hk=>(by
  have hV:=afz h hf.e;refine ju.1 (hV.th _ ?_);refine lT λhn=>?_
  unfold jB at h0;rw[if_neg ag,if_pos ag] at h0;cases h0),λh1 h2=>(v7 h h1 h2).2.2.1,λh1 h2=>(v7 h h1 h2).2.2.2,λh1 h2=>Uf (v7 h h1 h2).1,λh1 h2=>Ug (v7 h h1 h2).2.1⟩
theorem RB (h:ic f):im f o=if gJ o=true then f.eT o else(f,1):=by
 unfold im;by_cases ho:gJ o=true
 .rw[if_pos ho,if_pos ho,ai3 h ho]
 .rw[if_neg ho,if_neg ho]
theorem JU (s:St)(a:aK)(c:Nat)(a':aK)(c':Nat)(f:Flat)(hf:H0 f)(hO:ic f)(z:aA)(hr:cl s a a' f):bP 7 [js a c a' c' f,sv z] s (kF a a') (.tuple ⟨[iv (max (dy f.ad z) 0),.bool (decide (0<=dy f.ad z))]⟩):=by
 have oR:=fN.n hr;have qI:=fN.t hr;have fF:Q2 f=true:=(zm f).2 hO;have tE:∀s,cl s a a' f->bP 11 [js a c a' c' f] s (kF a a') (.bool true):=λs hr=>by
  have:=tQ s a c a' c' f hf hr
  rwa [fF] at this
 have hV:=afz hO hf;have I6:∀s b z,iQ s b a c f.ad a' c' f.ae->bP 21 [bc b,sv z] s (qN b a a') (iv (dy f.ad z)):=λs b z hr=>Mj hV s z hr
 clear fF hf hO;refine aU f7 ?_;(repeat' (first|refine' a7|refine' DP|((with_reducible apply WO.rH);exact aE;(intro s hr;exact I6 s _ _ hr);(exact uZ.mk cg cg cg);intro _ _ _ _)|refine' aw|fail))
 all_goals try refine cM
 all_goals(refine' ax)
 all_goals rfl
end
end Go.Pl
namespace Go.Pl
open Go.Lg
section
variable {q:eG}
def tS (z:aA)(x:a6):Bool:=decide (x.af≠[47])&&decide ((av x.af).1=z)
structure PS (p:List a6)(q:eG):Prop where
 tl:1<=q.length/\q.length<=16
 st:(q.map bC.id).Nodup
 t0:∃x∈q,x.id=0/\x.aD=true
 tx:∀x∈q,(0<=x.id/\x.id<=15)/\(x.aD=true->x.aW=[])/\x.aW.length<=192
 sn:(p.map a6.af).Nodup
 nr:(⟨[47],0⟩:a6)∈p
 th:∀x∈p,∃y∈q,y.id=x.id
 up:∀x∈p,x.af≠[47]->bG (av x.af).2=true/\∃w∈p,w.af=(av x.af).1/\∃y∈q,y.id=w.id/\y.aD=true
 ct:∀n,rQ p n<=9
 cf:∀y∈q,y.aD=true->rQ p y.id<=1
 cn:∀z,p.countP (tS z)<=12
 al:∀x∈q,∃w∈p,w.id=x.id
theorem OkG.p {p:List a6}(h:OkG p q):PS p q:=
 ⟨h.tl,h.st.nodup,h.t0,h.tx,h.sn.nodup,h.nr,λx hx=>zN.1 (h.th x hx),λx hx vA=>by
   obtain⟨h1,w,hw,hp,hf⟩:=h.up x hx vA;exact⟨h1,w,hw,hp,(nB h.st).1 hf⟩,h.ct,λy hy hf=>h.cf _ ((nB h.st).2 ⟨y,hy,rfl,hf⟩),h.cn,h.al⟩
theorem H8 (x:a6):∀l:List a6,(Ev.wj x l).Perm (x::l)
 |[]=>.refl _
 |y::l=>by
  unfold Ev.wj;split
  .exact .refl _
  .exact((H8 x l).cons y).trans (.swap x y l)
theorem E0:∀l:List a6,(Ev.gT l).Perm l
 |[]=>.refl _
 |x::l=>(H8 x (Ev.gT l)).trans ((E0 l).cons x)
theorem H9 (x:bC):∀l:eG,(Ev.wk x l).Perm (x::l)
 |[]=>.refl _
 |y::l=>by
  unfold Ev.wk;split
  .exact .refl _
  .exact((H9 x l).cons y).trans (.swap x y l)
theorem E1:∀l:eG,(Ev.gZ l).Perm l
 |[]=>.refl _
 |x::l=>(H9 x (Ev.gZ l)).trans ((E1 l).cons x)
theorem PS.g {p:List a6}(h:PS p q):OkG (Ev.gT p) (Ev.gZ q):=by
 have hs:=qy q h.st;have hl:=(E1 q).length_eq;have hc:∀P,(Ev.gT p).countP P=p.countP P:=λP=>(E0 p).countP_eq P
 have tE:∀n,gC (Ev.gZ q) n=true↔∃y∈q,y.id=n/\y.aD=true:=λn=>by
  rw[nB hs];constructor
  .rintro⟨y,hy,h1⟩;exact⟨y,(jo q y).1 hy,h1⟩
  .rintro⟨y,hy,h1⟩;exact⟨y,(jo q y).2 hy,h1⟩
 refine⟨by rw[hl];exact h.tl,hs,?_,λx hx=>h.tx x ((jo q x).1 hx),og p h.sn,(iA p _).2 h.nr,λx hx=>?_,λx hx vA=>?_,λn=>?_,λn hn=>?_,λz=>?_,λx hx=>?_⟩
 .obtain⟨x,hx,h1⟩:=h.t0;exact⟨x,(jo q x).2 hx,h1⟩
 .obtain⟨y,hy,h1⟩:=h.th x ((iA p x).1 hx);exact zN.2 ⟨y,(jo q y).2 hy,h1⟩
 .obtain⟨h1,w,hw,h2,h3⟩:=h.up x ((iA p x).1 hx) vA;exact⟨h1,w,(iA p w).2 hw,h2,(tE _).2 h3⟩
 .unfold rQ;rw[hc];exact h.ct n
 .obtain⟨y,hy,rfl,h2⟩:=(tE n).1 hn;unfold rQ;rw[hc];exact h.cf y hy h2
 .rw[hc];exact h.cn z
 .obtain⟨w,hw,h1⟩:=h.al x ((jo q x).1 hx);exact⟨w,(iA p w).2 hw,h1⟩
theorem PS.aW {p:List a6}(h:PS p q){t:Nat}(ht:t<q.length)(hf:(q.getD t ec).aD=false){s:aA}(hs:s.length<=192):PS p (q.set t ⟨(q.getD t ec).id,(q.getD t ec).aD,s⟩):=by
 have hgd:=dG ec ht;have hid:(q.set t ⟨(q.getD t ec).id,(q.getD t ec).aD,s⟩).map bC.id=q.map bC.id:=by
  rw[List.map_set];refine List.ext_getElem (by rw[gE]) λi h1 h2=>?_
  rw[List.getElem_set];split
  .rename_i e;subst e;rw[List.getElem_map,aR,bd ht];rfl
  .rfl
 have h1:∀y∈q.set t ⟨(q.getD t ec).id,(q.getD t ec).aD,s⟩,∃x∈q,x.id=y.id/\x.aD=y.aD:=λy hy=>by
  rcases Gc hy with hy|rfl
  .exact⟨y,hy,rfl,rfl⟩
  .exact⟨_,hgd,rfl,rfl⟩
 have h2:∀x∈q,∃y∈q.set t ⟨(q.getD t ec).id,(q.getD t ec).aD,s⟩,y.id=x.id/\y.aD=x.aD:=λx hx=>by
  obtain⟨i,hi,rfl⟩:=iZ hx;by_cases hit:i=t
  .subst hit;refine⟨_,List.mem_set hi _,?_⟩;rw[aR,bd ht];exact⟨rfl,rfl⟩
  .refine⟨(q.set t ⟨(q.getD t ec).id,(q.getD t ec).aD,s⟩)[i]'(by rw[gE];exact hi),qS _,?_⟩;rw[List.getElem_set_ne (λe=>hit e.symm)];exact⟨rfl,rfl⟩
 refine⟨by rw[gE];exact h.tl,by rw[hid];exact h.st,?_,λx hx=>?_,h.sn,h.nr,λx hx=>?_,λx hx vA=>?_,h.ct,λy hy hyf=>?_,h.cn,λx hx=>?_⟩
 .obtain⟨x,hx,h3,h4⟩:=h.t0;obtain⟨y,hy,h5,h6⟩:=h2 x hx;exact⟨y,hy,by rw[h5,h3],by rw[h6,h4]⟩
 .rcases Gc hx with hx|rfl
  .exact h.tx x hx
  .exact⟨(h.tx _ hgd).1,λe=>(by rw[show(q.getD t ec).aD=true from e] at hf;cases hf),hs⟩
 .obtain⟨y,hy,h3⟩:=h.th x hx;obtain⟨y',yA,h5,_⟩:=h2 y hy;exact⟨y',yA,by rw[h5,h3]⟩
 .obtain⟨h3,w,hw,h4,y,hy,h5,h6⟩:=h.up x hx vA;obtain⟨y',yA,h7,h8⟩:=h2 y hy;exact⟨h3,w,hw,h4,y',yA,by rw[h7,h5],by rw[h8,h6]⟩
 .obtain⟨x,hx,h3,h4⟩:=h1 y hy;rw[<-h3];exact h.cf x hx (by rw[h4,hyf])
 .obtain⟨y,hy,h3,_⟩:=h1 x hx;rw[<-h3];exact h.al y hy
theorem No (p:List a6)(z:aA)(n m:Int):rQ (p++[⟨z,n⟩]) m=rQ p m+if n=m then 1 else 0:=by
 unfold rQ;rw[A1,List.countP_singleton];simp
theorem Zc (h:(q.map bC.id).Nodup){x y:bC}(hx:x∈q)(hy:y∈q)(e:x.id=y.id):x=y:=by
 refine' zbd
 .exact absurd e (tV.1 h i j hi hj mR)
 .subst mR;rfl
 .exact absurd e.symm (tV.1 h j i hj hi mR)
theorem E2 {p:List a6}(h:(p.map a6.af).Nodup){x y:a6}(hx:x∈p)(hy:y∈p)(e:x.af=y.af):x=y:=by
 refine' zbd
 .exact absurd e (tV.1 h i j hi hj mR)
 .subst mR;rfl
 .exact absurd e.symm (tV.1 h j i hj hi mR)
theorem PS.link {p:List a6}(h:PS p q){z:aA}(hz:bG (av z).2=true)(hn:∀x∈p,x.af≠z){w:a6}(hw:w∈p)(J6:w.af=(av z).1)(JB:∃y∈q,y.id=w.id/\y.aD=true){t:bC}(ht:t∈q)(htf:t.aD=false)(hl:rQ p t.id<9)(hc:p.countP (tS (av z).1)<12):PS (p++[⟨z,t.id⟩]) q:=by
 refine⟨h.tl,h.st,h.t0,h.tx,oh a6.af h.sn hn,cP _ h.nr,λx hx=>?_,λx hx vA=>?_,λn=>?_,λy hy hyf=>?_,λy=>?_,λx hx=>?_⟩
 .rcases eX.1 hx with hx|hx
  .exact h.th x hx
  .rw[gR] at hx;subst hx;exact⟨t,ht,rfl⟩
 .rcases eX.1 hx with hx|hx
  .obtain⟨h1,v,hv,h2⟩:=h.up x hx vA;exact⟨h1,v,cP _ hv,h2⟩
  .rw[gR] at hx;subst hx;exact⟨hz,w,cP _ hw,J6,JB⟩
 .rw[No];by_cases hm:t.id=n
  .rw[if_pos hm,<-hm];omega
  .rw[if_neg hm];exact h.ct n
 .rw[No,if_neg]
  .exact h.cf y hy hyf
  .intro e;have:=Zc h.st ht hy e;rw[this,hyf] at htf;cases htf
 .rw[A1,List.countP_singleton];by_cases hy:(av z).1=y
  .rw[<-hy];split<;>omega
  .have h2:¬tS y ⟨z,t.id⟩=true:=by
    unfold tS;rw[bU,bQ,bQ];exact λe=>hy e.2
   rw[if_neg h2];exact h.cn y
 .obtain⟨v,hv,hi⟩:=h.al x hx;exact⟨v,cP _ hv,hi⟩
theorem PS.drop {p:List a6}(h:PS p q){e:a6}(he:e∈p)(hz:e.af≠[47])(h0:e.id≠0)(hk:p.countP (tS e.af)=0):PS (wQ p q e.af e.id).1 (wQ p q e.af e.id).2:=by
 unfold wQ;dsimp only;have jg:(p.filter λx=>!decide (x.af=e.af)).Sublist p:=AX;have Un:∀P,(p.filter λx=>!decide (x.af=e.af)).countP P<=p.countP P:=λP=>jg.countP_le
 have Iw:∀x,x∈p.filter (λx=>!decide (x.af=e.af))↔x∈p/\x.af≠e.af:=λx=>by
  rw[qR];simp
 have hup:∀x∈p,x.af≠[47]->bG (av x.af).2=true/\∃w∈p.filter (λx=>!decide (x.af=e.af)),w.af=(av x.af).1/\∃y∈q,y.id=w.id/\y.aD=true:=λx hx vA=>by
  obtain⟨h1,w,hw,h2,h3⟩:=h.up x hx vA;refine⟨h1,w,(Iw w).2 ⟨hw,λe2=>?_⟩,h2,h3⟩;refine uz.1 hk x hx ?_;unfold tS;rw[bU,bQ,bQ];exact⟨vA,by rw[<-h2,e2]⟩
 have hsn:((p.filter λx=>!decide (x.af=e.af)).map a6.af).Nodup:=List.Nodup.sublist (jg.map _) h.sn;have hnr:(⟨[47],0⟩:a6)∈p.filter (λx=>!decide (x.af=e.af)):=(Iw _).2 ⟨h.nr,λe2=>hz e2.symm⟩;by_cases hl:rQ (p.filter λx=>!decide (x.af=e.af)) e.id=0
 .rw[if_pos hl];have adk:(q.filter λx=>!decide (x.id=e.id)).Sublist q:=AX;have Uo:∀x,x∈q.filter (λx=>!decide (x.id=e.id))↔x∈q/\x.id≠e.id:=λx=>by
   rw[qR];simp
  have qE:∀x∈p.filter (λx=>!decide (x.af=e.af)),x.id≠e.id:=λx hx e2=>uz.1 hl x hx (by simpa using e2)
  obtain⟨x0,vA,h1,h2⟩:=h.t0;have Fe:=(Uo x0).2 ⟨vA,λe2=>h0 (by rw[<-e2,h1])⟩;refine⟨⟨Gh Fe,ik adk.length_le h.tl.2⟩,List.Nodup.sublist (adk.map _) h.st,⟨x0,Fe,h1,h2⟩,λx hx=>h.tx x ((Uo x).1 hx).1,hsn,hnr,λx hx=>?_,λx hx vA=>?_,λn=>ik (Un _) (h.ct n),λy hy hf=>ik (Un _) (h.cf y ((Uo y).1 hy).1 hf),λz=>ik (Un _) (h.cn z),λx hx=>?_⟩
  .obtain⟨y,hy,h3⟩:=h.th x ((Iw x).1 hx).1;exact⟨y,(Uo y).2 ⟨hy,λe2=>qE x hx (by rw[<-h3,e2])⟩,h3⟩
  .obtain⟨h3,w,hw,h4,y,hy,h5,h6⟩:=hup x ((Iw x).1 hx).1 vA;exact⟨h3,w,hw,h4,y,(Uo y).2 ⟨hy,λe2=>qE w hw (by rw[<-h5,e2])⟩,h5,h6⟩
  .obtain⟨hx,hxe⟩:=(Uo x).1 hx;obtain⟨w,hw,hi⟩:=h.al x hx;refine⟨w,(Iw w).2 ⟨hw,λe2=>hxe ?_⟩,hi⟩;rw[<-hi,E2 h.sn hw he e2]
 .rw[if_neg hl];refine⟨h.tl,h.st,h.t0,h.tx,hsn,hnr,λx hx=>h.th x ((Iw x).1 hx).1,λx hx vA=>hup x ((Iw x).1 hx).1 vA,λn=>ik (Un _) (h.ct n),λy hy hf=>ik (Un _) (h.cf y hy hf),λz=>ik (Un _) (h.cn z),λx hx=>?_⟩;obtain⟨w,hw,hi⟩:=h.al x hx;by_cases hwe:w.af=e.af
  .obtain⟨v,hv,GH⟩:=Gj.1 (Nat.pos_of_ne_zero hl);refine⟨v,hv,?_⟩;have GH:v.id=e.id:=by simpa using GH
   rw[GH,<-hi,E2 h.sn hw he hwe]
  .exact⟨w,(Iw w).2 ⟨hw,hwe⟩,hi⟩
end
section
variable {z r y:aA}
theorem E3:∀(z r:aA)(s:Nat),dQ r=some s->dQ (z++r)=some (z.length+s)
 |[],r,s,h=>by rw[pT,h,mJ,nF]
 |c::z,r,s,h=>by
  rw[BI];unfold dQ;rw[E3 z r s h,cY];show some (z.length+s+1)=_
  congr 1;omega
theorem BF (r:aA):∃s,dQ (47::r)=some s:=by
 unfold dQ;cases dQ r with
 |some j=>exact⟨j+1,rfl⟩
 |none=>exact⟨0,if_pos rfl⟩
theorem wa (hz:z≠[]){s:Nat}(hs:dQ (47::r)=some s):((47::r).take s=[]\/((47::r).take s).getD 0 0=47)/\av (z++47::r)=(z++(47::r).take s,(47::r).drop (s+1)):=by
 have hl:0<z.length:=oD.2 hz;refine⟨?_,?_⟩
 .cases s with
  |zero=>exact .inl rfl
  |succ s=>exact .inr rfl
 .unfold av;rw[E3 z _ s hs];show(List.take (max (z.length+s) 1) (z++47::r),List.drop (z.length+s+1) (z++47::r))=_;rw[Nat.max_eq_left ag,AW,qG ag,List.drop_append,ye ag,pT,show z.length+s-z.length=s by omega,show z.length+s+1-z.length=s+1 by omega]
theorem E4 {x:aA}(h:bG (av x).2=true):x=(av x).1++47::(av x).2\/((av x).1=[47]/\x=47::(av x).2):=by
 unfold av at h⊢;cases hl:dQ x with
 |none=>rw[hl] at h;cases h
 |some t=>
  have du:=pO x t hl;have nJ:=vN x t hl;have hg:x[t]=47:=by
   rw[aR,bd du] at nJ;exact nJ
  have ni:x=x.take t++47::x.drop (t+1):=by
   rw[<-hg,<-wA du,yd]
  by_cases ht:t=0
  .subst ht
   right
   refine⟨?_,by simpa using ni⟩;show List.take (max 0 1) x=_;rw[ni];rfl
  .left
   show x=List.take (max t 1) x++47::List.drop (t+1) x;rw[Nat.max_eq_left ag];exact ni
theorem E5 {α:Type}{K A B:α->Bool}:∀l:List α,(∀x∈l,K x=true->A x=true\/B x=true)->l.countP K<=l.countP A+l.countP B
 |[],_=>iJ _
 |x::l,h=>by
  have h1:=E5 l λy hy=>h y (lu _ hy)
  rw[iC,iC,iC];by_cases hK:K x=true
  .rw[if_pos hK];rcases h x iV hK with h2|h2<;>rw[if_pos h2]<;>split<;>omega
  .rw[if_neg hK];omega
theorem Np {p:List a6}(h:(p.map a6.af).Nodup)(z:aA):(p.countP λx=>decide (x.af=z))<=1:=by
 induction p with
 |nil=>exact iJ _
 |cons x p ih=>
  rw[vp,uA] at h;rw[iC];by_cases hx:x.af=z
  .rw[if_pos (by simpa using hx)];have:(p.countP λx=>decide (x.af=z))=0:=uz.2 λy hy e=>h.1 (kO.2 ⟨y,hy,by rw[hx];simpa using e⟩)
   omega
  .rw[if_neg (by simpa using hx)];exact ih h.2
theorem AT:∀y∈Ev.cB,aT y=true->y≠[47]->y.take 2≠[47,47]/\2<=y.length/\(av y).1.length<y.length/\(av y).1≠[]:=by decide
theorem PT:(Ev.cB.all λy=>Ev.cB.all λz=>!aT y||decide (y=[47])||!aT z||decide (z=[47])||under y z||(od (av y).1 z).isNone)=true:=by kernel_rfl
theorem Up (h1:y∈Ev.cB)(h2:aT y=true)(h3:y≠[47])(h4:z∈Ev.cB)(h5:aT z=true)(h6:z≠[47])(h7:under y z=false):od (av y).1 z=none:=by
 have h:=gQ.1 (gQ.1 PT y h1) z h4;rw[h2,h5,h7,gS h3,gS h6] at h;exact Option.isNone_iff_eq_none.1 h
theorem zO {x:a6}(h:od x.af z=some r):xJ z y x=⟨y++r,x.id⟩:=by unfold xJ;rw[h]
theorem sR {x:a6}(h:od x.af z=none):xJ z y x=x:=by unfold xJ;rw[h]
theorem JV (z y:aA)(x:a6):(xJ z y x).id=x.id:=by
 unfold xJ;split<;>rfl
theorem ic.move {f:Flat}(h:ic f)(PU:z∈Ev.cB)(JW:y∈Ev.cB)(hz:aT z=true)(hy:aT y=true)(zS:z≠[47])(qE:sT f.ad y=none)(IL:under y z=false){w:a6}(hw:w∈f.ad)(J6:w.af=(av y).1)(JB:∃t∈f.ae,t.id=w.id/\t.aD=true)(hc:(av y).1≠(av z).1->f.ad.countP (tS (av y).1)<12):PS (f.ad.map (xJ z y)) f.ae:=by
 have hg:=h.g.p;have hy0:y≠[47]:=λe=>by
  have:=h.cy;rw[<-e,qE] at this;cases this
 have UN:=vZ hy;have hz1:=vZ hz;obtain⟨_,hy2,hy3,_⟩:=AT y JW hy hy0;obtain⟨_,hz2,_,_⟩:=AT z PU hz zS;have hyn:=qC y JW hy hy0;have hya:=Up JW hy hy0 PU hz zS IL;have alU:∀x∈f.ad,∀r,od x.af y=some r->False:=λx hx r hr=>by
  obtain⟨g1,g2⟩:=fX.1 hr;obtain⟨j,hj,rfl⟩:=iZ hx;rcases g2 with rfl|g2
  .exact qB qE _ (qS hj) (by rw[g1,ix])
  .cases r with
   |nil=>exact absurd g2 (by decide)
   |cons c r=>
    have:c=47:=by simpa using g2
    subst this;obtain⟨m,hm,Y1⟩:=h.closed UN j j (cA _) hj r (by rw[aR,bd hj];exact g1);exact qB qE _ (dG cu hm) Y1
 have alV:∀x,bG (av x).2=true->od x z=none->od (av x).1 z=none:=λx hx hc=>by
  cases hw:od (av x).1 z with
  |none=>rfl
  |some r=>
   exfalso;obtain⟨g1,g2⟩:=fX.1 hw;rcases E4 hx with e|⟨e1,e2⟩
   .have:od x z=some (r++47::(av x).2):=fX.2 ⟨by rw[<-kG,<-g1];exact e,.inr (by
     rcases g2 with rfl|g2
     .rfl
     .cases r with
      |nil=>rfl
      |cons c r=>exact g2)⟩
    rw[hc] at this;cases this
   .rw[e1] at g1;have:=fI List.length g1;rw[bJ] at this;simp at this;omega
 have Nn:xJ z y ⟨[47],0⟩=⟨[47],0⟩:=sR (by
  show od [47] z=none;cases hw:od [47] z with
  |none=>rfl
  |some r=>
   have:=fI List.length (fX.1 hw).1;rw[bJ] at this;simp at this;omega)
 have L9:∀n,rQ (f.ad.map (xJ z y)) n=rQ f.ad n:=λn=>by
  unfold rQ;rw[List.countP_map];refine Gi λx _=>?_
  show decide ((xJ z y x).id=n)=true↔_;rw[JV]
 refine⟨hg.tl,hg.st,hg.t0,hg.tx,x4 h UN qE,kO.2 ⟨_,hg.nr,Nn⟩,λx hx=>?_,λx hx vA=>?_,λn=>by rw[L9];exact hg.ct n,λt ht hf=>by rw[L9];exact hg.cf t ht hf,λZ=>?_,λx hx=>?_⟩
 .obtain⟨v,hv,rfl⟩:=kO.1 hx;rw[JV];exact hg.th v hv
 .obtain⟨v,hv,rfl⟩:=kO.1 hx;cases hcv:od v.af z with
  |some r=>
   rw[zO hcv] at vA⊢;obtain⟨g1,g2⟩:=fX.1 hcv;by_cases hr:r=[]
   .subst hr;rw[show(⟨y++[],v.id⟩:a6).af=y from ix y];refine⟨hyn,w,kO.2 ⟨w,hw,sR (by rw[J6];exact hya)⟩,J6,JB⟩
   .cases r with
    |nil=>exact absurd rfl hr
    |cons c r=>
    have:c=47:=by rcases g2 with g2|g2;cases g2;simpa using g2
    subst this;obtain⟨s,hs⟩:=BF r;obtain⟨h1,h2⟩:=wa hz1 hs;obtain⟨_,h4⟩:=wa UN hs;have hv0:v.af≠[47]:=λe=>by
     rw[e] at g1;have:=fI List.length g1;rw[bJ] at this;simp at this;omega
    obtain⟨h5,u,hu,h6,h7⟩:=hg.up v hv hv0;rw[g1,h2] at h5 h6;show bG (av (y++47::r)).2=true/\∃w∈f.ad.map (xJ z y),w.af=(av (y++47::r)).1/\_;rw[h4];refine⟨h5,_,kO.2 ⟨u,hu,rfl⟩,?_,by rw[JV];exact h7⟩;rw[zO (fX.2 ⟨h6,h1⟩)]
  |none=>
   rw[sR hcv] at vA⊢;obtain⟨h5,u,hu,h6,h7⟩:=hg.up v hv vA;exact⟨h5,u,kO.2 ⟨u,hu,sR (by rw[h6];exact alV _ h5 hcv)⟩,h6,h7⟩
 .rw[List.countP_map];have hK:∀x∈f.ad,tS Z (xJ z y x)=true->(∃r s,x.af=z++47::r/\(av x.af).1=z++(47::r).take s/\((47::r).take s=[]\/((47::r).take s).getD 0 0=47)/\y++(47::r).take s=Z)\/(x.af=z/\(av y).1=Z)\/tS Z x=true:=λx hx hk=>by
   cases hcv:od x.af z with
   |none=>rw[sR hcv] at hk;exact .inr (.inr hk)
   |some r=>
    rw[zO hcv] at hk;obtain⟨g1,g2⟩:=fX.1 hcv;unfold tS at hk;rw[bU,bQ,bQ] at hk;cases r with
    |nil=>rw[ix] at g1 hk;exact .inr (.inl ⟨g1,hk.2⟩)
    |cons c r=>
     have:c=47:=by rcases g2 with g2|g2;cases g2;simpa using g2
     subst this;obtain⟨s,hs⟩:=BF r;obtain⟨h1,h2⟩:=wa hz1 hs;obtain⟨_,h4⟩:=wa UN hs;refine .inl ⟨r,s,g1,by rw[g1,h2],h1,?_⟩;have:=hk.2;rw[h4] at this;exact this
  have fK:∀x:a6,∀r,x.af=z++r->x.af≠[47]:=λx r g1 e=>by
   rw[e] at g1;have:=fI List.length g1;rw[bJ] at this;simp at this;omega
  cases hZ:od Z y with
  |some r0=>
   obtain⟨hZ1,hZ2⟩:=fX.1 hZ;refine ik (List.countP_mono_left λx hx hk=>?_) (hg.cn (z++r0));rcases hK x hx hk with⟨r,s,h1,h2,h3,h4⟩|⟨h1,h2⟩|h1
   .unfold tS;rw[bU,bQ,bQ];refine⟨fK x _ h1,?_⟩;rw[h2];rw[hZ1] at h4;rw[List.append_cancel_left h4]
   .exfalso;rw[h2,hZ1,bJ] at hy3;omega
   .exfalso;unfold tS at h1;rw[bU,bQ,bQ] at h1;obtain⟨_,v,hv,h5,_⟩:=hg.up x hx h1.1;exact alU v hv r0 (by rw[h5,h1.2];exact hZ)
  |none=>
   have hK:∀x∈f.ad,tS Z (xJ z y x)=true->(x.af=z/\(av y).1=Z)\/tS Z x=true:=λx hx hk=>by
    rcases hK x hx hk with⟨r,s,h1,h2,h3,h4⟩|h1
    .have:=fX.2 ⟨h4.symm,h3⟩;rw[hZ] at this;cases this
    .exact h1
   by_cases hs:(av y).1=Z/\(av y).1≠(av z).1
   .have h1:=hc hs.2;rw[hs.1] at h1;have h2:=E5 (K:=tS Z ∘ xJ z y) (A:=λx:a6=>decide (x.af=z)) (B:=tS Z) f.ad λx hx hk=>by
     rcases hK x hx hk with h3|h3
     .exact .inl (dt h3.1)
     .exact .inr h3
    have h3:=Np hg.sn z;omega
   .refine ik (List.countP_mono_left λx hx hk=>?_) (hg.cn Z);rcases hK x hx hk with⟨h1,h2⟩|h1
    .unfold tS;rw[bU,bQ,bQ];refine⟨fK x [] (by rw[ix];exact h1),?_⟩;rw[h1];refine lT λh3=>hs ⟨h2,λh4=>h3 ?_⟩
     rw[<-h4];exact h2
    .exact h1
 .obtain⟨v,hv,hi⟩:=hg.al x hx;exact⟨_,kO.2 ⟨v,hv,rfl⟩,by rw[JV];exact hi⟩
end
section
variable {f:Flat}{o:Op}
theorem Zd:∀z∈Ev.cB,z.take 2=[47,47]->z.length=2:=by decide
theorem ic.kids (h:ic f)(z:aA):f.ad.countP (tS z)=f.nD z:=by
 refine' zaY
 rw[h.abB,<-JT h.nr fK];rfl
theorem abI (a:Nat)(x t:aA):(wrJ (a:Int) x t).length<=max t.length (a+x.length):=by
 unfold wrJ;rw[JP,bJ,bJ,cZ,gd,bJ,ry];omega
theorem abJ (a:Nat)(t:aA):(ctJ (a:Int) t).length<=a:=by
 unfold ctJ;rw[cZ];show min a _<=a;omega
theorem ic.uf (h:ic f){z:aA}{k:Nat}(hk:sT f.ad z=some k)(hf:¬gC f.ae (dy f.ad z)=true)(g:aA->aA)(hg:∀x:aA,x.length<=192->(g x).length<=192):PS f.ad (Go.Pl.uf f.ae (dy f.ad z) g):=by
 obtain⟨BW,By⟩:=h.zJ hk;obtain⟨t,ht⟩:=ju.1 (h.nm k BW).1;rw[h.ml hk] at hf⊢;unfold Go.Pl.uf;unfold gC at hf;rw[ht] at hf⊢;have hp:=h.g.p;have pz:=(rK ht).1;exact hp.aW pz (Bool.eq_false_iff.2 hf) (hg _ (hp.tx _ (dG ec pz)).2.2)
theorem ic.newAt (h:ic f){y:aA}(JW:y∈Ev.cB)(hy:aT y=true)(cC:Bool)(h0:uw f.ad f.ae y cC=0):sT f.ad y=none/\y≠[47]/\cC=false/\bG (av y).2=true/\f.ad.countP (tS (av y).1)<12/\∃w∈f.ad,w.af=(av y).1/\∃t∈f.ae,t.id=w.id/\t.aD=true:=by
 rw[AO h hy] at h0;have hf:¬0<f.bD y:=λe=>by rw[if_pos e] at h0;omega
 rw[if_neg hf] at h0;obtain⟨g1,g2,k,g3,g4⟩:=oq hf;have hc:¬(cC=true\/12<=f.nD (aP y).1):=λe=>by rw[if_pos e] at h0;cases h0
 have hn:=qC y JW hy g2;have hs:=pF hn;rw[hs] at hc g3;obtain⟨BW,By⟩:=h.zJ g3;refine⟨g1,g2,Bool.eq_false_iff.2 λe=>hc (.inl e),hn,?_,_,dG cu BW,By,(nB h.st).1 (by rw[h.ZF];exact g4)⟩;rw[h.kids];refine lT λe=>hc (.inr ag)
theorem afA (h:ic f)(ho:gJ o=true)(PU:o.af∈Ev.cB)(JW:o.to∈Ev.cB)(hk:¬(o.kind=1\/o.kind=2))(h0:jB f.ad f.ae o=0):PS (rR f.ad f.ae o).1 (rR f.ad f.ae o).2:=by
 obtain⟨⟨h1,h2⟩,h3,h4,h5,h6⟩:=jD ho;obtain⟨kd,pa,tq9,at_,tx⟩:=o;dsimp only at h1 h2 h3 h4 h5 h6 PU JW hk;obtain⟨a,rfl⟩:=wB h5.1;have hp:=h.g.p;unfold jB at h0;dsimp only at h0;unfold rR;dsimp only;rw[if_neg hk] at h0⊢;have c1:¬dy f.ad pa<0:=λe=>by rw[if_pos e] at h0;cases h0
 rw[if_neg c1] at h0;obtain⟨k,x8⟩:=ju.1 ((h.ld0 pa).1 ag);obtain⟨BW,By⟩:=h.zJ x8;have I6:=h.ml x8;by_cases k34:kd=3\/kd=4
 .rw[if_pos k34] at h0;have c2:¬gC f.ae (dy f.ad pa)=true:=λe=>by rw[if_pos e] at h0;cases h0
  rw[if_neg c2] at h0;have c3:¬192<(a:Int)+(tx.length:Int):=λe=>by rw[if_pos e] at h0;cases h0
  by_cases k3:kd=3
  .rw[if_pos k3];dsimp only;split
   .exact hp
   .exact h.uf x8 c2 _ λx hx=>by
     have:=abI a tx x;omega
  .rw[if_neg k3,if_pos (show kd=4 by omega)];exact h.uf x8 c2 _ λx hx=>by
    have:=abJ a x;omega
 rw[if_neg (show ¬kd=3 by omega),if_neg (show ¬kd=4 by omega)];rw[if_neg k34] at h0;by_cases k5:kd=5
 .rw[if_pos k5] at h0⊢;have c2:¬(dy f.ad pa=0\/(gC f.ae (dy f.ad pa)=true/\0<NJ f.ad (dy f.ad pa))):=λe=>by rw[if_pos e] at h0;cases h0
  have hm:=dG cu BW;have hr:=h.zK x8;have:=hp.drop hm (by rw[By];exact λe=>c2 (.inl (hr.2 e))) (by rw[<-I6];exact λe=>c2 (.inl e)) (by
   rw[h.kids];cases hb:tH f.ad f.ae k with
   |false=>exact h.ade BW hb
   |true=>
    refine lT λe=>c2 (.inr ?_)
    rw[I6,h.ZF,h.YX BW];exact⟨hb,ag⟩)
  rw[By] at this;rw[I6];exact this
 rw[if_neg k5] at h0⊢;by_cases k6:kd=6
 .rw[if_pos k6] at h0⊢;have c2:¬gC f.ae (dy f.ad pa)=true:=λe=>by rw[if_pos e] at h0;cases h0
  rw[if_neg c2] at h0;obtain⟨g1,g2,g3,g4,g5,w,g6,g7,g8⟩:=h.newAt JW (h4 (.inl k6)) _ h0;obtain⟨t,ht⟩:=ju.1 (h.nm k BW).1;rw[I6] at c2 g3⊢;unfold gC at c2;rw[ht] at c2;obtain⟨pz,hti⟩:=rK ht;have:=hp.link g4 (qB g1) g6 g7 g8 (dG ec pz) (Bool.eq_false_iff.2 c2) (by
   rw[hti];have:=of_decide_eq_false g3;omega) g5
  rw[hti] at this;exact this
 rw[if_neg k6] at h0⊢;have k7:kd=7:=by omega
 refine' zaM
 rw[if_neg c3] at h0;have c4:¬under tq9 pa=true:=λe=>by rw[if_pos e] at h0;cases h0
 rw[if_neg c4] at h0;have qE:sT f.ad tq9=none:=(h.xY tq9).1 ag;have zS:pa≠[47]:=λe=>c2 ((h.zK x8).2 e)
 have hy0:tq9≠[47]:=λe=>by
  have:=h.cy;rw[<-e,qE] at this;cases this
 have tc:=pF (qC tq9 JW UQ hy0);have hs2:=pF (qC pa PU h3 zS);rw[qA UQ hy0,qA h3 zS,tc,hs2] at h0;have c5:¬dy f.ad (av tq9).1<0:=λe=>by rw[if_pos e] at h0;cases h0
 rw[if_neg c5] at h0;obtain⟨m,hm⟩:=ju.1 ((h.ld0 (av tq9).1).1 ag);obtain⟨Qo,Y1⟩:=h.zJ hm;rw[h.ml hm,h.ZF,h.YX Qo,Y1] at h0;have c6:¬tH f.ad f.ae m=false:=λe=>by rw[if_pos e] at h0;cases h0
 rw[if_neg c6] at h0;refine h.move PU JW h3 UQ zS qE (Bool.eq_false_iff.2 c4) (dG cu Qo) Y1 ((nB h.st).1 (by rw[h.ZF];cases hb:tH f.ad f.ae m with|true=>rfl|false=>exact absurd hb c6)) λe=>?_
 rw[h.kids];refine lT λe2=>?_
 rw[if_pos] at h0
 .cases h0
 .refine⟨λe3=>e ?_,ag⟩;have R9:1<=k:=by
   refine lT λhk=>?_
   have:k=0:=by omega
   subst this;rw[h.nr] at By;exact zS By.symm
  obtain⟨w,hw,hwn,JB,J6⟩:=h.par R9 BW;rw[By] at hwn J6;rw[h.ml hwn] at e3;have:=h.uniq Qo ag e3 (by cases hb:tH f.ad f.ae m with|true=>rfl|false=>exact absurd hb c6);rw[<-Y1,this,J6]
theorem afB (h:ic f)(ho:gJ o=true)(PU:o.af∈Ev.cB)(JW:o.to∈Ev.cB)(h0:jB f.ad f.ae o=0):ic (NK f.ad f.ae o):=by
 by_cases hk:o.kind=1\/o.kind=2
 .exact(abH h ho PU hk h0).1
 .exact(afA h ho PU JW hk h0).g.f
theorem ic.ajf (h:ic f):f.ad.length<=144:=by
 have hp:=h.g.p;have key:∀(q:eG)(p:List a6),(∀n,rQ p n<=9)->(∀x∈p,∃y∈q,y.id=x.id)->p.length<=9*q.length:=by
  intro q;induction q with
  |nil=>
   intro p _ h2;cases p with
   |nil=>exact iJ _
   |cons x p=>obtain⟨y,hy,_⟩:=h2 x iV;cases hy
  |cons t q ih=>
   intro p h1 h2;have h3:=ih (p.filter λx=>!decide (x.id=t.id)) (λn=>ik (List.filter_sublist.countP_le) (h1 n)) (λx hx=>by
    rw[qR] at hx;obtain⟨y,hy,e⟩:=h2 x hx.1;rcases bR.1 hy with rfl|hy
    .rw[e] at hx;simp at hx
    .exact⟨y,hy,e⟩)
   have h4:=h1 t.id;unfold rQ at h4;rw[List.countP_eq_length_filter] at h4;have h5:p.length=(p.filter λx=>decide (x.id=t.id)).length+(p.filter λx=>!decide (x.id=t.id)).length:=by
    rw[<-List.countP_eq_length_filter,<-List.countP_eq_length_filter];have h6:=List.length_eq_countP_add_countP (λx:a6=>decide (x.id=t.id)) (l:=p);rw[h6]
    congr 1
    exact Gi λx _=>by simp
   rw[cY];omega
 have:=key f.ae f.ad hp.ct hp.th;have:=hp.tl;omega
theorem ic.ajg (h:ic f):∀(n j:Nat),j<=n->j<f.ad.length->(f.ad.getD j cu).af.length<=1+5*j/\∀c∈(f.ad.getD j cu).af,c.toNat<128
 |n,j,hjn,hj=>by
  by_cases h0:j=0
  .subst h0;rw[h.nr];refine⟨cA _,λc hc=>?_⟩;have:c=47:=by simpa using hc
   subst this;decide
  .obtain⟨m,hm,Fj,hfm,hpm⟩:=h.par (show 1<=j by omega) hj;have qE:=((h.nm j hj).2.1 ag).2.2.1;cases n with
   |zero=>omega
   |succ n=>
    obtain⟨i1,i2⟩:=h.ajg n m ag ag;rw[hpm] at i1 i2;unfold bG at qE;simp only[bU,bQ,gQ] at qE;have hx:(f.ad.getD j cu).af.length<=(av (f.ad.getD j cu).af).1.length+1+(av (f.ad.getD j cu).af).2.length/\∀c∈(f.ad.getD j cu).af,c∈(av (f.ad.getD j cu).af).1\/c=47\/c∈(av (f.ad.getD j cu).af).2:=by
     rcases E4 ((h.nm j hj).2.1 ag).2.2.1 with e|⟨e1,e2⟩
     .have e3:=fI List.length e;rw[bJ,cY] at e3;refine⟨ag,λc hc=>?_⟩;rw[e,eX,bR] at hc;exact hc
     .have e3:=fI List.length e2;rw[cY] at e3;refine⟨ag,λc hc=>?_⟩;rw[e2,bR] at hc;exact .inr hc
    refine⟨ag,λc hc=>?_⟩;rcases hx.2 c hc with h1|rfl|h1
    .exact i2 c h1
    .decide
    .have:=qE.1.1 c h1;omega
theorem ajh (h:ic f)(hN:∀x∈f.ad,sE x.af)(ho:gJ o=true)(PU:o.af∈Ev.cB)(JW:o.to∈Ev.cB)(h0:jB f.ad f.ae o=0):∀x∈(NK f.ad f.ae o).ad,sE x.af:=by
 have hI:∀z∈Ev.cB,sE z:=Zd;obtain⟨⟨h1,h2⟩,h3,h4,h5,h6⟩:=jD ho;intro x hx;have hx:x∈(rR f.ad f.ae o).1:=(iA _ x).1 hx;unfold jB at h0;unfold rR at hx;have hs:∀(y:a6),x∈f.ad++[y]->sE y.af->sE x.af:=λy hx hy=>by
  rcases eX.1 hx with hx|hx
  .exact hN x hx
  .rw[gR] at hx;subst hx;exact hy
 by_cases Y3:o.kind=1\/o.kind=2
 .rw[if_pos Y3] at hx;exact hs _ hx (hI _ PU)
 rw[if_neg Y3] at hx h0;by_cases k3:o.kind=3
 .rw[if_pos k3] at hx;exact hN x hx
 rw[if_neg k3] at hx;by_cases k4:o.kind=4
 .rw[if_pos k4] at hx;exact hN x hx
 rw[if_neg k4] at hx;have c1:¬dy f.ad o.af<0:=λe=>by rw[if_pos e] at h0;cases h0
 rw[if_neg c1,if_neg (show ¬(o.kind=3\/o.kind=4) by omega)] at h0;by_cases k5:o.kind=5
 .rw[if_pos k5] at hx;exact hN x (qR.1 hx).1
 rw[if_neg k5] at hx h0;by_cases k6:o.kind=6
 .rw[if_pos k6] at hx;exact hs _ hx (hI _ JW)
 rw[if_neg k6] at hx h0;obtain⟨v,hv,rfl⟩:=kO.1 hx;cases hc:od v.af o.af with
 |none=>rw[sR hc];exact hN v hv
 |some r=>
  rw[zO hc];have c2:¬dy f.ad o.af=0:=λe=>by rw[if_pos e] at h0;cases h0
  rw[if_neg c2] at h0;have c3:¬0<=dy f.ad o.to:=λe=>by rw[if_pos e] at h0;cases h0
  have qE:sT f.ad o.to=none:=(h.xY o.to).1 ag;have hy0:o.to≠[47]:=λe=>by
   have:=h.cy;rw[<-e,qE] at this;cases this
  obtain⟨g1,g2,_⟩:=AT _ JW (h4 (.inr ag)) hy0;intro e;have e:(o.to++r).take 2=[47,47]:=e;rw[BJ g2] at e;exact absurd e g1
end
section
variable {q:Op}
def NN (f:Flat)(o:Op):Flat:=⟨f.ad,if o.aW=[] then f.ae else uf f.ae (dy f.ad o.af) (wrJ o.at_ o.aW)⟩
theorem abK {q:eG}{t:Nat}{y:bC}(hy:y.id=(q.getD t ec).id)(n:Int):kM (q.set t y) n=kM q n:=by
 have h:∀(l:eG)(t:Nat)(y:bC),y.id=(l.getD t ec).id->(l.set t y).map bC.id=l.map bC.id:=by
  intro l;induction l with
  |nil=>intro t y _;rfl
  |cons a l ih=>
   intro t y hy;cases t with
   |zero=>rw[List.set_cons_zero,vp,vp,hy];rfl
   |succ t=>rw[List.set_cons_succ,vp,vp,ih t y hy]
 have k:∀l:eG,kM l n=(l.map bC.id).findIdx? λx=>decide (x=n):=λl=>by
  unfold kM;rw[List.findIdx?_map];rfl
 rw[k,k,h q t y hy]
theorem zP (q:eG)(k:Int)(g:aA->aA)(n:Int):kM (uf q k g) n=kM q n:=by
 unfold uf;cases kM q k with
 |none=>rfl
 |some t=>
  show kM (q.set t ⟨(q.getD t ec).id,(q.getD t ec).aD,g (q.getD t ec).aW⟩) n=_;exact abK (y:=⟨(q.getD t ec).id,(q.getD t ec).aD,g (q.getD t ec).aW⟩) rfl n
theorem abL (q:eG)(k:Int)(g:aA->aA)(n:Int):gC (uf q k g) n=gC q n:=by
 unfold gC;rw[zP];cases hn:kM q n with
 |none=>rfl
 |some i=>
  show((uf q k g).getD i ec).aD=(q.getD i ec).aD;unfold uf;cases hk:kM q k with
  |none=>rfl
  |some t=>
   show((q.set t _).getD i ec).aD=_;rw[aR,aR,List.getElem?_set];split
   .rename_i e;subst e;split
    .rw[aR];rfl
    .rename_i hl;exact absurd (rK hk).1 hl
   .rfl
theorem Ze (q:eG){k m:Int}(hkm:k≠m)(g g':aA->aA):uf (uf q k g) m g'=uf (uf q m g') k g:=by
 cases hk:kM q k with
 |none=>
  have h1:∀q',kM q' k=none->uf q' k g=q':=λq' h=>by unfold uf;rw[h]
  rw[h1 q hk,h1 _ (by rw[zP];exact hk)]
 |some t=>
  cases hm:kM q m with
  |none=>
   have h1:∀q',kM q' m=none->uf q' m g'=q':=λq' h=>by unfold uf;rw[h]
   rw[h1 q hm,h1 _ (by rw[zP];exact hm)]
  |some u=>
   have h1:∀q',kM q' k=some t->uf q' k g=q'.set t ⟨(q'.getD t ec).id,(q'.getD t ec).aD,g (q'.getD t ec).aW⟩:=λq' h=>by unfold uf;rw[h]
   have h2:∀q',kM q' m=some u->uf q' m g'=q'.set u ⟨(q'.getD u ec).id,(q'.getD u ec).aD,g' (q'.getD u ec).aW⟩:=λq' h=>by unfold uf;rw[h]
   have htu:t≠u:=λe=>by
    have a:=(rK hk).2;have b:=(rK hm).2;rw[e,b] at a;exact hkm a.symm
   have hg:∀(i j:Nat)(y:bC),i≠j->(q.set i y).getD j ec=q.getD j ec:=λi j y mR=>by
    rw[aR,List.getElem?_set_ne mR,aR]
   rw[h2 _ (by rw[zP];exact hm),h1 (uf q m g') (by rw[zP];exact hk),h1 q hk,h2 q hm,hg t u _ htu,hg u t _ (Ne.symm htu),List.set_comm _ _ htu]
theorem Zf {q:eG}(h:gi q)(k:Int)(g:aA->aA):gi (uf q k g):=by
 unfold uf;cases kM q k with
 |none=>exact h
 |some t=>exact AP h rfl
theorem afC {f:Flat}(h:ic f){o:Op}(hk:o.kind=3):im f o=if gJ o=true then(if jB f.ad f.ae o=0 then(NN f o,0) else(f,jB f.ad f.ae o)) else(f,1):=by
 have hd:NK f.ad f.ae o=NN f o:=by
  unfold NK NN;have hJ:rR f.ad f.ae o=(f.ad,if o.aW=[] then f.ae else uf f.ae (dy f.ad o.af) (wrJ o.at_ o.aW)):=by
   unfold rR;rw[if_neg ag,if_pos hk]
  rw[hJ,vd h.sn]
  congr 1
  dsimp only;split
  .exact nq h.st
  .exact nq (Zf h.st _ _)
 unfold im;rw[hd]
theorem adl {f:Flat}{o q:Op}(hq:q.kind=3):jB f.ad (NN f o).ae q=jB f.ad f.ae q:=by
 have hf:∀n,gC (NN f o).ae n=gC f.ae n:=λn=>by
  unfold NN;dsimp only;split
  .rfl
  .exact abL _ _ _ n
 unfold jB;rw[if_neg (show ¬(q.kind=1\/q.kind=2) by omega),if_neg (show ¬(q.kind=1\/q.kind=2) by omega),if_pos (show q.kind=3\/q.kind=4 from .inl hq),if_pos (show q.kind=3\/q.kind=4 from .inl hq),hf]
theorem Zg (f:Flat){o q:Op}(fK:dy f.ad o.af≠dy f.ad q.af):NN (NN f o) q=NN (NN f q) o:=by
 unfold NN;dsimp only
 congr 1
 by_cases h1:o.aW=[]
 .rw[if_pos h1,if_pos h1]
 .rw[if_neg h1,if_neg h1];by_cases h2:q.aW=[]
  .rw[if_pos h2,if_pos h2]
  .rw[if_neg h2,if_neg h2,Ze _ fK]
theorem vn {f:Flat}(h:ic f){o:Op}(PU:o.af∈Ev.cB)(JW:o.to∈Ev.cB):ic (im f o).1:=by
 unfold im;split
 .rename_i ho;split
  .rename_i h0;exact afB h ho PU JW h0
  .exact h
 .exact h
theorem Zh {f:Flat}(h:ic f)(hN:∀x∈f.ad,sE x.af){o:Op}(PU:o.af∈Ev.cB)(JW:o.to∈Ev.cB):∀x∈(im f o).1.ad,sE x.af:=by
 unfold im;split
 .rename_i ho;split
  .rename_i h0;exact ajh h hN ho PU JW h0
  .exact hN
 .exact hN
theorem Zi {f:Flat}(h:ic f){o q:Op}(ho:o.kind=3)(hq:q.kind=3)(hoI:o.af∈Ev.cB/\o.to∈Ev.cB)(hqI:q.af∈Ev.cB/\q.to∈Ev.cB)(fK:dy f.ad o.af≠dy f.ad q.af):(im (im f o).1 q).1=(im (im f q).1 o).1/\(im (im f o).1 q).2=(im f q).2/\(im (im f q).1 o).2=(im f o).2:=by
 have e:∀{o:Op},o.kind=3->∀g:Flat,ic g->im g o=if gJ o=true then(if jB g.ad g.ae o=0 then(NN g o,0) else(g,jB g.ad g.ae o)) else(g,1):=λhk g hg=>afC hg hk
 have h1:=vn h (o:=o) hoI.1 hoI.2;have h2:=vn h (o:=q) hqI.1 hqI.2;rw[e hq _ h1,e ho _ h2];rw[e ho _ h] at h1⊢;rw[e hq _ h] at h2⊢;have a1:=adl (f:=f) (o:=o) hq;have a2:=adl (f:=f) (o:=q) ho;have a1':jB (NN f o).ad (NN f o).ae q=jB f.ad f.ae q:=a1;have zW:jB (NN f q).ad (NN f q).ae o=jB f.ad f.ae o:=a2;clear h1 h2 a1 a2;by_cases b1:gJ o=true
 .by_cases c1:jB f.ad f.ae o=0
  .by_cases b2:gJ q=true
   .by_cases c2:jB f.ad f.ae q=0
    .refine⟨?_,?_,?_⟩<;>simp only[if_pos b1,if_pos b2,if_pos c1,if_pos c2,a1',zW]
     exact Zg f fK
    .refine⟨?_,?_,?_⟩<;>simp only[if_pos b1,if_pos b2,if_pos c1,if_neg c2,a1']
   .refine⟨?_,?_,?_⟩<;>simp only[if_pos b1,if_neg b2,if_pos c1]
  .by_cases b2:gJ q=true
   .by_cases c2:jB f.ad f.ae q=0
    .refine⟨?_,?_,?_⟩<;>simp only[if_pos b1,if_pos b2,if_neg c1,if_pos c2,zW]
    .refine⟨?_,?_,?_⟩<;>simp only[if_pos b1,if_pos b2,if_neg c1,if_neg c2]
   .refine⟨?_,?_,?_⟩<;>simp only[if_pos b1,if_neg b2,if_neg c1]
 .by_cases b2:gJ q=true
  .by_cases c2:jB f.ad f.ae q=0
   .refine⟨?_,?_,?_⟩<;>simp only[if_neg b1,if_pos b2,if_pos c2]
   .refine⟨?_,?_,?_⟩<;>simp only[if_neg b1,if_pos b2,if_neg c2]
  .refine⟨?_,?_,?_⟩<;>simp only[if_neg b1,if_neg b2]
end
end Go.Pl
namespace Go.Pl
open Go Go.Ev Go.Lg Go.Proofs
section
variable {E:dA}{X:dM}{Γ:ij}{l:Kn}{L R:bE}{K:KO}{g:FuncId}{xs:List Operand}{ts:Array TypeId}{vs:aQ}{a:aK}{br c p d n:Nat}{code:aA}
theorem WO.Zj (hx:kL l xs vs)(h:∀s,pH s a code->M1 code.length c->YT E X g vs s a)(hd:sy Γ a code)(hv:M1 code.length c)(k:∀m m' (f:Flat)(o:Op)(an:aK)(cn:Nat)(a0:aK)(p0:List a6)(c0:Nat)(at_:aK)(ct:Nat),fU f->T2 o->Sub 2 a0 p0 an f.ad->kq L m->m<=m'->K (.tuple ⟨[.agg ⟨iw an cn f.ad at_ ct f.ae⟩,ov o]⟩) (cv a0 c0 p0::dN at_ ct f.ae::L) m m' (λi=>i∈aj a\/i∈([]:bE).flatMap It.aY\/(m<=i/\i<m')) (λi=>i∈([]:bE).flatMap It.aY\/(m<=i/\i<m'))):WO E X Γ l (.call ⟨.value (.func g),⟨xs⟩,ts⟩) L K:=
 WO.call (Lm:=[]) (R:=L) (A:=aj a) hx (.refl _) (λs hi=>(hd.row hi).2) (λs hi=>h s (hd.row hi).1 hv) (by rintro r L' m m' ho hm ⟨f,o,an,cn,a0,p0,c0,at_,ct,h1,h2,h3,rfl,rfl⟩;exact k m m' f o an cn a0 p0 c0 at_ ct h1 h2 h3 ho hm)
abbrev vo (E:dA)(X:dM)(g:FuncId)(vs:aQ)(s:St)(a a':aK)(F:Flat)(cd:Int):Prop:=fH E X g vs s [] (kF a a') λR L=>∃(a1:aK)(c1:Nat)(b1:aK)(d1:Nat)(p1:List a6)(a2:aK)(c2:Nat)(b2:aK)(d2:Nat)(q2:eG),Sub 2 b1 p1 a1 F.ad/\Sub 3 b2 q2 a2 F.ae/\R= .tuple ⟨[js a1 c1 a2 c2 F,iv cd]⟩/\L=[cv b1 d1 p1,dN b2 d2 q2]
theorem WO.DS {a a':aK}{f F:Flat}{cd:Int}(hx:kL l xs vs)(h:∀s,cl s a a' f->vo E X g vs s a a' F cd)(hh:Wn Γ L a a' f)(k:∀m m' (a1:aK)(c1:Nat)(b1:aK)(d1:Nat)(p1:List a6)(a2:aK)(c2:Nat)(b2:aK)(d2:Nat)(q2:eG),Sub 2 b1 p1 a1 F.ad->Sub 3 b2 q2 a2 F.ae->kq L m->m<=m'->K (.tuple ⟨[js a1 c1 a2 c2 F,iv cd]⟩) (cv b1 d1 p1::dN b2 d2 q2::L) m m' (λi=>i∈kF a a'\/i∈([]:bE).flatMap It.aY\/(m<=i/\i<m')) (λi=>i∈([]:bE).flatMap It.aY\/(m<=i/\i<m'))):WO E X Γ l (.call ⟨.value (.func g),⟨xs⟩,ts⟩) L K:=
 WO.call (Lm:=[]) (R:=L) (A:=kF a a') hx (.refl _) (λs hi i hb=>by
   rcases eX.1 hb with hb|hb
   .exact(hh.n.row hi).2 i hb
   .exact(hh.t.row hi).2 i hb) (λs hi=>h s ⟨(hh.n.row hi).1,(hh.t.row hi).1⟩) (by rintro r L' m m' ho hm ⟨a1,c1,b1,d1,p1,a2,c2,b2,d2,q2,h1,h2,rfl,rfl⟩;exact k m m' a1 c1 b1 d1 p1 a2 c2 b2 d2 q2 h1 h2 ho hm)
theorem WO.Xk {a a' a2 zW:aK}{n n' n2 n2' sz Sx sz2 aji:Nat}{cs cs' cs2 ajj:aQ}{r:Value}(hx:kL l xs vs)(h:∀s,bO s a n sz cs->bO s a' n' Sx cs'->bO s a2 n2 sz2 cs2->bO s zW n2' aji ajj->qj E X g vs s ((aj a++aj a')++(aj a2++aj zW)) r)(h1:jY Γ L a n sz cs)(h2:jY Γ L a' n' Sx cs')(h3:jY Γ L a2 n2 sz2 cs2)(h4:jY Γ L zW n2' aji ajj)(k:∀m m',kq L m->m<=m'->K r L m m' (λi=>i∈(aj a++aj a')++(aj a2++aj zW)\/i∈([]:bE).flatMap It.aY\/(m<=i/\i<m')) (λi=>i∈([]:bE).flatMap It.aY\/(m<=i/\i<m'))):WO E X Γ l (.call ⟨.value (.func g),⟨xs⟩,ts⟩) L K:=
 WO.ub hx (λs hi=>⟨λb hb=>by
   rcases eX.1 hb with hb|hb<;>rcases eX.1 hb with hb|hb
   .exact(h1.row hi).2 b hb
   .exact(h2.row hi).2 b hb
   .exact(h3.row hi).2 b hb
   .exact(h4.row hi).2 b hb,h s (h1.row hi).1 (h2.row hi).1 (h3.row hi).1 (h4.row hi).1⟩) k
theorem bO.abM {α:Type}{sz:Nat}[ak α sz]{s:St}:bO s none ([]:List α).length sz (ai (sz:=sz) ([]:List α)):=⟨by rw[bh],.inl ⟨rfl,.inl rfl⟩⟩
theorem Rd.abM {α:Type}{sz:Nat}[ak α sz]:Rd Γ none ([]:List α).length sz (ai (sz:=sz) ([]:List α)):=⟨bO.abM,λb hb=>by simp[aj] at hb,λb hb=>by simp[aj] at hb⟩
end
theorem fU.P {f:Flat}(h:fU f):∀x∈f.ad,sE x.af:=λx hx=>(h.nm x hx).1.2.2
theorem ic.hex {f:Flat}(h:ic f)(z:aA):∀k,f.dq z=some k->(f.cH (f.ad.getD k ak.ah).id).isSome:=λk hk=>(h.nm k ((h.zJ hk).1)).1
theorem afD (f:Flat)(o:Op):(f.eT o).1.ad.length<=f.ad.length+1/\(f.eT o).1.ae.length<=f.ae.length+1:=by
 have hm:∀(g:a6->a6)(l out:List a6),(l.foldl (λl x=>Flat.gb l (g x)) out).length=out.length+l.length:=by
  intro g l;induction l with
  |nil=>intro out;rfl
  |cons x l ih=>intro out;rw[wi,ih,oX,cY];omega
 have h5:(f.dY o.af).1.ad.length<=f.ad.length+1/\(f.dY o.af).1.ae.length<=f.ae.length+1:=by
  unfold Flat.dY;have h1:=CK (λx:a6=>decide (x.af≠o.af)) f.ad;repeat' (first|split|(dsimp only;split))
  all_goals(try simp only[Flat.less,bJ,cZ,gd])
  all_goals omega
 have h1:∀b,(f.make o.af b).1.ad.length<=f.ad.length+1/\(f.make o.af b).1.ae.length<=f.ae.length+1:=by
  intro b;unfold Flat.make;repeat' (first|split|(dsimp only;split))
  all_goals(try simp only[Flat.add,oX,Ni])
  all_goals omega
 have h6:(f.link o.af o.to).1.ad.length<=f.ad.length+1/\(f.link o.af o.to).1.ae.length<=f.ae.length+1:=by
  unfold Flat.link;repeat' (first|split|(dsimp only;split))
  all_goals(try simp only[Flat.add,oX])
  all_goals omega
 have h7:(f.move o.af o.to).1.ad.length<=f.ad.length+1/\(f.move o.af o.to).1.ae.length<=f.ae.length+1:=by
  unfold Flat.move;repeat' (first|split|(dsimp only;split))
  all_goals(try simp only[hm (λx=>⟨Flat.eM o.af o.to x.af,x.id⟩)])
  all_goals(try simp only[mJ])
  all_goals omega
 have h3:(f.change o).1.ad.length<=f.ad.length+1/\(f.change o).1.ae.length<=f.ae.length+1:=by
  unfold Flat.change;repeat' (first|split|(dsimp only;split))
  all_goals(try simp only[Flat.yK,gE])
  all_goals omega
 unfold Flat.eT;repeat' split
 .exact h1 _
 .exact h5
 .exact h6
 .exact h7
 .exact h3
theorem Zk {f:Flat}(h:ic f)(o:Op):(im f o).1.ad.length<=f.ad.length+1/\(im f o).1.ae.length<=f.ae.length+1:=by
 rw[RB h];split
 .exact afD f o
 .exact⟨Nat.le_succ _,Nat.le_succ _⟩
theorem Nq {f:Flat}{o:Op}(hD:fU f)(hO:T2 o)(fF:ic f)(a:aK)(c:Nat)(a':aK)(c':Nat)(s:St)(hr:cl s a a' f):vo a8 bj 8 [js a c a' c' f,ov o] s a a' (im f o).1 (im f o).2:=
 (PI s a c a' c' f o hD ((zm f).2 fF) (aje fF hD hO) hr).mono λ_ _ ⟨a1,c1,p1,a2,c2,q2,h1,h2,h3,h4⟩=>⟨a1,c1,a1,c1,p1,a2,c2,a2,c2,q2,h1,h2,h3,h4⟩
theorem adm {f:Flat}{o:Op}(hD:fU f)(hO:T2 o)(fF:ic f)(a:aK)(c:Nat)(a':aK)(c':Nat)(s:St)(hr:cl s a a' f):vo a8 bj 9 [js a c a' c' f,ov o] s a a' (im f o).1 (im f o).2:=by
 have hp:=(RA _ (rv _ hO.af)).1;have hp2:=(RA _ (rv _ hO.to)).1;have ht:=hO.aW;rw[RB fF];exact(F0 s a c a' c' f o hD ((Jn hD.P).2 fF) ag (λh s a c a' c'=>by
  obtain⟨_,_,_,h4,h5⟩:=jD h;exact Zb s a c a' c' f hD.s o ag ag h4 h5 (λx hx=>by have:=(hD.nm x hx).1.1;omega) (fF.hex _)) hr).mono λ_ _ ⟨a1,c1,a2,c2,b2,d2,q2,h2,h3,h4⟩=>⟨a1,c1,a1,c1,_,a2,c2,b2,d2,q2,Sub.all,h2,h3,h4⟩
end Go.Pl
