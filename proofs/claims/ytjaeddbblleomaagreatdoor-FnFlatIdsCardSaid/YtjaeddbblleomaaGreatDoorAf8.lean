/- Lemmas of the proof. No conditions. -/
import Derived.Test.YtjaeddbblleomaaGreatDoorAf7
set_option maxRecDepth 100000
set_option maxHeartbeats 4000000
set_option linter.unusedVariables false
set_option linter.unusedSimpArgs false
open Go.Proofs.Tryz
namespace Go.Pl
open Go Go.Ev Go.Lg Go.Proofs
theorem Es (s:St)(a:aH)(c:Nat)(a':aH)(c':Nat)(f:Flat)(o:Op)(hf:ga f)(fZ:f.ok=false)(hr:bY s a a' f):bO 6 [kr a c a' c' f,ov o] s (jh a a') (.tuple ⟨[.agg ⟨fT none 0 [] none 0 []⟩,iv 1]⟩):=by
 have oK:=fX.n hr;have qJ:=fX.t hr;have uB:∀s,bY s a a' f->bO 15 [kr a c a' c' f] s (jh a a') (.bool false):=λs hr=>by
  have:=wm s a c a' c' f hf.s hr
  rwa [fZ] at this
 obtain⟨kd,pa,tZ,at_,tx⟩:=o;refine aO f6 ?_;(repeat' (first|refine' aX|refine' GG|refine' ar|fail))
 all_goals(refine' av)
 all_goals rfl
theorem Fm (s:St)(a:aH)(c:Nat)(a':aH)(c':Nat)(f:Flat)(o:Op)(hf:ga f)(fZ:f.ok=true)(J7:o.ag.length<=800/\o.to.length<=800/\o.bh.length<=100)(Yj:iJ o=true->∀s a c a' c',ru aU aW 18 [kr a c a' c' f,ov o] s a c a' c' f (f.eS o))(hr:bY s a a' f):
  AJ 6 [kr a c a' c' f,ov o] s [] (jh a a') λR L=>∃b d b' d' b0 d0,∃p0:eV,Sub 3 b0 p0 b' (if iJ o=true then f.eS o else(f,1)).1.ae/\R= .tuple ⟨[kr b d b' d' (if iJ o=true then f.eS o else(f,1)).1,iv (if iJ o=true then f.eS o else(f,1)).2]⟩/\L=[cj b d (if iJ o=true then f.eS o else(f,1)).1.ad,dD b0 d0 p0]:=by
 have oK:=fX.n hr;have qJ:=fX.t hr;have nf:=hf.nl;have qM:=hf.tl;have uB:∀s,bY s a a' f->bO 15 [kr a c a' c' f] s (jh a a') (.bool true):=λs hr=>by
  have:=wm s a c a' c' f hf.s hr
  rwa [fZ] at this
 have Fl:∀s,bO 16 [ov o] s [] (.bool (iJ o)):=λs=>QK s o af af af
 cases YG:iJ o with
 |false=>
  rw[YG] at Fl;rw[if_neg jL];clear Yj;obtain⟨kd,pa,tZ,at_,tx⟩:=o;have mg:=Fl;refine aO f6 ?_;(repeat' (first|refine' aX|refine' GG|refine' K4|refine' zc266|refine' ar|fail))
  all_goals try refine cI
  all_goals exact⟨bB,_,_,bj,aq,_,_,_,_,_,_,_,Sub.all,rfl,rfl⟩
 |true=>
  rw[YG] at Fl;rw[if_pos rfl];have hdo1:=Yj YG;clear Yj;generalize f.eS o=r at *
  obtain⟨kd,pa,tZ,at_,tx⟩:=o;have mg:=Fl;have iK:=hdo1;refine aO f6 ?_;(repeat' (first|refine' aX|refine' GG|refine' K4|refine' zc266|((with_reducible apply WO.Ws);exact aD;(intro s;exact iK s _ _ _ _);exact eu;intro _ _ b_do d_do b2_do d2_do b0_do d0_do p0_do _ _ Dc)|refine' ar|fail))
  all_goals refine' zao
end Go.Pl
namespace Go.Pl
open Go.Lg
variable {z:ay}{p:dx}{q:eV}{n:Int}
structure OkG (p:dx)(q:eV):Prop where
 tl:1<=q.length/\q.length<=16
 st:eB q
 t0:∃x∈q,x.id=0/\x.aM=true
 tx:∀x∈q,(0<=x.id/\x.id<=15)/\(x.aM=true->x.bh=[])/\x.bh.length<=192
 sn:kq p
 nr:(⟨[47],0⟩:Fnd)∈p
 th:∀x∈p,(nS q x.id).isSome=true
 up:∀x∈p,x.ag≠[47]->bT (au x.ag).2=true/\∃w∈p,w.ag=(au x.ag).1/\jD q w.id=true
 ct:∀n,zo p n<=9
 cf:∀n,jD q n=true->zo p n<=1
 cn:∀z,(p.countP λx=>decide (x.ag≠[47])&&decide ((au x.ag).1=z))<=12
 al:∀x∈q,∃w∈p,w.id=x.id
theorem QU:∀(s:ay)(t:Nat),t<s.length->bK (s.take t) s=true
 |[],t,h=>by simp at h
 |c::s,0,_=>rfl
 |c::s,t+1,h=>by
  rw[x_5,qc,if_neg (FE _),if_neg (FE _)];exact QU s t (by simpa using h)
theorem MN (h:bT (au z).2=true):bK (au z).1 z=true:=by
 unfold au at h⊢;cases hl:eZ z with
 |none=>rw[hl] at h;cases h
 |some t=>
  rw[hl] at h;have dA:=sf z t hl;have h:bT (z.drop (t+1))=true:=h;have gx:z.drop (t+1)≠[]:=λe=>by rw[e] at h;cases h
  have tF:t+1<z.length:=by
   refine oZ λhn=>gx (zt af)
  exact QU z (max t 1) af
theorem Jj (p:dx)(n:Int):zo p n=cL p p.length n:=(pA (λx:Fnd=>decide (x.id=n)) cz p).symm
theorem O7 (hr:p.getD 0 cz=⟨[47],0⟩)(h0:∀j,1<=j->j<p.length->(p.getD j cz).ag≠[47])(z:ay):(p.countP λx=>decide (x.ag≠[47])&&decide ((au x.ag).1=z))=cN p p.length z:=by
 unfold cN;rw[<-pA (λx:Fnd=>decide (x.ag≠[47])&&decide ((au x.ag).1=z)) cz p];refine Ps λj hj=>?_
 have hj:=mH.1 hj;by_cases hj0:j=0
 .subst hj0;rw[hr];simp
 .have:=h0 j af hj;rw[dO this,dO (show 1<=j by omega)]
theorem kz.g {f:Flat}(h:kz f):OkG f.ad f.ae:=by
 have DB:∀x∈f.ad,∃j,j<f.ad.length/\x=f.ad.getD j cz:=λx hx=>by
  obtain⟨j,hj,rfl⟩:=l5 hx;exact⟨j,hj,by rw[aY,bk hj];rfl⟩
 have hmemT:∀x∈f.ae,∃j,j<f.ae.length/\x=f.ae.getD j fN:=λx hx=>by
  obtain⟨j,hj,rfl⟩:=l5 hx;exact⟨j,hj,by rw[aY,bk hj];rfl⟩
 have gx:∀j,1<=j->j<f.ad.length->(f.ad.getD j cz).ag≠[47]:=λj h1 hj e=>by
  have:=h.Ek hj;rw[e,h.cC] at this;cases this;omega
 refine⟨⟨h.q1,h.q16⟩,h.st,⟨_,fD fN h.q1,h.t0,h.tf⟩,λx hx=>?_,h.sn,by rw[<-h.nr];exact fD cz h.n1,λx hx=>?_,λx hx Rs=>?_,λn=>?_,λn hn=>?_,λz=>?_,λx hx=>?_⟩
 .obtain⟨j,hj,rfl⟩:=hmemT x hx;have:=h.tb j hj;unfold tB fR at this;simp only[cv,cl,pG,zr,lD] at this;refine⟨this.1.1.1,λhf=>?_,af⟩;rcases this.1.2 with h1|h1
  .rw[hf] at h1;cases h1
  .exact Classical.not_not.1 h1
 .obtain⟨j,hj,rfl⟩:=DB x hx;exact(h.nm j hj).1
 .obtain⟨j,hj,rfl⟩:=DB x hx;have h1:1<=j:=by
   refine oZ λhn=>Rs ?_
   rw[show j=0 by omega,h.nr]
  obtain⟨m,hm,Fc,hf,hp⟩:=h.par h1 hj;exact⟨((h.nm j hj).2.1 h1).2.2.1,_,fD cz (show m<f.ad.length by omega),hp,hf⟩
 .rw[Jj];exact DH _ λj hj hid=>by rw[<-hid];exact(h.nm j hj).2.2.1
 .rw[Jj];refine DH _ λj hj hid=>?_
  rw[<-hid];refine(h.nm j hj).2.2.2 ?_;rw[<-h.fld,hid];exact hn
 .rw[O7 h.nr gx];exact Oo _ λj h1 hj hz=>by rw[<-hz];exact((h.nm j hj).2.1 h1).2.2.2
 .obtain⟨j,hj,rfl⟩:=hmemT x hx;obtain⟨k,hk,hid⟩:=h.al j hj;exact⟨_,fD cz hk,hid⟩
theorem OkG.f (h:OkG p q):kz ⟨p,q⟩:=by
 have Vu:0<p.length:=JI h.nr;have hgm:∀j,j<p.length->p.getD j cz∈p:=λj hj=>fD cz hj
 have dA:∀i j,j<p.length->i<j->bK (p.getD i cz).ag (p.getD j cz).ag=true:=λi j hj qp=>qd h.sn cz qp hj
 have Yq:p.getD 0 cz=⟨[47],0⟩:=by
  obtain⟨j,hj,hje⟩:=l5 h.nr;have hje:p.getD j cz=⟨[47],0⟩:=by rw[aY,bk hj];exact hje
  by_cases hj0:j=0
  .rw[<-hj0];exact hje
  .exfalso;have h1:=dA 0 j hj af;rw[hje] at h1;have h2:(p.getD 0 cz).ag≠[47]:=mU h1;obtain⟨h3,w,hw,YP,_⟩:=h.up _ (hgm 0 Vu) h2;have h4:=MN h3;rw[<-YP] at h4;obtain⟨m,hm,rfl⟩:=l5 hw;by_cases H2:m=0
   .subst H2;rw[aY,bk Vu] at h4;have h4:bK p[0].ag p[0].ag=true:=h4;rw[j6] at h4;cases h4
   .have h5:=dA 0 m hm af;rw[show p.getD m cz=p[m] by rw[aY,bk hm];rfl] at h5;have:=DF h5;rw[h4] at this;cases this
 have gx:∀j,1<=j->j<p.length->(p.getD j cz).ag≠[47]:=λj h1 hj e=>by
  have:=dA 0 j hj af;rw[Yq,e,j6] at this;cases this
 obtain⟨x0,Rs,hx0i,hx0f⟩:=h.t0;have hq0:(q.getD 0 fN).id=0/\(q.getD 0 fN).aM=true:=by
  obtain⟨j,hj,rfl⟩:=l5 Rs;have e:q.getD j fN=q[j]:=by rw[aY,bk hj];rfl
  by_cases hj0:j=0
  .subst hj0;rw[e];exact⟨hx0i,hx0f⟩
  .exfalso;have h1:=qd h.st fN (show 0<j by omega) hj;rw[e,hx0i] at h1;have:=(h.tx _ (fD fN (show 0<q.length by omega))).1.1;omega
 refine⟨by have:=h.tl;show fR (q.length:Int) 1 16=true;unfold fR;simp only[cv,cl];omega,hq0.1,hq0.2,λi hi=>?_,by show p.length≠0;omega,Yq,λi hi=>⟨h.th _ (hgm i hi),λh1=>?_,?_,λhf=>?_⟩,λi hi=>?_⟩
 .have h1:=h.tx _ (fD fN hi);unfold tB fR;simp only[cv,cl,pG,zr,lD];refine⟨⟨⟨h1.1,?_⟩,?_⟩,af⟩
  .by_cases q8:0<i
   .right
    have:=qd h.st fN (show i-1<i by omega) hi;omega
   .exact .inl q8
  .cases hb:(q.getD i fN).aM with
   |false=>exact .inl rfl
   |true=>exact .inr (λe=>e (h1.2.1 hb))
 .obtain⟨h3,w,hw,YP,QE⟩:=h.up _ (hgm i hi) (gx i h1 hi);have h4:=MN h3;obtain⟨m,hm,rfl⟩:=l5 hw;have e:p.getD m cz=p[m]:=by rw[aY,bk hm];rfl
  have hmi:m<i:=by
   refine oZ λhn=>?_
   rw[<-YP,<-e] at h4;rcases kU i m with EM|Ze
   .have:=DF (dA i m hm EM);rw[h4] at this;cases this
   .have:m=i:=by omega
    subst this;rw[j6] at h4;cases h4
  refine⟨dA (i-1) i hi af,⟨m,hmi,by rw[e];exact YP,?_⟩,h3,?_⟩
  .show jD q (p.getD m cz).id=true;rw[e];exact QE
  .refine ku (Qo p _ (show i+1<=p.length by exact hi)) ?_;rw[<-O7 Yq gx];exact h.cn _
 .refine ku (BS p _ (show i+1<=p.length by exact hi)) ?_;rw[<-Jj];exact h.ct _
 .refine ku (BS p _ (show i+1<=p.length by exact hi)) ?_;rw[<-Jj];exact h.cf _ hf
 .obtain⟨w,hw,hid⟩:=h.al _ (fD fN hi);obtain⟨m,hm,rfl⟩:=l5 hw;exact⟨m,hm,by show(p.getD m cz).id=_;rw[aY,bk hm];exact hid⟩
theorem xv (P:Fnd->Bool):∀(l:dx)(e:Fnd),(Flat.fV l e).countP P=l.countP P+if P e=true then 1 else 0
 |[],e=>by unfold Flat.fV;rw[jI]
 |y::l,e=>by
  unfold Flat.fV;split
  .rw[jI,jI]
  .rw[jI,xv P l e,jI];omega
theorem Ak:∀(l:eV)(e:bU),(Flat.nL l e).length=l.length+1
 |[],e=>rfl
 |x::l,e=>by
  unfold Flat.nL;split
  .rw[dh,Ak l e,dh]
  .rfl
theorem Jk:(nS q n).isSome=true↔∃y∈q,y.id=n:=by
 unfold nS;rw[List.findIdx?_isSome,FB];simp
theorem zj (hs:eB q):jD q n=true↔∃y∈q,y.id=n/\y.aM=true:=by
 unfold jD;cases ht:nS q n with
 |none=>
  refine⟨λe=>(by cases e),λ⟨y,hy,hi,_⟩=>?_⟩;have:=Jk.2 ⟨y,hy,hi⟩;rw[ht] at this;cases this
 |some t=>
  obtain⟨h1,h2⟩:=DI ht;refine⟨λe=>⟨_,fD fN h1,h2,e⟩,λ⟨y,hy,hi,hf⟩=>?_⟩;obtain⟨j,hj,rfl⟩:=l5 hy;have e:q.getD j fN=q[j]:=by rw[aY,bk hj];rfl
  have:=DJ hs hj;rw[e,hi,ht] at this;cases this
  show(q.getD t fN).aM=true;rw[e];exact hf
theorem O8:∀z∈Ev.fp,bf z=true->z≠[47]->bT (au z).2=true:=by decide
theorem OkG.make (h:OkG p q)(hz:bT (au z).2=true)(hn:uJ p z=none){w:Fnd}(hw:w∈p)(YP:w.ag=(au z).1)(QE:jD q w.id=true)(xy:0<=n/\n<=15)(Nl:nS q n=none)(hc:(p.countP λx=>decide (x.ag≠[47])&&decide ((au x.ag).1=(au z).1))<12)(fo:Bool):OkG (Flat.fV p ⟨z,n⟩) (Flat.nL q ⟨n,fo,[]⟩):=by
 have ji:eB (Flat.nL q ⟨n,fo,[]⟩):=Ab q ⟨n,fo,[]⟩ h.st (zh (f:=⟨p,q⟩) Nl);have hidp:∀x∈p,x.id≠n:=λx hx e=>by
  have:=h.th x hx;rw[e,Nl] at this;cases this
 have Bg:∀m,m≠n->jD (Flat.nL q ⟨n,fo,[]⟩) m=true->jD q m=true:=λm hm hf=>by
  obtain⟨y,hy,hi,hyf⟩:=(zj ji).1 hf;rcases(je _ _ _).1 hy with rfl|hy
  .exact absurd hi.symm hm
  .exact(zj h.st).2 ⟨y,hy,hi,hyf⟩
 have hfl2:∀m,jD q m=true->jD (Flat.nL q ⟨n,fo,[]⟩) m=true:=λm hf=>by
  obtain⟨y,hy,hi,hyf⟩:=(zj h.st).1 hf;exact(zj ji).2 ⟨y,(je _ _ _).2 (.inr hy),hi,hyf⟩
 have cX:q.length<16:=by
  have h1:=pB (q.map bU.id) (((List.range 16).map λ(k:Nat)=>(k:Int)).erase n) h.st.nodup λm hm=>by
   obtain⟨y,hy,rfl⟩:=n9.1 hm;have h2:=(h.tx y hy).1;refine(Pq (zh (f:=⟨p,q⟩) Nl y hy)).2 (n9.2 ⟨y.id.toNat,mH.2 af,af⟩)
  rw[vL,Pr (n9.2 ⟨n.toNat,mH.2 af,af⟩),vL,JP] at h1;omega
 have Qn:∀m,zo (Flat.fV p ⟨z,n⟩) m=zo p m+if n=m then 1 else 0:=λm=>by
  unfold zo;rw[xv];simp
 have hlk0:zo p n=0:=Ao.2 λx hx e=>hidp x hx (by simpa using e)
 refine⟨⟨by rw[Ak];omega,by rw[Ak];omega⟩,ji,?_,λx hx=>?_,vp p ⟨z,n⟩ h.sn (uY (f:=⟨p,q⟩) hn),(gE _ _ _).2 (.inr h.nr),λx hx=>?_,λx hx Rs=>?_,λm=>?_,λm hm=>?_,λy=>?_,λx hx=>?_⟩
 .obtain⟨x,hx,h1⟩:=h.t0;exact⟨x,(je _ _ _).2 (.inr hx),h1⟩
 .rcases(je _ _ _).1 hx with rfl|hx
  .exact⟨xy,λ_=>rfl,by simp⟩
  .exact h.tx x hx
 .rw[Jk];rcases(gE _ _ _).1 hx with rfl|hx
  .exact⟨_,(je _ _ _).2 (.inl rfl),rfl⟩
  .obtain⟨y,hy,hi⟩:=Jk.1 (h.th x hx);exact⟨y,(je _ _ _).2 (.inr hy),hi⟩
 .rcases(gE _ _ _).1 hx with rfl|hx
  .exact⟨hz,w,(gE _ _ _).2 (.inr hw),YP,hfl2 _ QE⟩
  .obtain⟨h1,v,hv,hvp,hvf⟩:=h.up x hx Rs;exact⟨h1,v,(gE _ _ _).2 (.inr hv),hvp,hfl2 _ hvf⟩
 .rw[Qn];by_cases hm:n=m
  .rw[if_pos hm,<-hm,hlk0];omega
  .rw[if_neg hm];exact h.ct m
 .rw[Qn];by_cases Fc:n=m
  .rw[if_pos Fc,<-Fc,hlk0];omega
  .rw[if_neg Fc];exact h.cf m (Bg m (λe=>Fc e.symm) hm)
 .rw[xv];by_cases hy:(au z).1=y
  .rw[<-hy];split<;>omega
  .have hz2:¬((decide ((⟨z,n⟩:Fnd).ag≠[47])&&decide ((au (⟨z,n⟩:Fnd).ag).1=y))=true):=by
    rw[cv,cl,cl];exact λe=>hy e.2
   rw[if_neg hz2];exact h.cn y
 .rcases(je _ _ _).1 hx with rfl|hx
  .exact⟨_,(gE _ _ _).2 (.inl rfl),rfl⟩
  .obtain⟨v,hv,hi⟩:=h.al x hx;exact⟨v,(gE _ _ _).2 (.inr hv),hi⟩
end Go.Pl
namespace Go.Pl
open Go.Lg
variable {f:Flat}{o:Op}
theorem u7 (h:kz f)(ho:iJ o=true)(hk:o.kind=1\/o.kind=2)(h0:mA f.ad f.ae o=0):T3 f.ad f.ae o=⟨Flat.fV f.ad ⟨o.ag,f.bI⟩,Flat.nL f.ae ⟨f.bI,decide (o.kind=2),[]⟩⟩/\f.bI<16/\uJ f.ad o.ag=none/\o.ag≠[47]/\(∃k,uJ f.ad (aK o.ag).1=some k/\uM f.ad f.ae k=true)/\f.nw (aK o.ag).1<12:=by
 obtain⟨_,h3,_⟩:=kS ho;have ha:mA f.ad f.ae o=uO f.ad f.ae o.ag (decide (zp f.ae 16 0<0)):=by unfold mA;exact if_pos hk
 rw[ha,El h h3] at h0;have hf:¬0<f.bD o.ag:=λe=>by rw[if_pos e] at h0;omega
 rw[if_neg hf] at h0;obtain⟨g1,g2,g3⟩:=qm hf;have hr:=rm16 f;have dA:f.bI<16:=by
  refine oZ λhh=>?_
  rw[if_neg hh] at hr;rw[hr] at h0;have:(if decide ((-1:Int)<0)=true\/12<=f.nw (aK o.ag).1 then(6:Int) else 0)=6:=if_pos (.inl (by decide));rw[this] at h0;cases h0
 rw[if_pos dA] at hr;have zF:f.nw (aK o.ag).1<12:=by
  refine oZ λhh=>?_
  have:(if decide (zp f.ae 16 0<0)=true\/12<=f.nw (aK o.ag).1 then(6:Int) else 0)=6:=if_pos (.inr af);rw[this] at h0;cases h0
 refine⟨?_,dA,g1,g2,g3,zF⟩;have hJ:uP f.ad f.ae o=(f.ad++[⟨o.ag,zp f.ae 16 0⟩],f.ae++[⟨zp f.ae 16 0,decide (o.kind=2),[]⟩]):=by
  unfold uP;exact if_pos hk
 unfold T3;rw[hJ,hr];dsimp only;rw[xa h.sn (uY g1),DN h.st (zh (n:=(f.bI:Int)) (sB f).1)]
theorem made_ok (h:kz f)(ho:iJ o=true)(hz:o.ag∈Ev.fp)(hk:o.kind=1\/o.kind=2)(h0:mA f.ad f.ae o=0):kz (T3 f.ad f.ae o)/\eC (T3 f.ad f.ae o).ad o.ag=(f.bI:Int):=by
 obtain⟨e,h1,h2,h3,⟨k,h4,h5⟩,h6⟩:=u7 h ho hk h0;obtain⟨_,hp,_⟩:=kS ho;obtain⟨N7,L7⟩:=h.Fk h4;have Fc:=O8 _ hz hp h3;have XO:=vo Fc;have gx:∀j,1<=j->j<f.ad.length->(f.ad.getD j cz).ag≠[47]:=λj h1 hj e=>by
  have:=h.Ek hj;rw[e,h.cC] at this;cases this;omega
 have hcn:(f.ad.countP λx=>decide (x.ag≠[47])&&decide ((au x.ag).1=(au o.ag).1))<12:=by
  rw[O7 h.nr gx,<-h.inEq,<-XO];exact h6
 have hg:=h.g.make (z:=o.ag) Fc h2 (w:=f.ad.getD k cz) (fD cz N7) (by rw[L7,XO]) (by rw[h.fld];exact h5) (n:=(f.bI:Int)) af (sB f).1 hcn (decide (o.kind=2));rw[e];have hF:=hg.f;refine⟨hF,?_⟩;have hm:(⟨o.ag,f.bI⟩:Fnd)∈Flat.fV f.ad ⟨o.ag,f.bI⟩:=(gE _ _ _).2 (.inl rfl);obtain⟨j,hj,hje⟩:=l5 hm;have hjd:(Flat.fV f.ad ⟨o.ag,f.bI⟩).getD j cz=⟨o.ag,f.bI⟩:=by rw[aY,bk hj];exact hje
 have:=hF.Ek hj;rw[show(⟨Flat.fV f.ad ⟨o.ag,f.bI⟩,Flat.nL f.ae ⟨f.bI,decide (o.kind=2),[]⟩⟩:Flat).ad.getD j cz=⟨o.ag,f.bI⟩ from hjd] at this;rw[hF.qk this];show((Flat.fV f.ad ⟨o.ag,f.bI⟩).getD j cz).id=_;rw[hjd]
end Go.Pl
namespace Go.Pl
open Go Go.Ev Go.Lg Go.Proofs
variable {f:Flat}{o:Op}
theorem zk:∀z∈xp,z∈Ev.fp:=by decide
theorem Jl:∀z∈Ev.fp,A6 z:=by decide
theorem ordV (h:kz f)(hf:nz f):IU f.ad f.ae:=
 ⟨h.sn,h.st,by have:=hf.nl;omega,by have:=hf.tl;omega,λx hx=>by have:=(hf.nm x hx).1.1;omega,λz hz=>by
   obtain⟨i,hi⟩:=kB.1 ((h.ld0 z).1 hz);rw[h.qk hi];exact(h.nm i (h.Fk hi).1).1,λx hx=>by have:=hf.nm x hx;omega⟩
theorem doVal (h:kz f)(hf:ga f)(ho:OpD o):DoV f.ad f.ae o:=
 ⟨ordV h hf.e,λx hx=>by have:=hf.th x hx;omega,zk _ ho.ag,zk _ ho.to,λh0 hk=>(by
  have hV:=ordV h hf.e;refine kB.1 (hV.th _ ?_);refine oZ λhn=>?_
  unfold mA at h0;rw[if_neg af,if_pos af] at h0;cases h0),λh1 h2=>(vB h h1 h2).2.2.1,λh1 h2=>(vB h h1 h2).2.2.2,λh1 h2=>Tw (vB h h1 h2).1,λh1 h2=>Tx (vB h h1 h2).2.1⟩
theorem QV (h:kz f):kT f o=if iJ o=true then f.eS o else(f,1):=by
 unfold kT;by_cases ho:iJ o=true
 .rw[if_pos ho,if_pos ho,do_eq h ho]
 .rw[if_neg ho,if_neg ho]
theorem Jm (s:St)(a:aH)(c:Nat)(a':aH)(c':Nat)(f:Flat)(hf:nz f)(hO:kz f)(z:ay)(hr:bY s a a' f):bO 8 [kr a c a' c' f,sv z] s (jh a a') (.tuple ⟨[iv (max (eC f.ad z) 0),.bool (decide (0<=eC f.ad z))]⟩):=by
 have oK:=fX.n hr;have qJ:=fX.t hr;have fZ:T2 f=true:=(BU f).2 hO;have uB:∀s,bY s a a' f->bO 12 [kr a c a' c' f] s (jh a a') (.bool true):=λs hr=>by
  have:=xq s a c a' c' f hf hr
  rwa [fZ] at this
 have hV:=ordV hO hf;have P2:∀s b z,iB s b a c f.ad a' c' f.ae->bO 20 [aP b,sv z] s (qz b a a') (iv (eC f.ad z)):=λs b z hr=>LJ hV s z hr
 clear fZ hf hO;refine aO f8 ?_;(repeat' (first|refine' aX|refine' GG|((with_reducible apply WO.rm);exact aD;(intro s hr;exact P2 s _ _ hr);(exact uA.mk cu cu cu);intro _ _ _ _)|refine' ar|fail))
 all_goals try refine cI
 all_goals(refine' av)
 all_goals rfl
end Go.Pl
namespace Go.Pl
open Go Go.Ev Go.Lg Go.Proofs
section
variable {E:dy}{X:dM}{Γ:gY}{l:Kn}{L R:bn}{K:KO}{g:FuncId}{xs:List Operand}{ts:Array TypeId}{vs:aQ}{a:aH}{br c p d n:Nat}{code:ay}
theorem WO.callDr (hx:ky l xs vs)(h:∀s,uW s a code->XS code.length c->Ya E X g vs s a)(hd:s9 Γ a code)(hv:XS code.length c)(k:∀m m' (f:Flat)(o:Op)(an:aH)(cn:Nat)(a0:aH)(p0:dx)(c0:Nat)(at_:aH)(ct:Nat),ga f->OpD o->Sub 2 a0 p0 an f.ad->kb L m->m<=m'->K (.tuple ⟨[.agg ⟨fT an cn f.ad at_ ct f.ae⟩,ov o]⟩) (cj a0 c0 p0::dD at_ ct f.ae::L) m m' (λi=>i∈ai a\/i∈([]:bn).flatMap It.aS\/(m<=i/\i<m')) (λi=>i∈([]:bn).flatMap It.aS\/(m<=i/\i<m'))):WO E X Γ l (.call ⟨.value (.func g),⟨xs⟩,ts⟩) L K:=
 WO.call (Lm:=[]) (R:=L) (A:=ai a) hx (.refl _) (λs hi=>(hd.row hi).2) (λs hi=>h s (hd.row hi).1 hv) (by rintro r L' m m' ho hm ⟨f,o,an,cn,a0,p0,c0,at_,ct,h1,h2,h3,rfl,rfl⟩;exact k m m' f o an cn a0 p0 c0 at_ ct h1 h2 h3 ho hm)
abbrev O9 (E:dy)(X:dM)(g:FuncId)(vs:aQ)(s:St)(a a':aH)(F:Flat)(cd:Int):Prop:=fI E X g vs s [] (jh a a') λR L=>∃(a1:aH)(c1:Nat)(b1:aH)(d1:Nat)(p1:dx)(a2:aH)(c2:Nat)(b2:aH)(d2:Nat)(q2:eV),Sub 2 b1 p1 a1 F.ad/\Sub 3 b2 q2 a2 F.ae/\R= .tuple ⟨[kr a1 c1 a2 c2 F,iv cd]⟩/\L=[cj b1 d1 p1,dD b2 d2 q2]
theorem WO.Wt {a a':aH}{f F:Flat}{cd:Int}(hx:ky l xs vs)(h:∀s,bY s a a' f->O9 E X g vs s a a' F cd)(hh:VH Γ L a a' f)(k:∀m m' (a1:aH)(c1:Nat)(b1:aH)(d1:Nat)(p1:dx)(a2:aH)(c2:Nat)(b2:aH)(d2:Nat)(q2:eV),Sub 2 b1 p1 a1 F.ad->Sub 3 b2 q2 a2 F.ae->kb L m->m<=m'->K (.tuple ⟨[kr a1 c1 a2 c2 F,iv cd]⟩) (cj b1 d1 p1::dD b2 d2 q2::L) m m' (λi=>i∈jh a a'\/i∈([]:bn).flatMap It.aS\/(m<=i/\i<m')) (λi=>i∈([]:bn).flatMap It.aS\/(m<=i/\i<m'))):WO E X Γ l (.call ⟨.value (.func g),⟨xs⟩,ts⟩) L K:=
 WO.call (Lm:=[]) (R:=L) (A:=jh a a') hx (.refl _) (λs hi i hb=>by
   rcases fJ.1 hb with hb|hb
   .exact(hh.n.row hi).2 i hb
   .exact(hh.t.row hi).2 i hb) (λs hi=>h s ⟨(hh.n.row hi).1,(hh.t.row hi).1⟩) (by rintro r L' m m' ho hm ⟨a1,c1,b1,d1,p1,a2,c2,b2,d2,q2,h1,h2,rfl,rfl⟩;exact k m m' a1 c1 b1 d1 p1 a2 c2 b2 d2 q2 h1 h2 ho hm)
theorem WO.callP4 {a a' a2 Eo:aH}{n n' n2 n2' sz RO sz2 sz2':Nat}{cs cs' cs2 cs2':aQ}{r:Value}(hx:ky l xs vs)(h:∀s,bM s a n sz cs->bM s a' n' RO cs'->bM s a2 n2 sz2 cs2->bM s Eo n2' sz2' cs2'->pW E X g vs s ((ai a++ai a')++(ai a2++ai Eo)) r)(h1:jR Γ L a n sz cs)(h2:jR Γ L a' n' RO cs')(h3:jR Γ L a2 n2 sz2 cs2)(h4:jR Γ L Eo n2' sz2' cs2')(k:∀m m',kb L m->m<=m'->K r L m m' (λi=>i∈(ai a++ai a')++(ai a2++ai Eo)\/i∈([]:bn).flatMap It.aS\/(m<=i/\i<m')) (λi=>i∈([]:bn).flatMap It.aS\/(m<=i/\i<m'))):WO E X Γ l (.call ⟨.value (.func g),⟨xs⟩,ts⟩) L K:=
 WO.tH hx (λs hi=>⟨λb hb=>by
   rcases fJ.1 hb with hb|hb<;>rcases fJ.1 hb with hb|hb
   .exact(h1.row hi).2 b hb
   .exact(h2.row hi).2 b hb
   .exact(h3.row hi).2 b hb
   .exact(h4.row hi).2 b hb,h s (h1.row hi).1 (h2.row hi).1 (h3.row hi).1 (h4.row hi).1⟩) k
theorem bM.nil0 {α:Type}{sz:Nat}[c9 α sz]{s:St}:bM s none ([]:List α).length sz (ah (sz:=sz) ([]:List α)):=⟨by rw[bc],.inl ⟨rfl,.inl rfl⟩⟩
theorem Rd.nil0 {α:Type}{sz:Nat}[c9 α sz]:Rd Γ none ([]:List α).length sz (ah (sz:=sz) ([]:List α)):=⟨bM.nil0,λb hb=>by simp[ai] at hb,λb hb=>by simp[ai] at hb⟩
end
theorem ga.P {f:Flat}(h:ga f):∀x∈f.ad,Lx x.ag:=λx hx=>(h.nm x hx).1.2.2
theorem kz.hex {f:Flat}(h:kz f)(z:ay):∀k,f.dt z=some k->(f.cD (f.ad.getD k c9.lW).id).isSome:=λk hk=>(h.nm k ((h.Fk hk).1)).1
theorem do_len (f:Flat)(o:Op):(f.eS o).1.ad.length<=f.ad.length+1/\(f.eS o).1.ae.length<=f.ae.length+1:=by
 have hm:∀(g:Fnd->Fnd)(l out:dx),(l.foldl (λl x=>Flat.fV l (g x)) out).length=out.length+l.length:=by
  intro g l;induction l with
  |nil=>intro out;rfl
  |cons x l ih=>intro out;rw[vF,ih,nc,dh];omega
 have h5:(f.dX o.ag).1.ad.length<=f.ad.length+1/\(f.dX o.ag).1.ae.length<=f.ae.length+1:=by
  unfold Flat.dX;have h1:=B9 (λx:Fnd=>decide (x.ag≠o.ag)) f.ad;repeat' (first|split|(dsimp only;split))
  all_goals(try simp only[Flat.less,bR,dg,gp])
  all_goals omega
 have h1:∀b,(f.make o.ag b).1.ad.length<=f.ad.length+1/\(f.make o.ag b).1.ae.length<=f.ae.length+1:=by
  intro b;unfold Flat.make;repeat' (first|split|(dsimp only;split))
  all_goals(try simp only[Flat.add,nc,Ep])
  all_goals omega
 have h6:(f.link o.ag o.to).1.ad.length<=f.ad.length+1/\(f.link o.ag o.to).1.ae.length<=f.ae.length+1:=by
  unfold Flat.link;repeat' (first|split|(dsimp only;split))
  all_goals(try simp only[Flat.add,nc])
  all_goals omega
 have h7:(f.move o.ag o.to).1.ad.length<=f.ad.length+1/\(f.move o.ag o.to).1.ae.length<=f.ae.length+1:=by
  unfold Flat.move;repeat' (first|split|(dsimp only;split))
  all_goals(try simp only[hm (λx=>⟨Flat.eJ o.ag o.to x.ag,x.id⟩)])
  all_goals(try simp only[mD])
  all_goals omega
 have h3:(f.change o).1.ad.length<=f.ad.length+1/\(f.change o).1.ae.length<=f.ae.length+1:=by
  unfold Flat.change;repeat' (first|split|(dsimp only;split))
  all_goals(try simp only[Flat.yc,gZ])
  all_goals omega
 unfold Flat.eS;repeat' split
 .exact h1 _
 .exact h5
 .exact h6
 .exact h7
 .exact h3
theorem Yr {f:Flat}(h:kz f)(o:Op):(kT f o).1.ad.length<=f.ad.length+1/\(kT f o).1.ae.length<=f.ae.length+1:=by
 rw[QV h];split
 .exact do_len f o
 .exact⟨Nat.le_succ _,Nat.le_succ _⟩
theorem implG {f:Flat}{o:Op}(hD:ga f)(hO:OpD o)(fZ:kz f)(a:aH)(c:Nat)(a':aH)(c':Nat)(s:St)(hr:bY s a a' f):O9 aU aW 5 [kr a c a' c' f,ov o] s a a' (kT f o).1 (kT f o).2:=
 (OZ s a c a' c' f o hD ((BU f).2 fZ) (doVal fZ hD hO) hr).mono λ_ _ ⟨a1,c1,p1,a2,c2,q2,h1,h2,h3,h4⟩=>⟨a1,c1,a1,c1,p1,a2,c2,a2,c2,q2,h1,h2,h3,h4⟩
theorem specG {f:Flat}{o:Op}(hD:ga f)(hO:OpD o)(fZ:kz f)(a:aH)(c:Nat)(a':aH)(c':Nat)(s:St)(hr:bY s a a' f):O9 aU aW 6 [kr a c a' c' f,ov o] s a a' (kT f o).1 (kT f o).2:=by
 have hp:=(Jl _ (zk _ hO.ag)).1;have hp2:=(Jl _ (zk _ hO.to)).1;have ht:=hO.bh;rw[QV fZ];exact(Fm s a c a' c' f o hD ((IS hD.P).2 fZ) af (λh s a c a' c'=>by
  obtain⟨_,_,_,h4,h5⟩:=kS h;exact Yp s a c a' c' f hD.s o af af h4 h5 (λx hx=>by have:=(hD.nm x hx).1.1;omega) (fZ.hex _)) hr).mono λ_ _ ⟨a1,c1,a2,c2,b2,d2,q2,h2,h3,h4⟩=>⟨a1,c1,a1,c1,_,a2,c2,b2,d2,q2,Sub.all,h2,h3,h4⟩
theorem TF (f:Flat):(∀i,i<f.ae.length->(f.ae.getD i c9.lW).id≠(f.bI:Int))/\(∀n:Nat,n<f.bI->∃j,j<f.ae.length/\(f.ae.getD j c9.lW).id=(n:Int))/\f.bI<=f.ae.length:=by
 obtain⟨h1,h2,h3⟩:=sB f;refine⟨λi hi he=>?_,λn hn=>?_,h2⟩
 .have:=Ap.1 h1 _ (aF hi c9.lW);simp only[lD] at this;exact this he
 .obtain⟨j,hj⟩:=kB.1 (h3 n hn);obtain⟨hj1,Nv,_⟩:=nq.1 hj;refine⟨j,hj1,?_⟩;rw[aY,bk hj1];show(f.ae[j]).id=_;exact vM Nv
theorem TG {f:Flat}{o:Op}(hD:ga f)(hO:OpD o)(fZ:kz f)(hc:(kT f o).2=0/\o.kind<=2):kz (kT f o).1/\nz (kT f o).1/\eC (kT f o).1.ad o.ag=(f.bI:Int):=by
 obtain⟨h1,h2⟩:=hc;have hz:=zk _ hO.ag;unfold kT at h1⊢;by_cases ho:iJ o=true
 .rw[if_pos ho] at h1⊢;by_cases h0:mA f.ad f.ae o=0
  .rw[if_pos h0];have hk:o.kind=1\/o.kind=2:=by have:=(kS ho).1;omega
   obtain⟨g1,g2⟩:=made_ok fZ ho hz hk h0;refine⟨g1,?_,g2⟩;obtain⟨g3,g4,_⟩:=u7 fZ ho hk h0;have hn:=hD.nl;have ht:=hD.tl;dsimp only;rw[g3];refine⟨?_,?_,λx hx=>?_,λx hx=>?_⟩
   .show(Flat.fV _ _).length<=900;rw[nc];omega
   .show(Flat.nL _ _).length<=900;rw[Ep];omega
   .rcases(gE _ _ _).1 hx with rfl|hx
    .exact⟨Jl _ hz,by show(0:Int)<=(f.bI:Int);omega,by show(f.bI:Int)<=16;omega⟩
    .exact hD.nm x hx
   .rcases(je _ _ _).1 hx with rfl|hx
    .exact⟨by show(0:Int)<=(f.bI:Int);omega,by show(f.bI:Int)<=16;omega,jG _⟩
    .exact hD.th x hx
  .rw[if_neg h0] at h1;exact absurd h1 h0
 .rw[if_neg ho] at h1;exact absurd (show(1:Int)=0 from h1) (by decide)
end Go.Pl
