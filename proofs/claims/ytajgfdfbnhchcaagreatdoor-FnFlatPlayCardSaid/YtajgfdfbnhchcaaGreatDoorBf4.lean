/- Lemmas of the proof. No conditions. -/
import Derived.Test.YtajgfdfbnhchcaaGreatDoorBf3
set_option maxRecDepth 100000
set_option maxHeartbeats 4000000
set_option linter.unusedVariables false
set_option linter.unusedSimpArgs false
open Go.Proofs.Tryz
namespace Go.Pl
open Go Go.Ev Go.Lg Go.Proofs
variable {E:ig}{X:fR}{Γ:qV}{l:Kn}{L R:bZ}{K:KO}{g:FuncId}{xs:List Operand}{ts:Array TypeId}{vs:a6}{a:aM}{c p d n:Nat}{code:az}{i:Nat}{f:Flat}
theorem iC.aj4 (h:iC f)(hN:∀x∈f.ad,vv x.af):gf f:=by
 have hp:=h.g.p;have hl:=h.amH;refine⟨hl,hp.tl.2,λx hx=>?_,λx hx=>?_⟩
 .obtain⟨y,hy,e⟩:=hp.th x hx;have h1:=(hp.tx y hy).1;have hNx:=hN x hx;obtain⟨j,hj,rfl⟩:=iY hx;have h2:=h.ajY j j (cG _) hj;rw[show f.ad.getD j cy=f.ad[j] by rw[aZ,bd hj];rfl] at h2;exact⟨⟨ag,h2.2,hNx⟩,ag,ag⟩
 .have h1:=hp.tx x hx;exact⟨h1.1.1,ag,h1.2.2⟩
theorem gf.P (h:gf f):∀x∈f.ad,vv x.af:=λx hx=>(h.nm x hx).1.2.2
theorem iC.hex (h:iC f)(z:az):∀k,f.dy z=some k->(f.cO (f.ad.getD k ak.ah).id).isSome:=λk hk=>(h.nm k ((h.yn hk).1)).1
structure PlO (f:Flat):Prop where
 ok:iC f
 pn:∀x∈f.ad,vv x.af
theorem PlO.D (h:PlO f):gf f:=h.ok.aj4 h.pn
theorem PlO.step {o:Op}(h:PlO f)(ho:OpD o):PlO (oF f o).1:=by
 have hz:=wB _ ho.af;have hy:=wB _ ho.to;unfold oF;split
 .rename_i h1;split
  .rename_i h2;exact⟨af5 h.ok h1 hz hy h2,ajZ h.ok h.pn h1 hz hy h2⟩
  .exact h
 .exact h
theorem PlO.ao4:∀(os:List Op){f:Flat},PlO f->(∀o∈os,OpD o)->PlO (R1 f os)
 |[],_,h,_=>h
 |o::os,_,h,ho=>PlO.ao4 os (h.step (ho o gh)) λx hx=>ho x (jA _ hx)
variable {Q:DJ}{cd:Code}{b e sz c':Nat}{a' ao:aM}{q:fg}{r:Value}{F:Flat}{os:List Op}{cs:List Int}{s:St}
section
variable {p:List a7}
theorem W.apa (e sz:Nat)(h:W E X Γ cd l (.aQ (eT) e sz []::L) Q):W E X Γ cd l L Q:=λtm s h1 h2=>h tm s h1 ⟨h2.fr,h2.le,λx hx=>(bT.1 hx).elim (λe=>e▸ .inl ⟨rfl,rfl⟩) (h2.it x),λx hx b hb=>(bT.1 hx).elim (λe=>by subst e;cases hb) λhx=>h2.lt x hx b hb,h2.nd,h2.cU,h2.wr,h2.top,h2.Cf⟩
abbrev aoW (E:ig)(X:fR)(g:FuncId)(vs:a6)(s:St)(b:Nat)(a:aM)(c:Nat)(p:List a7)(a':aM)(c':Nat)(q:fg)(r:Value)(F:Flat):Prop:=
 fM E X g vs s (wo b a p.length c p a' q.length c' q) [] λR L=>R=r/\∃a1 c1 a2 c2,L=wo b a1 F.ad.length c1 F.ad a2 F.ae.length c2 F.ae
theorem A7.cJ (h:A7 E X g vs s b a c p a' c' q r F):aoW E X g vs s b a c p a' c' q r F:=λi1 i2 i3=>(h i1 i2 i3).mono λv s' ⟨L',hI,hr,a1,n1,c1,p1,a2,n2,c2,q2,h1,h2,h3,h4,hL⟩=>by
 subst hL;have e1:F.ad.length=n1:=by rw[<-h2,cW];omega
 have e2:F.ae.length=n2:=by rw[<-h4,cW];omega
 subst e1 e2;have k1:=((hI.cZ (List.Perm.swap _ _ _)).ao7 (x':=.aQ (.slice a1 F.ad.length c1) 39 2 (ai F.ad)) (λh=>by have:=xL.front h h1;rw[pZ,h2] at this;exact this) (by cases a1<;>rfl)).cZ (List.Perm.swap _ _ _);have k2:=((k1.cZ (List.perm_append_comm (l₁:=[_,_]) (l₂:=[_]))).ao7 (x':=.aQ (.slice a2 F.ae.length c2) 61 3 (ai F.ae)) (λh=>by have:=xL.front h h3;rw[pZ,h4] at this;exact this) (by cases a2<;>rfl)).cZ (List.perm_append_comm (l₁:=[_]) (l₂:=[_,_]));exact⟨_,k2,hr,a1,c1,a2,c2,rfl⟩
theorem WO.apb (hx:kA l xs vs)(hp:oZ (wo b a p.length c p a' q.length c' q) L R)(h:∀s,aoW E X g vs s b a c p a' c' q r F)
  (k:∀m m' a1 c1 a2 c2,jX L m->m<=m'->K r (wo b a1 F.ad.length c1 F.ad a2 F.ae.length c2 F.ae++R) m m' (FtR [] (wo b a p.length c p a' q.length c' q) m m') (FtW (wo b a p.length c p a' q.length c' q) m m')):WC E X Γ l g xs ts L K:=
 WO.call (Lm:=wo b a p.length c p a' q.length c' q) (R:=R) (A:=[]) hx hp.cZ (λs hi b hb=>by cases hb) (λs hi=>h s) (by rintro r' L' m m' ho hm ⟨rfl,a1,c1,a2,c2,rfl⟩;exact k m m' a1 c1 a2 c2 ho hm)
abbrev aoH (E:ig)(X:fR)(g:FuncId)(vs:a6)(s:St)(A:List Nat)(F:Flat)(cs:List Int):Prop:=fM E X g vs s [] A λR L=>∃a1 c1 a2 c2 ac cc,R= .tuple ⟨[jC a1 c1 a2 c2 F,.slice ac cs.length cc]⟩/\L=[cv a1 c1 F.ad,dK a2 c2 F.ae,ao0 ac cc cs]
end
theorem aoN (s:St)(a:aM)(c:Nat)(a':aM)(c':Nat)(f:Flat)(v:Value)(hf:gf f)(fm:RL f=false)(hr:cD s a a' f):bF 15 [jC a c a' c' f,v] s (kb a a') (.tuple ⟨[.agg ⟨ie none 0 [] none 0 []⟩,eT]⟩):=by
 have pk:=gb.n hr;have ru:=gb.t hr;have uu:∀s,cD s a a' f->bF 11 [jC a c a' c' f] s (kb a a') (.bool false):=λs hr=>by
  have:=oC s a c a' c' f hf.e hr
  rwa [fm] at this
 refine aT f15 ?_;repeat' (first|refine' aW|refine' HF|refine' av|fail)
 all_goals try refine cj
 all_goals refine' ax
 all_goals rfl
theorem aoG (s:St)(a:aM)(c:Nat)(a':aM)(c':Nat)(f:Flat)(os:List Op)(ao:aM)(co:Nat)(hP:PlO f)(hO:∀o∈os,OpD o)(hl:os.length<=9)(hr:cD s a a' f)(hro:bH s ao os.length 5 (ai os)):aoH bh bw 15 [jC a c a' c' f,.slice ao os.length co] s (kb a a'++aj ao) (R1 f os) (S1 f os):=by
 refine' zaO;have hD:=hP.D;have nB:=hD.nl;have pO:=hD.tl;have yw:0<f.ad.length:=by have:=hP.ok.n0;omega
 have ht0:0<f.ae.length:=by have:=hP.ok.tl;unfold fV at this;simp at this;omega
 have uu:∀s,cD s a a' f->bF 11 [jC a c a' c' f] s (kb a a') (.bool true):=λs hr=>by
  have:=oC s a c a' c' f hD.e hr
  rwa [(wg f).2 hP.ok] at this
 clear hD;refine aT f15 ?_;(repeat' (first|refine' aW|refine' HF|((with_reducible apply WO.Px);exact aC;(intro s h1 h2;exact U4 s _ _ _ _ _ _ ag ag h1 h2);exact cb;exact cb;intro _ _ aiy aiz aiA aiB _ _)|refine' av|fail));all_goals try refine cj
 refine W.apa 3 1 ?_;refine W.bN (λm l L=>∃(i b4 b6:Nat)(a1:aM)(c1:Nat)(a2:aM)(c2:Nat)(ac:aM)(cc:Nat),Le [(4,bg b4),(6,bg b6),(7,.slice ac (S1 f (os.take i)).length cc),(16,.slice ao os.length co),(17,iv (os.length:Int)),(18,iv (i:Int))] l/\cC [.box b4 [eT,eT] 26 false,.aQ (.slice ac (S1 f (os.take i)).length cc) 3 1 (ai (S1 f (os.take i))),.box b6 [.slice a1 (R1 f (os.take i)).ad.length c1,.slice a2 (R1 f (os.take i)).ae.length c2] 26 false,.aQ (.slice a1 (R1 f (os.take i)).ad.length c1) 39 2 (ai (R1 f (os.take i)).ad),.aQ (.slice a2 (R1 f (os.take i)).ae.length c2) 61 3 (ai (R1 f (os.take i)).ae)] L/\m=os.length-i/\i<=os.length)
                         (λl L=>∃(b4 b6:Nat)(a1:aM)(c1:Nat)(a2:aM)(c2:Nat)(ac:aM)(cc:Nat),Le [(4,bg b4),(6,bg b6),(7,.slice ac (S1 f os).length cc)] l/\cC [.box b4 [eT,eT] 26 false,.aQ (.slice ac (S1 f os).length cc) 3 1 (ai (S1 f os)),.box b6 [.slice a1 (R1 f os).ad.length c1,.slice a2 (R1 f os).ae.length c2] 26 false,.aQ (.slice a1 (R1 f os).ad.length c1) 39 2 (ai (R1 f os).ad),.aQ (.slice a2 (R1 f os).ae.length c2) 61 3 (ai (R1 f os).ae)] L) _ ⟨0,_,_,_,_,_,_,none,0,bj,ar,rfl,ag⟩ ?_ ?_
 .rintro m l L ⟨i,b4,b6,a1,c1,a2,c2,ac,cc,jM,hL,rfl,g1⟩;refine W.le ?_ jM hL;clear jM hL;by_cases hi:i<os.length
  .have hoD:=hO _ (aK hi ak.ah);have hF:=hP.ao4 (os.take i) λo ho=>hO o (KP ho)
   have uV:=aoF f (os.take i);rw[cW] at uV;have apN:=aoL (f:=f) hi ak.ah;have apM:=aoM (f:=f) hi ak.ah;have Xy:∀s b a c a' c',aoW bh bw 23 [bg b,ov (os.getD i ak.ah)] s b a c (R1 f (os.take i)).ad a' c' (R1 f (os.take i)).ae (iv (oF (R1 f (os.take i)) (os.getD i ak.ah)).2) (oF (R1 f (os.take i)) (os.getD i ak.ah)).1:=λs b a c a' c'=>(N2 s b a c a' c' _ _ (ajX hF.ok hF.D hoD)).cJ
   clear hF hoD hP hO;generalize R1 f (os.take i)=F at *
   generalize S1 f (os.take i)=C at *
   generalize oF F (os.getD i ak.ah)=r at *
   (repeat' (first|refine' aW|((with_reducible apply WO.apb);exact aC;exact eC;(intro s;exact Xy s _ _ _ _ _);intro _ _ apj apk apl apm _ _)|((with_reducible apply WO.lit (α:=Int) (xs:=[_]));exact zf;exact rfl;exact rfl;intro bl _)|refine' av|fail));(all_goals try refine cj);all_goals exact⟨_,ag,i+1,_,_,apj,apk,apl,apm,Xc,Xd,by(rw[apM];exact bj),by(rw[apN,apM];exact ar),rfl,ag⟩
  .have fF:i=os.length:=by omega
   subst fF;rw[gY];(repeat' (first|refine' aW|refine' av|fail));(all_goals try refine cj);all_goals exact⟨_,_,a1,c1,a2,c2,ac,cc,bj,ar⟩
 .rintro l L ⟨b4,b6,a1,c1,a2,c2,ac,cc,jM,hL⟩;refine aq ?_;refine W.le ?_ jM hL;clear jM hL;repeat' (first|refine' aW|refine' av|fail)
  all_goals try refine cj
  all_goals exact⟨bG,_,_,bu,ar,a1,c1,a2,c2,ac,cc,rfl,rfl⟩
theorem aoO (s:St)(a:aM)(c:Nat)(a':aM)(c':Nat)(f:Flat)(v:Value)(hf:gf f)(fm:f.ok=false)(hr:cD s a a' f):BH 16 [jC a c a' c' f,v] s [] (kb a a') λR L=>∃ac cc,R= .tuple ⟨[.agg ⟨ie none 0 [] none 0 []⟩,.slice ac ([]:List Int).length cc]⟩/\L=[ao0 ac cc []]:=by
 have pk:=gb.n hr;have ru:=gb.t hr;have uu:∀s,cD s a a' f->bF 24 [jC a c a' c' f] s (kb a a') (.bool false):=λs hr=>by
  have:=xm s a c a' c' f hf.s hr
  rwa [fm] at this
 refine aT f16 ?_;(repeat' (first|refine' aW|((with_reducible apply WO.lit (α:=Int) (xs:=[]));exact zf;exact rfl;exact rfl;intro bl _)|refine' HF|refine' av|fail));all_goals try refine cj
 all_goals exact⟨bG,_,_,bu,ar,_,_,rfl,rfl⟩
theorem aoR (s:St)(a:aM)(c:Nat)(a':aM)(c':Nat)(f:Flat)(os:List Op)(ao:aM)(co:Nat)(hP:PlO f)(hO:∀o∈os,OpD o)(hl:os.length<=9)(hr:cD s a a' f)(hro:bH s ao os.length 5 (ai os)):aoH bh bw 16 [jC a c a' c' f,.slice ao os.length co] s (kb a a'++aj ao) (R1 f os) (S1 f os):=by
 refine' zaO
 have hD:=hP.D;have nB:=hD.nl;have pO:=hD.tl;have uu:∀s,cD s a a' f->bF 24 [jC a c a' c' f] s (kb a a') (.bool true):=λs hr=>by
  have:=xm s a c a' c' f hD.s hr
  rwa [(JT hD.P).2 hP.ok] at this
 clear hD;refine aT f16 ?_;(repeat' (first|refine' aW|((with_reducible apply WO.lit (α:=Int) (xs:=[]));exact zf;exact rfl;exact rfl;intro bl _)|refine' HF|refine' ada|refine' av|fail));all_goals try refine cj
 refine W.bN (λm l L=>∃(i b4 b7:Nat)(a1:aM)(c1:Nat)(a2:aM)(c2:Nat)(ac:aM)(cc:Nat),Le [(1,.slice ao os.length co),(4,bg b4),(6,.slice ac (S1 f (os.take i)).length cc),(7,bg b7),(8,iv (i:Int))] l/\cC [.box b4 [eT,eT] 26 false,.aQ (.slice ac (S1 f (os.take i)).length cc) 3 1 (ai (S1 f (os.take i))),.box b7 (ie a1 c1 (R1 f (os.take i)).ad a2 c2 (R1 f (os.take i)).ae) 26 false,cv a1 c1 (R1 f (os.take i)).ad,dK a2 c2 (R1 f (os.take i)).ae] L/\m=os.length-i/\i<=os.length)
  (λl L=>∃(b4 b7:Nat)(a1:aM)(c1:Nat)(a2:aM)(c2:Nat)(ac:aM)(cc:Nat),Le [(4,bg b4),(6,.slice ac (S1 f os).length cc),(7,bg b7)] l/\cC [.box b4 [eT,eT] 26 false,.aQ (.slice ac (S1 f os).length cc) 3 1 (ai (S1 f os)),.box b7 (ie a1 c1 (R1 f os).ad a2 c2 (R1 f os).ae) 26 false,cv a1 c1 (R1 f os).ad,dK a2 c2 (R1 f os).ae] L) _ ⟨0,_,_,_,_,_,_,_,_,bj,ar,rfl,ag⟩ ?_ ?_
 .rintro m l L ⟨i,b4,b7,a1,c1,a2,c2,ac,cc,jM,hL,rfl,g1⟩;refine W.le ?_ jM hL;clear jM hL;by_cases hi:i<os.length
  .have hoD:=hO _ (aK hi ak.ah);have hF:=hP.ao4 (os.take i) λo ho=>hO o (KP ho)
   have uV:=aoF f (os.take i);rw[cW] at uV;have apN:=aoL (f:=f) hi ak.ah;have apM:=aoM (f:=f) hi ak.ah;rw[Sp hF.ok] at apN apM;have hp:=(Ky _ (wB _ hoD.af)).1;have hp2:=(Ky _ (wB _ hoD.to)).1;have ht:=hoD.bq;have Gz:∀s,bF 25 [ov (os.getD i ak.ah)] s [] (.bool (ik (os.getD i ak.ah))):=λs=>Sc s _ ag ag ag
   have ZO:ik (os.getD i ak.ah)=true->∀s a c a' c',Bd bh bw 27 [jC a c a' c' (R1 f (os.take i)),ov (os.getD i ak.ah)] s a c a' c' (R1 f (os.take i)) ((R1 f (os.take i)).fb (os.getD i ak.ah)):=λh s a c a' c'=>by
    obtain⟨_,_,_,h4,h5⟩:=gZ h;exact ZU s a c a' c' _ hF.D.s _ ag ag h4 h5 (λx hx=>by have:=(hF.D.nm x hx).1.1;omega) (hF.ok.hex _)
   clear hF hoD hP hO hp hp2 ht;generalize R1 f (os.take i)=F at *
   generalize S1 f (os.take i)=C at *
   cases Lo:ik (os.getD i ak.ah) with
   |false=>
    rw[Lo] at Gz;rw[Lo,if_neg iZ] at apN apM;clear ZO Lo;have mG:=Gz;(repeat' (first|refine' aW|refine' Mk|((with_reducible apply WO.lit (α:=Int) (xs:=[_]));exact zf;exact rfl;exact rfl;intro bl _)|refine' av|fail));(all_goals try refine cj);all_goals exact⟨_,ag,i+1,_,_,a1,c1,a2,c2,Xc,Xd,by(rw[apM];exact bj),by(rw[apN,apM];exact ar),rfl,ag⟩
   |true=>
    rw[Lo] at Gz;rw[Lo,if_pos rfl] at apN apM;have je:=ZO Lo;clear ZO Lo;have mG:=Gz;generalize F.fb (os.getD i ak.ah)=r at *
    (repeat' (first|refine' aW|refine' Mk|((with_reducible apply WO.aoZ);exact aC;(intro s;exact je s _ _ _ _);exact eC;intro _ _ alP alQ ait aiu _ _)|((with_reducible apply WO.lit (α:=Int) (xs:=[_]));exact zf;exact rfl;exact rfl;intro bl _)|refine' av|fail));(all_goals try refine cj);all_goals exact⟨_,ag,i+1,_,_,alP,alQ,ait,aiu,Xc,Xd,by(rw[apM];exact bj),by(rw[apN,apM];exact ar),rfl,ag⟩
  .have fF:i=os.length:=by omega
   subst fF;rw[gY];(repeat' (first|refine' aW|refine' av|fail));(all_goals try refine cj);all_goals exact⟨_,_,a1,c1,a2,c2,ac,cc,bj,ar⟩
 .rintro l L ⟨b4,b7,a1,c1,a2,c2,ac,cc,jM,hL⟩;refine aq ?_;refine W.le ?_ jM hL;clear jM hL;repeat' (first|refine' aW|refine' av|fail)
  all_goals try refine cj
  all_goals exact⟨bG,_,_,bu,ar,a1,c1,a2,c2,ac,cc,rfl,rfl⟩
theorem aoQ (s:St)(a:aM)(c:Nat)(a2:aM)(c2:Nat)(p:List Int)(hp:p.length<=1000)(h1:bH s a p.length 1 (ai p))(h2:bH s a2 p.length 1 (ai p)):bF 17 [.slice a p.length c,.slice a2 p.length c2] s (aj a++aj a2) (.bool true):=by
 refine' zbk;refine aT f17 ?_;repeat' (first|refine' aW|refine' av|fail)
 all_goals try refine rB
 all_goals refine' zaG
 .rintro m l L ⟨i,hl,hL,rfl,g1⟩;refine W.le ?_ hl hL;clear hl hL;by_cases hi:i<p.length
  ·(repeat' (first|refine' aW|refine' av|fail))
   (all_goals try refine rB);all_goals exact⟨_,ag,i+1,bj,ar,rfl,ag⟩
  ·(repeat' (first|refine' aW|refine' av|fail))
   (all_goals try refine rB);all_goals exact⟨bj,ar⟩
 .rintro l L ⟨hl,hL⟩;(repeat(first|(with_reducible first|refine aq ?_|refine dC ?_|refine ej ?_)))
  refine W.le ?_ hl hL;clear hl hL;repeat' (first|refine' aW|refine' av|fail)
  all_goals refine' ax
  all_goals rfl
variable {a2 Fw:aM}
theorem WO.apc (hx:kA l xs vs)(h:∀s,sZ s a code->UL code.length c->ao2 E X g vs s a)(hd:tR Γ a code)(hv:UL code.length c)(k:∀m m' (f:Flat)(os:List Op)(an:aM)(cn:Nat)(a0:aM)(p0:List a7)(c0:Nat)(at_:aM)(ct:Nat)(ao:aM)(co:Nat),gf f->os.length<=9->(∀o∈os,OpD o)->Sub 2 a0 p0 an f.ad->jX L m->m<=m'->K (.tuple ⟨[.agg ⟨ie an cn f.ad at_ ct f.ae⟩,.slice ao os.length co]⟩) (cv a0 c0 p0::dK at_ ct f.ae::aoY ao co os::L) m m' (FtR (aj a) [] m m') (FtW [] m m')):WC E X Γ l g xs ts L K:=
 WO.call (Lm:=[]) (R:=L) (A:=aj a) hx (.refl _) (λs hi=>(hd.row hi).2) (λs hi=>h s (hd.row hi).1 hv) (by rintro r L' m m' ho hm ⟨f,os,an,cn,a0,p0,c0,at_,ct,ao,co,h1,h2,h3,h4,rfl,rfl⟩;exact k m m' f os an cn a0 p0 c0 at_ ct ao co h1 h2 h3 h4 ho hm)
theorem WO.aoS (hx:kA l xs vs)(h:∀s,cD s a a' f->bH s ao os.length 5 (ai os)->aoH E X g vs s (kb a a'++aj ao) F cs)(hh:W9 Γ L a a' f)(ho:jB Γ L ao os.length 5 (ai os))(k:∀m m' a1 c1 a2 c2 ac cc,jX L m->m<=m'->K (.tuple ⟨[jC a1 c1 a2 c2 F,.slice ac cs.length cc]⟩) (cv a1 c1 F.ad::dK a2 c2 F.ae::ao0 ac cc cs::L) m m' (FtR (kb a a'++aj ao) [] m m') (FtW [] m m')):WC E X Γ l g xs ts L K:=
 WO.call (Lm:=[]) (R:=L) (A:=kb a a'++aj ao) hx (.refl _) (λs hi i hb=>by
   rcases eZ.1 hb with hb|hb
   .rcases eZ.1 hb with hb|hb
    .exact(hh.n.row hi).2 i hb
    .exact(hh.t.row hi).2 i hb
   .exact(ho.row hi).2 i hb) (λs hi=>h s ⟨(hh.n.row hi).1,(hh.t.row hi).1⟩ (ho.row hi).1) (by rintro r' L' m m' ho hm ⟨a1,c1,a2,c2,ac,cc,rfl,rfl⟩;exact k m m' a1 c1 a2 c2 ac cc ho hm)
theorem WO.apd (hx:kA l xs vs)(h:∀s,cD s a a' f->fM E X g vs s [] (kb a a') λR L=>∃ac cc,R= .tuple ⟨[.agg ⟨ie none 0 [] none 0 []⟩,.slice ac ([]:List Int).length cc]⟩/\L=[ao0 ac cc []])(hh:W9 Γ L a a' f)(k:∀m m' ac cc,jX L m->m<=m'->K (.tuple ⟨[.agg ⟨ie none 0 [] none 0 []⟩,.slice ac ([]:List Int).length cc]⟩) (ao0 ac cc []::L) m m' (FtR (kb a a') [] m m') (FtW [] m m')):WC E X Γ l g xs ts L K:=
 WO.call (Lm:=[]) (R:=L) (A:=kb a a') hx (.refl _) (λs hi i hb=>by
   rcases eZ.1 hb with hb|hb
   .exact(hh.n.row hi).2 i hb
   .exact(hh.t.row hi).2 i hb) (λs hi=>h s ⟨(hh.n.row hi).1,(hh.t.row hi).1⟩) (by rintro r' L' m m' ho hm ⟨ac,cc,rfl,rfl⟩;exact k m m' ac cc ho hm)
theorem WO.aeW {n n' n2 n2' sz LC sz2 aj0:Nat}{cs cs' cs2 aj1:a6}{r:Value}(hx:kA l xs vs)(h:∀s,bH s a n sz cs->bH s a' n' LC cs'->bH s a2 n2 sz2 cs2->bH s Fw n2' aj0 aj1->nQ E X g vs s ((aj a++aj a')++(aj a2++aj Fw)) r)(h1:jB Γ L a n sz cs)(h2:jB Γ L a' n' LC cs')(h3:jB Γ L a2 n2 sz2 cs2)(h4:jB Γ L Fw n2' aj0 aj1)(k:∀m m',jX L m->m<=m'->K r L m m' (FtR ((aj a++aj a')++(aj a2++aj Fw)) [] m m') (FtW [] m m')):WC E X Γ l g xs ts L K:=
 WO.qE hx (λs hi=>⟨λb hb=>by
   rcases eZ.1 hb with hb|hb<;>rcases eZ.1 hb with hb|hb
   .exact(h1.row hi).2 b hb
   .exact(h2.row hi).2 b hb
   .exact(h3.row hi).2 b hb
   .exact(h4.row hi).2 b hb,h s (h1.row hi).1 (h2.row hi).1 (h3.row hi).1 (h4.row hi).1⟩) k
theorem bH.acf {α:Type}{sz:Nat}[ak α sz]{s:St}:bH s none ([]:List α).length sz (ai (sz:=sz) ([]:List α)):=⟨by rw[bp],.inl ⟨rfl,.inl rfl⟩⟩
theorem Rd.acf {α:Type}{sz:Nat}[ak α sz]:Rd Γ none ([]:List α).length sz (ai (sz:=sz) ([]:List α)):=⟨bH.acf,λb hb=>by simp[aj] at hb,λb hb=>by simp[aj] at hb⟩
theorem ao5 (s:St)(a:aM)(code:az)(c:Nat)(a2:aM)(n2 c2:Nat)(hr:sZ s a code)(hv:UL code.length c):bF 5 [.slice a code.length c,.slice a2 n2 c2] s (aj a) (.bool true):=by
 refine' za5;have hv':UL code.length c:=hv;refine aT f5 ?_;(repeat' (first|refine' aW|((with_reducible apply WO.apc);exact aC;(intro s h1 h2;exact aoJ s a code c h1 h2);assumption;assumption;intro _ _ f os an cn a0 p0 c0 at_ ct ao co hD hl hO hs _ _)|refine' av|fail));all_goals try refine cj
 all_goals try(focus((refine' ax);rfl;done))
 by_cases fm:f.ok=true
 .have hP:PlO f:=⟨(JT hD.P).1 fm,hD.P⟩;have hk:0<=(n2:Int).tmod ((os.length:Int)+1)/\(n2:Int).tmod ((os.length:Int)+1)<=(os.length:Int):=⟨Int.tmod_nonneg _ ag,by have:=Int.tmod_lt_of_pos (n2:Int) (show(0:Int)<(os.length:Int)+1 by omega);omega⟩;have hO1:∀o∈os.take ((n2:Int).tmod ((os.length:Int)+1)).toNat,OpD o:=λo ho=>hO o (KP ho)
  have hO2:∀o∈os.drop ((n2:Int).tmod ((os.length:Int)+1)).toNat,OpD o:=λo ho=>hO o (List.mem_of_mem_drop ho)
  have hG:=hP.ao4 _ hO1;have hF:=hP.ao4 _ hO;have apN:R1 f os=R1 (R1 f (os.take ((n2:Int).tmod ((os.length:Int)+1)).toNat)) (os.drop ((n2:Int).tmod ((os.length:Int)+1)).toNat):=by rw[<-aoP,yD]
  have apM:S1 f os=S1 f (os.take ((n2:Int).tmod ((os.length:Int)+1)).toNat)++S1 (R1 f (os.take ((n2:Int).tmod ((os.length:Int)+1)).toNat)) (os.drop ((n2:Int).tmod ((os.length:Int)+1)).toNat):=by rw[<-aoI,yD]
  have l1:=aoF f (os.take ((n2:Int).tmod ((os.length:Int)+1)).toNat);have l2:=aoF (R1 f (os.take ((n2:Int).tmod ((os.length:Int)+1)).toNat)) (os.drop ((n2:Int).tmod ((os.length:Int)+1)).toNat);rw[cW] at l1;rw[eW] at l2;have hwi:∀s,cD s an at_ f->bH s ao os.length 5 (ai os)->aoH bh bw 15 [jC an cn at_ ct f,.slice ao os.length co] s (kb an at_++aj ao) (R1 f os) (S1 f os):=λs hr ho=>aoG s an cn at_ ct f os ao co hP hO hl hr ho
  have hws:∀s,cD s an at_ f->bH s ao os.length 5 (ai os)->aoH bh bw 16 [jC an cn at_ ct f,.slice ao os.length co] s (kb an at_++aj ao) (R1 f os) (S1 f os):=λs hr ho=>aoR s an cn at_ ct f os ao co hP hO hl hr ho
  have hwg:∀s a c,cD s an at_ f->bH s a (os.take ((n2:Int).tmod ((os.length:Int)+1)).toNat).length 5 (ai (os.take ((n2:Int).tmod ((os.length:Int)+1)).toNat))->aoH bh bw 15 [jC an cn at_ ct f,.slice a (os.take ((n2:Int).tmod ((os.length:Int)+1)).toNat).length c] s (kb an at_++aj a) (R1 f (os.take ((n2:Int).tmod ((os.length:Int)+1)).toNat)) (S1 f (os.take ((n2:Int).tmod ((os.length:Int)+1)).toNat)):=λs a c hr ho=>aoG s an cn at_ ct f _ a c hP hO1 (by rw[cW];omega) hr ho
  have hwh:∀s a1 c1 a2 c2 a c,cD s a1 a2 (R1 f (os.take ((n2:Int).tmod ((os.length:Int)+1)).toNat))->bH s a (os.drop ((n2:Int).tmod ((os.length:Int)+1)).toNat).length 5 (ai (os.drop ((n2:Int).tmod ((os.length:Int)+1)).toNat))->aoH bh bw 15 [jC a1 c1 a2 c2 (R1 f (os.take ((n2:Int).tmod ((os.length:Int)+1)).toNat)),.slice a (os.drop ((n2:Int).tmod ((os.length:Int)+1)).toNat).length c] s (kb a1 a2++aj a) (R1 (R1 f (os.take ((n2:Int).tmod ((os.length:Int)+1)).toNat)) (os.drop ((n2:Int).tmod ((os.length:Int)+1)).toNat)) (S1 (R1 f (os.take ((n2:Int).tmod ((os.length:Int)+1)).toNat)) (os.drop ((n2:Int).tmod ((os.length:Int)+1)).toNat)):=λs a1 c1 a2 c2 a c hr ho=>aoG s a1 c1 a2 c2 _ _ a c hG hO2 (by rw[eW];omega) hr ho
  have uu:∀s,cD s an at_ f->bF 11 [jC an cn at_ ct f] s (kb an at_) (.bool true):=λs hr=>by
   have:=oC s an cn at_ ct f hD.e hr
   rwa [(wg f).2 hP.ok] at this
  have hgo:∀s a c a' c',cD s a a' (R1 f os)->bF 11 [jC a c a' c' (R1 f os)] s (kb a a') (.bool true):=λs a c a' c' hr=>by
   have:=oC s a c a' c' _ hF.D.e hr
   rwa [(wg _).2 hF.ok] at this
  have nn1:=hF.D.nl;have nn2:=hF.D.tl;rw[<-apN] at hwh;rw[apM] at hwi hws;clear apN apM hF hG hP hO hO1 hO2 hD fm hr hv;generalize S1 (R1 f (os.take ((n2:Int).tmod ((os.length:Int)+1)).toNat)) (os.drop ((n2:Int).tmod ((os.length:Int)+1)).toNat)=Cd2 at *
  generalize S1 f (os.take ((n2:Int).tmod ((os.length:Int)+1)).toNat)=Cd1 at *
  generalize R1 f (os.take ((n2:Int).tmod ((os.length:Int)+1)).toNat)=G at *
  generalize R1 f os=F at *
  have Ly:=λs a c a' c' a2 c2 Fw ZH=>Bc s a c a' c' a2 c2 Fw ZH F.ad F.ae ag ag
  have hpi:=λs a c a2 c2=>aoQ s a c a2 c2 (Cd1++Cd2) (by rw[bL];omega)
  (repeat' (first|refine' aW|((with_reducible apply WO.aoS);exact aC;(intro s hr ho;exact hwi s hr ho);exact fZ;exact cb;intro _ _ aiD aiE aiI aiJ apu apv _ _)|((with_reducible apply WO.aoS);exact aC;(intro s hr ho;exact hws s hr ho);exact fZ;exact cb;intro _ _ anT anU anY anZ apw apx _ _)|((with_reducible apply WO.aoS);exact aC;(intro s hr ho;exact hwg s _ _ hr ho);exact fZ;exact cb;intro _ _ apy apz apA apB apC apD _ _)|((with_reducible apply WO.aoS);exact aC;(intro s hr ho;exact hwh s _ _ _ _ _ _ hr ho);exact fZ;exact cb;intro _ _ apE apF apG apH apI apJ _ _)|refine' RC|((with_reducible apply WO.Xm);exact aC;(intro s h1 h2;exact hpi s _ _ _ _ h1 h2);exact cb;exact cb;intros)|refine' HF|((with_reducible apply WO.gM);exact aC;(intro s hr;exact hgo s _ _ _ _ hr);exact fZ;intros)|((with_reducible apply WO.lit (α:=Int) (xs:=[]));exact zf;exact rfl;exact rfl;intro bl _)|refine' av|fail));all_goals try refine cj
  all_goals refine' ax
  all_goals rfl
 .have agd:f.ok=false:=Bool.eq_false_iff.2 fm;have hik:RL f=false:=by rw[afc hD.P];exact agd
  have Vl:∀s,cD s an at_ f->bF 15 [jC an cn at_ ct f,.slice ao os.length co] s (kb an at_) (.tuple ⟨[.agg ⟨ie none 0 [] none 0 []⟩,eT]⟩):=λs hr=>aoN s an cn at_ ct f _ hD hik hr
  have uG:=λs hr=>aoO s an cn at_ ct f (.slice ao os.length co) hD agd hr
  have uu:∀s,cD s an at_ f->bF 11 [jC an cn at_ ct f] s (kb an at_) (.bool false):=λs hr=>by
   have:=oC s an cn at_ ct f hD.e hr
   rwa [hik] at this
  have Ly:∀s a c a' c' a2 c2 Fw ZH,bH s a ([]:List a7).length 2 (ai ([]:List a7))->bH s a' ([]:fg).length 3 (ai ([]:fg))->bH s a2 ([]:List a7).length 2 (ai ([]:List a7))->bH s Fw ([]:fg).length 3 (ai ([]:fg))->bF 10 [.agg ⟨ie a c [] a' c' []⟩,.agg ⟨ie a2 c2 [] Fw ZH []⟩] s ((aj a++aj a')++(aj a2++aj Fw)) (.bool true):=λs a c a' c' a2 c2 Fw ZH h1 h2 h3 h4=>Bc s a c a' c' a2 c2 Fw ZH [] [] (iG _) (iG _) h1 h2 h3 h4
  have hpi:=λs a c a2 c2=>aoQ s a c a2 c2 [] (iG _)
  have hz1:Rd ⟨s,([]:bZ).flatMap It.a8,aj a⟩ none ([]:List a7).length 2 (ai ([]:List a7)):=Rd.acf;have hz2:Rd ⟨s,([]:bZ).flatMap It.a8,aj a⟩ none ([]:fg).length 3 (ai ([]:fg)):=Rd.acf;have hz3:Rd ⟨s,([]:bZ).flatMap It.a8,aj a⟩ none ([]:List Int).length 1 (ai ([]:List Int)):=Rd.acf;clear hik agd fm hr hv hO hD;(repeat' (first|refine' aW|((with_reducible apply WO.gM);exact aC;(intro s hr;exact Vl s hr);exact fZ;intros)|((with_reducible apply WO.apd);exact aC;(intro s hr;exact uG s hr);exact fZ;intro _ _ apK apL _ _)|refine' RC|((with_reducible apply WO.Xm);exact aC;(intro s h1 h2;exact hpi s _ _ _ _ h1 h2);exact cb;exact cb;intros)|refine' HF|refine' av|fail));all_goals try refine cj
  all_goals refine' ax
  all_goals rfl
end Go.Pl
namespace Go.Proofs
open Go.Shelf
def Tryz.Oc:Go.Shelf.Ren:=⟨λ|213=>81|265=>125|n=>n,λ|9=>9|3=>3|n=>n,λ|n=>n⟩
theorem Tryz.acg:Go.Proofs.Lays.n213 Tryz.prog Tryz.Oc:={
 mixed:=by kernel_rfl
 f213:=Tryz.func81.trans (ep some cV)
 f265:=Tryz.func125.trans (ep some cV)
 t3:=Tryz.underlying3
 a3:=Tryz.isAgg3
 z3:=Tryz.sizeOf3
 v3:=Tryz.zeroValue3
 t9:=Tryz.underlying9
 a9:=Tryz.isAgg9
 z9:=Tryz.sizeOf9
 v9:=Tryz.zeroValue9}
def Tryz.Od:Go.Shelf.Ren:=⟨λ|106=>44|213=>81|265=>125|n=>n,λ|9=>9|3=>3|n=>n,λ|n=>n⟩
theorem Tryz.ach:Go.Proofs.Lays.n106 Tryz.prog Tryz.Od:={
 mixed:=by kernel_rfl
 f106:=Tryz.func44.trans (ep some cV)
 f213:=Tryz.func81.trans (ep some cV)
 f265:=Tryz.func125.trans (ep some cV)
 t3:=Tryz.underlying3
 a3:=Tryz.isAgg3
 z3:=Tryz.sizeOf3
 v3:=Tryz.zeroValue3
 t9:=Tryz.underlying9
 a9:=Tryz.isAgg9
 z9:=Tryz.sizeOf9
 v9:=Tryz.zeroValue9}
def Tryz.QI:Go.Shelf.Ren:=⟨λ|5=>66|7=>101|n=>n,λ|22=>3|3=>3|4=>4|n=>n,λ|n=>n⟩
theorem Tryz.age:Go.Proofs.SlLaysC2.n5 Tryz.prog Tryz.QI:={
 mixed:=by kernel_rfl
 f5:=⟨Tryz.f66.name,bJ,Tryz.func66.trans (ep some cV)⟩
 f7:=⟨Tryz.f101.name,bJ,Tryz.func101.trans (ep some cV)⟩
 t3:=Tryz.underlying3
 a3:=Tryz.isAgg3
 z3:=Tryz.sizeOf3
 v3:=Tryz.zeroValue3
 t4:=Tryz.underlying4
 a4:=Tryz.isAgg4
 z4:=Tryz.sizeOf4
 v4:=Tryz.zeroValue4
 t22:=Tryz.underlying3
 a22:=Tryz.isAgg3
 z22:=Tryz.sizeOf3
 v22:=Tryz.zeroValue3}
def Tryz.B4:Go.Shelf.Ren:=⟨λ|105=>87|212=>127|99=>128|165=>129|166=>130|170=>131|169=>132|263=>179|264=>180|206=>142|240=>181|241=>182|276=>214|277=>215|n=>n,λ|9=>9|3=>3|4=>4|20=>20|0=>0|46=>132|109=>165|5=>5|72=>169|76=>173|51=>217|146=>218|53=>220|148=>221|70=>167|37=>22|75=>172|127=>223|164=>246|80=>175|n=>n,λ|n=>n⟩
theorem Tryz.Ah:Go.Proofs.Lays.n105 Tryz.prog Tryz.B4:={
 mixed:=by kernel_rfl
 f99:=Tryz.func128.trans (ep some cV)
 f105:=Tryz.func87.trans (ep some cV)
 f165:=Tryz.func129.trans (ep some cV)
 f166:=Tryz.func130.trans (ep some cV)
 f169:=Tryz.func132.trans (ep some cV)
 f170:=Tryz.func131.trans (ep some cV)
 f206:=Tryz.func142.trans (ep some cV)
 f212:=Tryz.func127.trans (ep some cV)
 f240:=Tryz.func181.trans (ep some cV)
 f241:=Tryz.func182.trans (ep some cV)
 f263:=Tryz.func179.trans (ep some cV)
 f264:=Tryz.func180.trans (ep some cV)
 f276:=Tryz.func214.trans (ep some cV)
 f277:=Tryz.func215.trans (ep some cV)
 t0:=Tryz.underlying0
 a0:=Tryz.isAgg0
 z0:=Tryz.sizeOf0
 v0:=Tryz.zeroValue0
 t3:=Tryz.underlying3
 a3:=Tryz.isAgg3
 z3:=Tryz.sizeOf3
 v3:=Tryz.zeroValue3
 t4:=Tryz.underlying4
 a4:=Tryz.isAgg4
 z4:=Tryz.sizeOf4
 v4:=Tryz.zeroValue4
 t5:=Tryz.underlying5
 a5:=Tryz.isAgg5
 z5:=Tryz.sizeOf5
 v5:=Tryz.zeroValue5
 t9:=Tryz.underlying9
 a9:=Tryz.isAgg9
 z9:=Tryz.sizeOf9
 v9:=Tryz.zeroValue9
 t20:=Tryz.underlying20
 a20:=Tryz.isAgg20
 z20:=Tryz.sizeOf20
 v20:=Tryz.zeroValue20
 t37:=Tryz.underlying22
 a37:=Tryz.isAgg22
 z37:=Tryz.sizeOf22
 v37:=Tryz.zeroValue22
 t46:=Tryz.underlying132
 a46:=Tryz.isAgg132
 z46:=Tryz.sizeOf132
 v46:=Tryz.zeroValue132
 t51:=Tryz.underlying217
 a51:=Tryz.isAgg217
 z51:=Tryz.sizeOf217
 v51:=Tryz.zeroValue217
 t53:=Tryz.underlying220
 a53:=Tryz.isAgg220
 z53:=Tryz.sizeOf220
 v53:=Tryz.zeroValue220
 t70:=Tryz.underlying167
 a70:=Tryz.isAgg167
 z70:=Tryz.sizeOf167
 v70:=Tryz.zeroValue167
 t72:=Tryz.underlying169
 a72:=Tryz.isAgg169
 z72:=Tryz.sizeOf169
 v72:=Tryz.zeroValue169
 t75:=Tryz.underlying172
 a75:=Tryz.isAgg172
 z75:=Tryz.sizeOf172
 v75:=Tryz.zeroValue172
 t76:=Tryz.underlying173
 a76:=Tryz.isAgg173
 z76:=Tryz.sizeOf173
 v76:=Tryz.zeroValue173
 t109:=Tryz.underlying165
 a109:=Tryz.isAgg165
 z109:=Tryz.sizeOf165
 v109:=Tryz.zeroValue165
 t127:=Tryz.underlying223
 a127:=Tryz.isAgg223
 z127:=Tryz.sizeOf223
 v127:=Tryz.zeroValue223
 t146:=Tryz.underlying218
 a146:=Tryz.isAgg218
 z146:=Tryz.sizeOf218
 v146:=Tryz.zeroValue218
 t148:=Tryz.underlying221
 a148:=Tryz.isAgg221
 z148:=Tryz.sizeOf221
 v148:=Tryz.zeroValue221
 t164:=Tryz.underlying246
 a164:=Tryz.isAgg246
 z164:=Tryz.sizeOf246
 v164:=Tryz.zeroValue246}
theorem Tryz.Ai:Builder.Extra Tryz.prog Tryz.B4:={
 sizeBuilder:=by kernel_rfl
 liesBuilder:=by kernel_rfl
 t5:=Tryz.Ah.t5
 a5:=Tryz.Ah.a5
 z5:=Tryz.Ah.z5
 v5:=Tryz.Ah.v5
 infoByte:=by kernel_rfl
 cellsByte:=by kernel_rfl
 sizeByte:=by kernel_rfl
 neB5:=by decide}
def Tryz.B5:Go.Shelf.Ren:=⟨λ|156=>147|165=>129|166=>130|169=>132|240=>181|241=>182|276=>214|277=>215|n=>n,λ|31=>70|9=>9|3=>3|4=>4|0=>0|20=>20|72=>169|76=>173|70=>167|37=>22|75=>172|127=>223|164=>246|5=>5|80=>175|n=>n,λ|n=>n⟩
theorem Tryz.Sr:Go.Proofs.Lays.n156 Tryz.prog Tryz.B5:={
 mixed:=by kernel_rfl
 f156:=Tryz.func147.trans (ep some cV)
 f165:=Tryz.func129.trans (ep some cV)
 f166:=Tryz.func130.trans (ep some cV)
 f169:=Tryz.func132.trans (ep some cV)
 f240:=Tryz.func181.trans (ep some cV)
 f241:=Tryz.func182.trans (ep some cV)
 f276:=Tryz.func214.trans (ep some cV)
 f277:=Tryz.func215.trans (ep some cV)
 t0:=Tryz.underlying0
 a0:=Tryz.isAgg0
 z0:=Tryz.sizeOf0
 v0:=Tryz.zeroValue0
 t3:=Tryz.underlying3
 a3:=Tryz.isAgg3
 z3:=Tryz.sizeOf3
 v3:=Tryz.zeroValue3
 t4:=Tryz.underlying4
 a4:=Tryz.isAgg4
 z4:=Tryz.sizeOf4
 v4:=Tryz.zeroValue4
 t9:=Tryz.underlying9
 a9:=Tryz.isAgg9
 z9:=Tryz.sizeOf9
 v9:=Tryz.zeroValue9
 t20:=Tryz.underlying20
 a20:=Tryz.isAgg20
 z20:=Tryz.sizeOf20
 v20:=Tryz.zeroValue20
 t31:=Tryz.underlying70
 a31:=Tryz.isAgg70
 z31:=Tryz.sizeOf70
 v31:=Tryz.zeroValue70
 t37:=Tryz.underlying22
 a37:=Tryz.isAgg22
 z37:=Tryz.sizeOf22
 v37:=Tryz.zeroValue22
 t70:=Tryz.underlying167
 a70:=Tryz.isAgg167
 z70:=Tryz.sizeOf167
 v70:=Tryz.zeroValue167
 t72:=Tryz.underlying169
 a72:=Tryz.isAgg169
 z72:=Tryz.sizeOf169
 v72:=Tryz.zeroValue169
 t75:=Tryz.underlying172
 a75:=Tryz.isAgg172
 z75:=Tryz.sizeOf172
 v75:=Tryz.zeroValue172
 t76:=Tryz.underlying173
 a76:=Tryz.isAgg173
 z76:=Tryz.sizeOf173
 v76:=Tryz.zeroValue173
 t127:=Tryz.underlying223
 a127:=Tryz.isAgg223
 z127:=Tryz.sizeOf223
 v127:=Tryz.zeroValue223
 t164:=Tryz.underlying246
 a164:=Tryz.isAgg246
 z164:=Tryz.sizeOf246
 v164:=Tryz.zeroValue246}
theorem Tryz.rN:Builder.Extra Tryz.prog Tryz.B5:={
 sizeBuilder:=by kernel_rfl
 liesBuilder:=by kernel_rfl
 t5:=Tryz.underlying5
 a5:=Tryz.isAgg5
 z5:=Tryz.sizeOf5
 v5:=Tryz.zeroValue5
 infoByte:=by kernel_rfl
 cellsByte:=by kernel_rfl
 sizeByte:=by kernel_rfl
 neB5:=by decide}
def Tryz.Vc:Go.Shelf.Ren:=⟨λ|6=>135|15=>184|14=>183|28=>224|29=>225|20=>216|21=>217|22=>218|23=>219|24=>220|25=>221|26=>222|27=>223|46=>251|47=>252|48=>253|49=>254|50=>255|57=>266|n=>n,λ|22=>23|24=>39|25=>179|3=>3|39=>132|0=>0|53=>217|55=>220|4=>4|46=>251|45=>250|50=>31|5=>5|9=>9|66=>271|70=>275|76=>288|77=>191|n=>n,λ|n=>n⟩
theorem Tryz.gS:Go.Proofs.SlLaysF0.n6 Tryz.prog Tryz.Vc:={
 mixed:=by kernel_rfl
 f6:=⟨Tryz.f135.name,bJ,Tryz.func135.trans (ep some cV)⟩
 f14:=⟨Tryz.f183.name,bJ,Tryz.func183.trans (ep some cV)⟩
 f15:=Tryz.func184.trans (ep some cV)
 f20:=⟨Tryz.f216.name,bJ,Tryz.func216.trans (ep some cV)⟩
 f21:=⟨Tryz.f217.name,bJ,Tryz.func217.trans (ep some cV)⟩
 f22:=⟨Tryz.f218.name,bJ,Tryz.func218.trans (ep some cV)⟩
 f23:=⟨Tryz.f219.name,bJ,Tryz.func219.trans (ep some cV)⟩
 f24:=⟨Tryz.f220.name,bJ,Tryz.func220.trans (ep some cV)⟩
 f25:=⟨Tryz.f221.name,bJ,Tryz.func221.trans (ep some cV)⟩
 f26:=⟨Tryz.f222.name,bJ,Tryz.func222.trans (ep some cV)⟩
 f27:=⟨Tryz.f223.name,bJ,Tryz.func223.trans (ep some cV)⟩
 f28:=Tryz.func224.trans (ep some cV)
 f29:=Tryz.func225.trans (ep some cV)
 f46:=⟨Tryz.f251.name,bJ,Tryz.func251.trans (ep some cV)⟩
 f47:=Tryz.func252.trans (ep some cV)
 f48:=Tryz.func253.trans (ep some cV)
 f49:=⟨Tryz.f254.name,bJ,Tryz.func254.trans (ep some cV)⟩
 f50:=⟨Tryz.f255.name,bJ,Tryz.func255.trans (ep some cV)⟩
 f57:=⟨Tryz.f266.name,bJ,Tryz.func266.trans (ep some cV)⟩
 t0:=Tryz.underlying0
 a0:=Tryz.isAgg0
 z0:=Tryz.sizeOf0
 v0:=Tryz.zeroValue0
 t3:=Tryz.underlying3
 a3:=Tryz.isAgg3
 z3:=Tryz.sizeOf3
 v3:=Tryz.zeroValue3
 t4:=Tryz.underlying4
 a4:=Tryz.isAgg4
 z4:=Tryz.sizeOf4
 v4:=Tryz.zeroValue4
 t5:=Tryz.underlying5
 a5:=Tryz.isAgg5
 z5:=Tryz.sizeOf5
 v5:=Tryz.zeroValue5
 t9:=Tryz.underlying9
 a9:=Tryz.isAgg9
 z9:=Tryz.sizeOf9
 v9:=Tryz.zeroValue9
 t22:=Tryz.underlying23
 a22:=Tryz.isAgg23
 z22:=Tryz.sizeOf23
 v22:=Tryz.zeroValue23
 t25:=Tryz.underlying179
 a25:=Tryz.isAgg179
 z25:=Tryz.sizeOf179
 v25:=Tryz.zeroValue179
 t39:=Tryz.underlying132
 a39:=Tryz.isAgg132
 z39:=Tryz.sizeOf132
 v39:=Tryz.zeroValue132
 t45:=Tryz.underlying250
 a45:=Tryz.isAgg250
 z45:=Tryz.sizeOf250
 v45:=Tryz.zeroValue250
 t46:=Tryz.underlying251
 a46:=Tryz.isAgg251
 z46:=Tryz.sizeOf251
 v46:=Tryz.zeroValue251
 t50:=Tryz.underlying31
 a50:=Tryz.isAgg31
 z50:=Tryz.sizeOf31
 v50:=Tryz.zeroValue31
 t53:=Tryz.underlying217
 a53:=Tryz.isAgg217
 z53:=Tryz.sizeOf217
 v53:=Tryz.zeroValue217
 t55:=Tryz.underlying220
 a55:=Tryz.isAgg220
 z55:=Tryz.sizeOf220
 v55:=Tryz.zeroValue220
 t66:=Tryz.underlying271
 a66:=Tryz.isAgg271
 z66:=Tryz.sizeOf271
 v66:=Tryz.zeroValue271
 t70:=Tryz.underlying275
 a70:=Tryz.isAgg275
 z70:=Tryz.sizeOf275
 v70:=Tryz.zeroValue275
 t76:=Tryz.underlying288
 a76:=Tryz.isAgg288
 z76:=Tryz.sizeOf288
 v76:=Tryz.zeroValue288
 t77:=Tryz.underlying191
 a77:=Tryz.isAgg191
 z77:=Tryz.sizeOf191
 v77:=Tryz.zeroValue191}
def Tryz.Vd:Go.Shelf.Ren:=⟨λ|6=>137|15=>184|14=>185|28=>224|29=>225|20=>226|21=>227|22=>228|23=>229|24=>230|25=>231|26=>232|27=>233|46=>256|47=>252|48=>253|49=>257|50=>258|57=>267|n=>n,λ|22=>24|24=>61|25=>181|3=>3|39=>132|0=>0|53=>217|55=>220|4=>4|46=>251|45=>250|50=>31|5=>5|9=>9|66=>271|70=>275|76=>288|77=>191|n=>n,λ|n=>n⟩
theorem Tryz.il:Go.Proofs.SlLaysF0.n6 Tryz.prog Tryz.Vd:={
 mixed:=by kernel_rfl
 f6:=⟨Tryz.f137.name,bJ,Tryz.func137.trans (ep some cV)⟩
 f14:=⟨Tryz.f185.name,bJ,Tryz.func185.trans (ep some cV)⟩
 f15:=Tryz.func184.trans (ep some cV)
 f20:=⟨Tryz.f226.name,bJ,Tryz.func226.trans (ep some cV)⟩
 f21:=⟨Tryz.f227.name,bJ,Tryz.func227.trans (ep some cV)⟩
 f22:=⟨Tryz.f228.name,bJ,Tryz.func228.trans (ep some cV)⟩
 f23:=⟨Tryz.f229.name,bJ,Tryz.func229.trans (ep some cV)⟩
 f24:=⟨Tryz.f230.name,bJ,Tryz.func230.trans (ep some cV)⟩
 f25:=⟨Tryz.f231.name,bJ,Tryz.func231.trans (ep some cV)⟩
 f26:=⟨Tryz.f232.name,bJ,Tryz.func232.trans (ep some cV)⟩
 f27:=⟨Tryz.f233.name,bJ,Tryz.func233.trans (ep some cV)⟩
 f28:=Tryz.func224.trans (ep some cV)
 f29:=Tryz.func225.trans (ep some cV)
 f46:=⟨Tryz.f256.name,bJ,Tryz.func256.trans (ep some cV)⟩
 f47:=Tryz.func252.trans (ep some cV)
 f48:=Tryz.func253.trans (ep some cV)
 f49:=⟨Tryz.f257.name,bJ,Tryz.func257.trans (ep some cV)⟩
 f50:=⟨Tryz.f258.name,bJ,Tryz.func258.trans (ep some cV)⟩
 f57:=⟨Tryz.f267.name,bJ,Tryz.func267.trans (ep some cV)⟩
 t0:=Tryz.underlying0
 a0:=Tryz.isAgg0
 z0:=Tryz.sizeOf0
 v0:=Tryz.zeroValue0
 t3:=Tryz.underlying3
 a3:=Tryz.isAgg3
 z3:=Tryz.sizeOf3
 v3:=Tryz.zeroValue3
 t4:=Tryz.underlying4
 a4:=Tryz.isAgg4
 z4:=Tryz.sizeOf4
 v4:=Tryz.zeroValue4
 t5:=Tryz.underlying5
 a5:=Tryz.isAgg5
 z5:=Tryz.sizeOf5
 v5:=Tryz.zeroValue5
 t9:=Tryz.underlying9
 a9:=Tryz.isAgg9
 z9:=Tryz.sizeOf9
 v9:=Tryz.zeroValue9
 t22:=Tryz.underlying24
 a22:=Tryz.isAgg24
 z22:=Tryz.sizeOf24
 v22:=Tryz.zeroValue24
 t25:=Tryz.underlying181
 a25:=Tryz.isAgg181
 z25:=Tryz.sizeOf181
 v25:=Tryz.zeroValue181
 t39:=Tryz.underlying132
 a39:=Tryz.isAgg132
 z39:=Tryz.sizeOf132
 v39:=Tryz.zeroValue132
 t45:=Tryz.underlying250
 a45:=Tryz.isAgg250
 z45:=Tryz.sizeOf250
 v45:=Tryz.zeroValue250
 t46:=Tryz.underlying251
 a46:=Tryz.isAgg251
 z46:=Tryz.sizeOf251
 v46:=Tryz.zeroValue251
 t50:=Tryz.underlying31
 a50:=Tryz.isAgg31
 z50:=Tryz.sizeOf31
 v50:=Tryz.zeroValue31
 t53:=Tryz.underlying217
 a53:=Tryz.isAgg217
 z53:=Tryz.sizeOf217
 v53:=Tryz.zeroValue217
 t55:=Tryz.underlying220
 a55:=Tryz.isAgg220
 z55:=Tryz.sizeOf220
 v55:=Tryz.zeroValue220
 t66:=Tryz.underlying271
 a66:=Tryz.isAgg271
 z66:=Tryz.sizeOf271
 v66:=Tryz.zeroValue271
 t70:=Tryz.underlying275
 a70:=Tryz.isAgg275
 z70:=Tryz.sizeOf275
 v70:=Tryz.zeroValue275
 t76:=Tryz.underlying288
 a76:=Tryz.isAgg288
 z76:=Tryz.sizeOf288
 v76:=Tryz.zeroValue288
 t77:=Tryz.underlying191
 a77:=Tryz.isAgg191
 z77:=Tryz.sizeOf191
 v77:=Tryz.zeroValue191}
end Go.Proofs
namespace Go.Proofs
open Go Go.Ev
def T.lim {α:Type}:T α->Nat
 |.nil=>0
 |.node _ l r=>max 1 (max (2*T.lim l) (2*T.lim r+1))
theorem T.CV {α:Type}:∀(t:T α)(n:Nat)(x:α),t.get n=some x->n<T.lim t
 |.nil,n,x,h=>by rw[T.get_nil] at h;cases h
 |.node v l r,n,x,h=>by
  rw[T.oS] at h;unfold T.lim;split at h
  .omega
  .split at h
   .have:=T.CV l _ x h;omega
   .have:=T.CV r _ x h;omega
theorem Oe {β:Type}{g h:Nat->β}{N:Nat}(e:(List.range N).map g=(List.range N).map h){n:Nat}(hn:n<N):g n=h n:=by have:=ep (λl=>l[n]?) e;simpa[Ar,SD hn] using this
theorem fnL:(List.range 291).map fnT.get=(List.range 291).map (λf=>bif Nat.ble 3 f then prog.funcs[f]? else none):=by kernel_rfl
theorem fnC:((List.range 291).all λf=>match fnT.get f with|some fn=>!(fn.name== "runtime.NumGoroutine")&&(match fn.body with|some c=>codeOk fn.ntmps c|none=>true)|none=>true)=true:=by kernel_rfl
theorem tyL:(List.range 304).map tyT.get=(List.range 304).map (λt=>prog.types[t]?):=by kernel_rfl
theorem tyZ:((List.range 304).all λt=>match tyT.get t with|some i=>(match i.zero with|some z=>l9 z|none=>true)|none=>true)=true:=by kernel_rfl
theorem agf (f:Nat)(fn:Func)(h:fnT.get f=some fn):prog.funcs[f]?=some fn/\∀c,fn.body=some c->(∀args w,(callFunc f args).run prog w= .ok (.enter f args) w)/\codeOk fn.ntmps c=true:=by
 have hf:f<291:=xn (T.CV _ _ _ h) (by decide+kernel);have h1:(bif Nat.ble 3 f then prog.funcs[f]? else none)=some fn:=(Oe fnL hf).symm.trans h;have h2:=gA.1 fnC f (lX.2 hf);rw[h] at h2;dsimp only at h2;cases hb:Nat.ble 3 f with
 |false=>rw[hb] at h1;cases h1
 |true=>
  rw[hb] at h1;have h1:prog.funcs[f]?=some fn:=h1;refine⟨h1,λc hc=>?_⟩;rw[hc,bO] at h2;refine⟨λargs w=>?_,h2.2⟩;have h3:fn.name≠ "runtime.NumGoroutine" :=by simpa using h2.1
  simp[callFunc,h1,h3,hc,mark]
theorem aj5 (t:Nat)(i:TypeInfo)(h:tyT.get t=some i):prog.info? t=some i/\∀z,i.zero=some z->∀ρ,cw ρ z=z:=by
 have hf:t<304:=xn (T.CV _ _ _ h) (by decide+kernel);have h1:prog.types[t]?=some i:=(Oe tyL hf).symm.trans h;have h2:=gA.1 tyZ t (lX.2 hf);rw[h] at h2;dsimp only at h2;refine⟨?_,λz hz ρ=>?_⟩
 .unfold Tables.info?;rw[if_pos (by rw[types_size];exact hf)];exact h1
 .rw[hz] at h2;exact tG ρ z h2
theorem Tv (b:Bool){t:TypeId}(h:prog.underlying t=some (.int .i64))(a:Int)(w:World):(Instr.checkKey b 9999 t (.int .i64 a)).run prog w= .ok () w:=by show(Instr.checkKey b (9998+1) t (.int .i64 a)).run prog w= .ok () w;unfold Instr.checkKey;simp only[Sem.run_bind,run_underlying h,Result.andThen_ok];rfl
theorem LN (b:Bool){t:TypeId}(h:prog.underlying t=some .string)(a:ByteArray)(w:World):(Instr.checkKey b 9999 t (.string a)).run prog w= .ok () w:=by show(Instr.checkKey b (9998+1) t (.string a)).run prog w= .ok () w;unfold Instr.checkKey;simp only[Sem.run_bind,run_underlying h,Result.andThen_ok];rfl
theorem agh (b:Bool){t:TypeId}(h:prog.underlying t=some .bool)(a:Bool)(w:World):(Instr.checkKey b 9999 t (.bool a)).run prog w= .ok () w:=by show(Instr.checkKey b (9998+1) t (.bool a)).run prog w= .ok () w;unfold Instr.checkKey;simp only[Sem.run_bind,run_underlying h,Result.andThen_ok];rfl
theorem eqI {t:TypeId}(h:prog.underlying t=some (.int .i64))(a b:Int)(w:World):(Op.equalIn 9999 t (.int .i64 a) (.int .i64 b)).run prog w= .ok (a== b) w:=by refine' zaB
theorem eqS {t:TypeId}(h:prog.underlying t=some .string)(a b:ByteArray)(w:World):(Op.equalIn 9999 t (.string a) (.string b)).run prog w= .ok (a== b) w:=by refine' zaB
theorem eqB {t:TypeId}(h:prog.underlying t=some .bool)(a b:Bool)(w:World):(Op.equalIn 9999 t (.bool a) (.bool b)).run prog w= .ok (a== b) w:=by refine' zaB
theorem qU {a:Int}{y:Value}{e:Bool}(h:lS (.int .i64 a) y=some e):∃b,y= .int .i64 b/\e=yK a b:=by
 unfold lS at h;split at h
 .rename_i a' b e1;cases e1;exact⟨_,rfl,(ke h).symm⟩
 .rename_i e1;cases e1
 .rename_i e1;cases e1
 .cases h
theorem Of {a:List UInt8}{y:Value}{e:Bool}(h:lS (.string ⟨⟨a⟩⟩) y=some e):∃b,y= .string ⟨⟨b⟩⟩/\e=gB a b:=by
 unfold lS at h;split at h
 .rename_i e1;cases e1
 .rename_i a' b e1;cases e1;exact⟨_,rfl,(ke h).symm⟩
 .rename_i e1;cases e1
 .cases h
theorem Ve {a:Bool}{y:Value}{e:Bool}(h:lS (.bool a) y=some e):∃b,y= .bool b/\e=bo a b (!b):=by
 unfold lS at h;split at h
 .rename_i e1;cases e1
 .rename_i e1;cases e1
 .rename_i a' b e1;cases e1;exact⟨_,rfl,(ke h).symm⟩
 .cases h
theorem kI {xs:a6}{ks:List Nat}(h:ff xs (0::ks)=true):∃a ys,xs= .int .i64 a::ys/\ff ys ks=true:=by
 cases xs with
 |nil=>cases h
 |cons v xs=>
  obtain⟨k,_,h1⟩:=mX h;obtain⟨a,rfl⟩:=AA k;exact⟨a,xs,rfl,h1⟩
theorem kS {xs:a6}{ks:List Nat}(h:ff xs (1::ks)=true):∃a ys,xs= .string ⟨⟨a⟩⟩::ys/\ff ys ks=true:=by
 cases xs with
 |nil=>cases h
 |cons v xs=>
  obtain⟨k,_,h1⟩:=mX h;obtain⟨a,rfl⟩:=AB k;exact⟨a,xs,rfl,h1⟩
theorem kB {xs:a6}{ks:List Nat}(h:ff xs (2::ks)=true):∃a ys,xs= .bool a::ys/\ff ys ks=true:=by
 cases xs with
 |nil=>cases h
 |cons v xs=>
  obtain⟨k,_,h1⟩:=mX h;obtain⟨a,rfl⟩:=xC k;exact⟨a,xs,rfl,h1⟩
theorem kN {xs:a6}(h:ff xs []=true):xs=[]:=by
 cases xs with
 |nil=>rfl
 |cons v xs=>cases h
theorem mN {ys:a6}{r:Bool}(h:fQ [] ys=some r):ys=[]/\r=true:=by
 cases ys with
 |nil=>exact⟨rfl,(ke h).symm⟩
 |cons v xs=>cases h
theorem mC {x:Value}{xs ys:a6}{r:Bool}(h:fQ (x::xs) ys=some r):∃y zs e q,ys=y::zs/\lS x y=some e/\fQ xs zs=some q/\r=bo e q false:=by
 cases ys with
 |nil=>cases h
 |cons y ys=>
  rw[lB] at h;obtain⟨e,he,g⟩:=aD h;obtain⟨q,hq,hr⟩:=aD g;exact⟨y,ys,e,q,rfl,he,hq,(ke hr).symm⟩
theorem amK (a1:Int)(a2:Bool)(a3:List UInt8)(b1:Int)(b2:Bool)(b3:List UInt8)(w:World):(Op.equal 61 (.agg ⟨[.int .i64 a1,.bool a2,.string ⟨⟨a3⟩⟩]⟩) (.agg ⟨[.int .i64 b1,.bool b2,.string ⟨⟨b3⟩⟩]⟩)).run prog w=
  .ok (bo (yK a1 b1) (bo (bo a2 b2 (!b2)) (bo (gB a3 b3) true false) false) false) w:=by
 unfold Op.equal Op.maxDepth;simp[go_sem,Op.eqFields,bytes_beq,eqI,eqS,eqB,wP,GS];simp only[dW,jN,eY,Ap];repeat' split
 all_goals first|rfl|simp_all
theorem aj6 (a1:Int)(a2:Bool)(a3:List UInt8)(b:Bool)(w:World):(Instr.checkKey b 10000 61 (.agg ⟨[.int .i64 a1,.bool a2,.string ⟨⟨a3⟩⟩]⟩)).run prog w= .ok () w:=by show(Instr.checkKey b (9999+1) 61 (.agg ⟨[.int .i64 a1,.bool a2,.string ⟨⟨a3⟩⟩]⟩)).run prog w= .ok () w;unfold Instr.checkKey;simp[go_sem,Tv,LN,agh,wP,GS]
theorem Ss (xs:a6)(h0:ff xs [0,2,1]=true):∃a1 a2 a3,xs=[.int .i64 a1,.bool a2,.string ⟨⟨a3⟩⟩]:=by
 obtain⟨a1,_,rfl,h1⟩:=kI h0;obtain⟨a2,_,rfl,h2⟩:=kB h1;obtain⟨a3,_,rfl,h3⟩:=kS h2;cases kN h3
 exact⟨a1,a2,a3,rfl⟩
theorem aci (a1:Int)(a2:Bool)(a3:List UInt8)(ys:a6)(r0:Bool)(h0:fQ [.int .i64 a1,.bool a2,.string ⟨⟨a3⟩⟩] ys=some r0):∃b1 b2 b3,ys=[.int .i64 b1,.bool b2,.string ⟨⟨b3⟩⟩]/\r0=bo (yK a1 b1) (bo (bo a2 b2 (!b2)) (bo (gB a3 b3) true false) false) false:=by obtain⟨_,_,_,_,rfl,e0,h1,rfl⟩:=mC h0;obtain⟨b1,rfl,rfl⟩:=qU e0;obtain⟨_,_,_,_,rfl,e1,h2,rfl⟩:=mC h1;obtain⟨b2,rfl,rfl⟩:=Ve e1;obtain⟨_,_,_,_,rfl,e2,h3,rfl⟩:=mC h2;obtain⟨b3,rfl,rfl⟩:=Of e2;obtain⟨rfl,rfl⟩:=mN h3;exact⟨b1,b2,b3,rfl,rfl⟩
theorem amL (a1:Int)(a2:Int)(a3:Int)(a4:Int)(a5:Int)(b1:Int)(b2:Int)(b3:Int)(b4:Int)(b5:Int)(w:World):(Op.equal 83 (.agg ⟨[.int .i64 a1,.int .i64 a2,.int .i64 a3,.int .i64 a4,.int .i64 a5]⟩) (.agg ⟨[.int .i64 b1,.int .i64 b2,.int .i64 b3,.int .i64 b4,.int .i64 b5]⟩)).run prog w=
  .ok (bo (yK a1 b1) (bo (yK a2 b2) (bo (yK a3 b3) (bo (yK a4 b4) (bo (yK a5 b5) true false) false) false) false) false) w:=by
 unfold Op.equal Op.maxDepth;simp[go_sem,Op.eqFields,bytes_beq,eqI,eqS,eqB,wP,GS];simp only[dW,jN,eY,Ap];repeat' split
 all_goals first|rfl|simp_all
theorem aj7 (a1:Int)(a2:Int)(a3:Int)(a4:Int)(a5:Int)(b:Bool)(w:World):(Instr.checkKey b 10000 83 (.agg ⟨[.int .i64 a1,.int .i64 a2,.int .i64 a3,.int .i64 a4,.int .i64 a5]⟩)).run prog w= .ok () w:=by show(Instr.checkKey b (9999+1) 83 (.agg ⟨[.int .i64 a1,.int .i64 a2,.int .i64 a3,.int .i64 a4,.int .i64 a5]⟩)).run prog w= .ok () w;unfold Instr.checkKey;simp[go_sem,Tv,LN,agh,wP,GS]
theorem Su (xs:a6)(h0:ff xs [0,0,0,0,0]=true):∃a1 a2 a3 a4 a5,xs=[.int .i64 a1,.int .i64 a2,.int .i64 a3,.int .i64 a4,.int .i64 a5]:=by
 obtain⟨a1,_,rfl,h1⟩:=kI h0;obtain⟨a2,_,rfl,h2⟩:=kI h1;obtain⟨a3,_,rfl,h3⟩:=kI h2;obtain⟨a4,_,rfl,h4⟩:=kI h3;obtain⟨a5,_,rfl,h5⟩:=kI h4;cases kN h5
 exact⟨a1,a2,a3,a4,a5,rfl⟩
theorem acj (a1:Int)(a2:Int)(a3:Int)(a4:Int)(a5:Int)(ys:a6)(r0:Bool)(h0:fQ [.int .i64 a1,.int .i64 a2,.int .i64 a3,.int .i64 a4,.int .i64 a5] ys=some r0):∃b1 b2 b3 b4 b5,ys=[.int .i64 b1,.int .i64 b2,.int .i64 b3,.int .i64 b4,.int .i64 b5]/\r0=bo (yK a1 b1) (bo (yK a2 b2) (bo (yK a3 b3) (bo (yK a4 b4) (bo (yK a5 b5) true false) false) false) false) false:=by obtain⟨_,_,_,_,rfl,e0,h1,rfl⟩:=mC h0;obtain⟨b1,rfl,rfl⟩:=qU e0;obtain⟨_,_,_,_,rfl,e1,h2,rfl⟩:=mC h1;obtain⟨b2,rfl,rfl⟩:=qU e1;obtain⟨_,_,_,_,rfl,e2,h3,rfl⟩:=mC h2;obtain⟨b3,rfl,rfl⟩:=qU e2;obtain⟨_,_,_,_,rfl,e3,h4,rfl⟩:=mC h3;obtain⟨b4,rfl,rfl⟩:=qU e3;obtain⟨_,_,_,_,rfl,e4,h5,rfl⟩:=mC h4;obtain⟨b5,rfl,rfl⟩:=qU e4;obtain⟨rfl,rfl⟩:=mN h5;exact⟨b1,b2,b3,b4,b5,rfl,rfl⟩
theorem amM (a1:List UInt8)(a2:Int)(b1:List UInt8)(b2:Int)(w:World):(Op.equal 39 (.agg ⟨[.string ⟨⟨a1⟩⟩,.int .i64 a2]⟩) (.agg ⟨[.string ⟨⟨b1⟩⟩,.int .i64 b2]⟩)).run prog w=
  .ok (bo (gB a1 b1) (bo (yK a2 b2) true false) false) w:=by
 unfold Op.equal Op.maxDepth;simp[go_sem,Op.eqFields,bytes_beq,eqI,eqS,eqB,wP,GS];simp only[dW,jN,eY,Ap];repeat' split
 all_goals first|rfl|simp_all
theorem aj8 (a1:List UInt8)(a2:Int)(b:Bool)(w:World):(Instr.checkKey b 10000 39 (.agg ⟨[.string ⟨⟨a1⟩⟩,.int .i64 a2]⟩)).run prog w= .ok () w:=by show(Instr.checkKey b (9999+1) 39 (.agg ⟨[.string ⟨⟨a1⟩⟩,.int .i64 a2]⟩)).run prog w= .ok () w;unfold Instr.checkKey;simp[go_sem,Tv,LN,agh,wP,GS]
theorem Sv (xs:a6)(h0:ff xs [1,0]=true):∃a1 a2,xs=[.string ⟨⟨a1⟩⟩,.int .i64 a2]:=by
 obtain⟨a1,_,rfl,h1⟩:=kS h0;obtain⟨a2,_,rfl,h2⟩:=kI h1;cases kN h2
 exact⟨a1,a2,rfl⟩
theorem ack (a1:List UInt8)(a2:Int)(ys:a6)(r0:Bool)(h0:fQ [.string ⟨⟨a1⟩⟩,.int .i64 a2] ys=some r0):∃b1 b2,ys=[.string ⟨⟨b1⟩⟩,.int .i64 b2]/\r0=bo (gB a1 b1) (bo (yK a2 b2) true false) false:=by obtain⟨_,_,_,_,rfl,e0,h1,rfl⟩:=mC h0;obtain⟨b1,rfl,rfl⟩:=Of e0;obtain⟨_,_,_,_,rfl,e1,h2,rfl⟩:=mC h1;obtain⟨b2,rfl,rfl⟩:=qU e1;obtain⟨rfl,rfl⟩:=mN h2;exact⟨b1,b2,rfl,rfl⟩
theorem yu (t:TypeId)(m:String):∀(l:List (TypeId×String×FuncId)){f:FuncId},mh t m l=some f->∃p∈l,p.1=t/\p.2.1=m/\p.2.2=f
 |[],f,h=>by cases h
 |p::l,f,h=>by
  have h:bo (Nat.beq p.1 t&&decide (p.2.1=m)) (some p.2.2) (mh t m l)=some f:=h;rw[dW] at h;split at h
  .rename_i hb;rw[bO] at hb;exact⟨p,gh,nR hb.1,Bj hb.2,ke h⟩
  .obtain⟨q,hq,h1⟩:=yu t m l h;exact⟨q,jA _ hq,h1⟩
theorem adN:c8 bh prog where
 ty t i h:=(aj5 t i h).1
 fn f x h:=(agf f x h).1
 VI:=by kernel_rfl
 agP:=by
  rw[show bh.VI=169 from rfl,underlying169];intro h;cases h
 eqs t xs h ys r hi w:=by
  refine' zaw
  .obtain⟨rfl,rfl⟩:=h0;obtain⟨a1,a2,a3,rfl⟩:=Ss xs hk;obtain⟨b1,b2,b3,rfl,rfl⟩:=aci a1 a2 a3 ys r hi;exact⟨amK a1 a2 a3 b1 b2 b3 w,λop ox oy=>run_eqGuard_agg w op 61 ox oy _ _ eqGuardType61⟩
  .obtain⟨rfl,rfl⟩:=h0;obtain⟨a1,a2,a3,a4,a5,rfl⟩:=Su xs hk;obtain⟨b1,b2,b3,b4,b5,rfl,rfl⟩:=acj a1 a2 a3 a4 a5 ys r hi;exact⟨amL a1 a2 a3 a4 a5 b1 b2 b3 b4 b5 w,λop ox oy=>run_eqGuard_agg w op 83 ox oy _ _ eqGuardType83⟩
  .obtain⟨rfl,rfl⟩:=h0;obtain⟨a1,a2,rfl⟩:=Sv xs hk;obtain⟨b1,b2,rfl,rfl⟩:=ack a1 a2 ys r hi;exact⟨amM a1 a2 b1 b2 w,λop ox oy=>run_eqGuard_agg w op 39 ox oy _ _ eqGuardType39⟩
 keys t xs h b w:=by
  refine' zaw
  .obtain⟨rfl,rfl⟩:=h0;obtain⟨a1,a2,a3,rfl⟩:=Ss xs hk;exact aj6 a1 a2 a3 b w
  .obtain⟨rfl,rfl⟩:=h0;obtain⟨a1,a2,a3,a4,a5,rfl⟩:=Su xs hk;exact aj7 a1 a2 a3 a4 a5 b w
  .obtain⟨rfl,rfl⟩:=h0;obtain⟨a1,a2,rfl⟩:=Sv xs hk;exact aj8 a1 a2 b w
 zs t i z h hz:=(aj5 t i h).2 z hz
 agQ t m f h a args w:=by
  refine' zaT
 agR t m f h a w:=by
  refine' zaT
theorem Vf (c:Nat)(z:List UInt8):∀i,FW c z i=match z.findIdx? (λb=>b.toNat== c) with
  |some k=>((i+k:Nat):Int)
  |none=>-1:=by
 induction z with
 |nil=>intro i;rfl
 |cons b bs ih=>
  intro i;have h:FW c (b::bs) i=bo (Nat.beq b.toNat c) (.ofNat i) (FW c bs (i+1)):=rfl;rw[h,dW,GR];by_cases hb:b.toNat=c
  .simp[hb]
  .simp only[B7,hb,pB,ih,Ap,jY];cases bs.findIdx? (λb=>b.toNat== c) with
   |none=>rfl
   |some k=>
    show((i+1+k:Nat):Int)=((i+(k+1):Nat):Int)
    congr 1;omega
theorem find_range (c:UInt8):∀(z pre:List UInt8),(List.range' pre.length z.length).find? (λi=>(⟨⟨pre++z⟩⟩:ByteArray)[i]! == c)=(z.findIdx? (·== c)).map (·+pre.length)
 |[],pre=>by simp
 |b::z,pre=>by
  have ih:=find_range c z (pre++[b]);simp only[bL,cY,lW,mU,ku,yv,pn] at ih;rw[cY,wP,List.find?_cons,GR];have hb:(⟨⟨pre++b::z⟩⟩:ByteArray)[pre.length]! =b:=by
   have dG:pre.length<(⟨⟨pre++b::z⟩⟩:ByteArray).size:=by
    show pre.length<(pre++b::z).length;simp
   rw[Bu (⟨⟨pre++b::z⟩⟩:ByteArray) pre.length dG];show(pre++b::z)[pre.length]'ay=b;simp
  rw[hb,ih];by_cases hbc:(b== c)=true
  .simp[hbc]
  .simp only[hbc,pB,jY];cases z.findIdx? (·== c) with
   |none=>rfl
   |some k=>simp;omega
theorem aj9 {hk:List (Nat×yR)}(hh:∀p∈hk,oa prog p.1 p.2):Wo bh prog ⟨214,259,215,99999,5,hk⟩ where
 wV:=hh
 enter f fn c h hc:=((agf f fn h).2 c hc).1
 code f fn c h fY hc:=((agf f fn h).2 c hc).2
 sw x w:=by
  show(callFunc 214 #[x]).run prog w=_;rw[run_callFunc_extern func214 cV cV cV (e:=Extern.AbiNoEscape.same) cV];rfl
 indexByte z c w hc:=by
  show(callFunc 259 #[.string ⟨⟨z⟩⟩,.int .u8 (.ofNat c)]).run prog w=_;rw[run_callFunc_extern func259 cV cV cV (e:=Extern.BytealgIndexByte.indexByte) cV];rw[run_indexByte_string];have h1:=find_range (UInt8.ofNat c) z [];simp only[lW,pn,xq] at h1;have h2:(z.findIdx? λb=>b.toNat== c)=z.findIdx? (·== UInt8.ofNat c):=by
   congr 1
   funext b
   rw[po];simp only[Ap];(have Vj:(UInt8.ofNat c).toNat=c:=by simp[UInt8.toNat_ofNat,IW hc]);rw[<-uJ,Vj]
  have h3:firstIdx ⟨⟨z⟩⟩ (Int.toNat (Int.ofNat c)).toUInt8=FW c z 0:=by
   rw[Vf,h2];unfold firstIdx;rw[show(⟨⟨z⟩⟩:ByteArray).size=z.length from rfl,List.range_eq_range'];have h4:(Int.toNat (Int.ofNat c)).toUInt8=UInt8.ofNat c:=rfl;rw[h4,h1];cases z.findIdx? (·== UInt8.ofNat c) with
   |none=>rfl
   |some k=>simp
  rw[h3];rfl
 byte:=by kernel_rfl
 tj fn h n w hn:=by
  obtain⟨cs,nZ,hle,amN⟩:=Lib.run_makeNoZero (P:=prog) w #[3] 22 5 underlying22 n ag;refine⟨cs.toList,?_,?_⟩
  .show(callFunc 215 #[.int .i64 (n:Int)]).run prog w=_;rw[run_callFunc_extern func215 cV cV cV (e:=Extern.BytealgMakeNoZero.makeNoZero #[3] #[22]) cV,nZ];rfl
  .exact amN (gK hn bJ)
 look fn h b o n c a k g i z w hi hv:=by
  have h0:bh.fn.get 99999=none:=by kernel_rfl
  have h:bh.fn.get 99999=some fn:=h;rw[h0] at h;cases h
end Go.Proofs
namespace Go.Ev
open Go Go.Sort Go.Proofs
variable {k:Nat}
theorem B6 {α:Type}{enc:α->a6}(hp:0<k)(hk:∀x,(enc x).length=k):∀(l:List α)(t:Nat),(l.flatMap enc)[t]?=(l[t/ k]?).bind λx=>(enc x)[t% k]?
 |[],t=>by simp
 |x::l,t=>by
  rw[mv];by_cases ht:t<k
  .rw[wE (by rw[hk];exact ht),Nat.div_eq_of_lt ht,IW ht];rfl
  .obtain⟨u,rfl⟩:∃u,t=u+k:=⟨t-k,ag⟩;rw[Ao (by rw[hk];omega),hk,Nat.add_sub_cancel,B6 hp hk l u,Nat.add_div_right _ hp,Nat.add_mod_right];rfl
theorem ph {α:Type}{enc:α->a6}(hk:∀x,(enc x).length=k):∀l:List α,(l.flatMap enc).length=l.length*k
 |[]=>by simp
 |x::l=>by rw[mv,bL,hk,ph hk l,cY,Nat.succ_mul];omega
theorem FF {α:Type}[Inhabited α]{enc:α->a6}(hp:0<k)(hk:∀x,(enc x).length=k)(l:List α):flatK enc k l.toArray=(l.flatMap enc).toArray:=by
 apply ext_get!
 .rw[size_flatK];simp[ph hk]
 .intro t ht;rw[size_flatK] at ht;have ht':t<l.length*k:=ht;rw[get_flatK _ _ _ _ ht];have hd:t/ k<l.length:=(Nat.div_lt_iff_lt_mul hp).2 ht';have h1:=B6 hp hk l t;rw[bd hd] at h1;have hm:t% k<(enc l[t/ k]).length:=by rw[hk];exact SE _ hp
  have h2:(l.flatMap enc)[t]?=some (enc l[t/ k])[t% k]:=h1.trans (bd hm);obtain⟨h3,h4⟩:=te.1 h2;rw[show(l.flatMap enc).toArray[t]! =(l.flatMap enc)[t] from Bu (l.flatMap enc).toArray t (by simpa using h3),h4];rw[show(l.toArray)[t/ k]! =l[t/ k] from Bu l.toArray _ (by simpa using hd)];exact Bu (enc l[t/ k]) _ hm
theorem GC (o:Nat)(new c aS:a6)(h:o+new.length<=c.length):putCells id o new.toArray ⟨c++aS⟩=⟨c.take o++new++c.drop (o+new.length)++aS⟩:=by
 apply wF;unfold putCells;rw[Array.toList_mapIdx];apply VA;intro j;rw[List.getElem?_mapIdx];show Option.map _ (c++aS)[j]?=(c.take o++new++c.drop (o+new.length)++aS)[j]?;have jd:new.toArray.size=new.length:=rfl;have qu:(c.take o).length=o:=by rw[cW];omega
 have uo:(c.take o++new).length=o+new.length:=by rw[bL,qu]
 have hl3:(c.take o++new++c.drop (o+new.length)).length=c.length:=by rw[bL,uo,eW];omega
 by_cases h3:j<c.length
 .rw[wE h3,wE (by rw[hl3];exact h3)];by_cases h1:j<o
  .rw[wE (by rw[uo];omega),wE (by rw[qu];exact h1),IV,if_pos h1,bd h3];show some (if o<=j/\j<o+new.toArray.size then _ else c[j])=_;rw[if_neg ag]
  .by_cases h2:j<o+new.length
   .rw[wE (by rw[uo];exact h2),Ao (by rw[qu];omega),qu,bd h3,bd ag];show some (if o<=j/\j<o+new.toArray.size then id new.toArray[j-o]! else c[j])=_;rw[if_pos ⟨ag,by rw[jd];exact h2⟩];exact ep some (Bu new.toArray (j-o) (by rw[jd];omega))
   .rw[Ao (by rw[uo];omega),uo,wQ,show o+new.length+(j-(o+new.length))=j by omega,bd h3];show some (if o<=j/\j<o+new.toArray.size then _ else c[j])=_;rw[if_neg (by rw[jd];omega)]
 .rw[Ao ag,Ao (by rw[hl3];omega),hl3];cases hr:aS[j-c.length]? with
  |none=>rfl
  |some x=>
   show some (if o<=j/\j<o+new.toArray.size then _ else x)=_;rw[if_neg (by rw[jd];omega)]
theorem QJ {α:Type}[Inhabited α]{enc:α->a6}(hp:0<k)(hk:∀x,(enc x).length=k){w:World}{a8 o m:Nat}{l:List α}{os:Array Obj}{c aS:a6}{e:TypeId}{fr:Nat×Nat}(hb:w.heap[a8]?=some (.cells ⟨c++aS⟩ e fr))(ho:o+l.length*k<=c.length):
  (sortWorldK enc k w a8 o m l.toArray os).heap[a8]?=some (.cells ⟨c.take o++l.flatMap enc++c.drop (o+l.length*k)++aS⟩ e fr)/\Fr w (sortWorldK enc k w a8 o m l.toArray os) λr=>r=a8:=by
 have dG:a8<w.heap.size:=(xp.1 hb).1;have Z0:(sortWorldK enc k w a8 o m l.toArray os).heap=w.heap.modify a8 (onCells (putCells id o (flatK enc k l.toArray)))++os:=rfl;have hl:=ph hk l;refine⟨?_,rfl,rfl,rfl,?_,λr hr fY=>?_⟩
 .rw[Z0,aae (by rw[Array.size_modify];exact dG),OD,if_pos rfl,hb,FF hp hk];show some (onCells _ (.cells ⟨c++aS⟩ e fr))=_;show some (Obj.cells (putCells id o (l.flatMap enc).toArray ⟨c++aS⟩) e fr)=_;rw[GC o _ c aS (by rw[hl];exact ho),hl]
 .rw[Z0,Array.size_append,Array.size_modify];omega
 .rw[Z0,aae (by rw[Array.size_modify];exact hr),OD,if_neg (λh=>fY h.symm)]
theorem Og {α:Type}[Inhabited α]{P:Program}{f g k:Nat}{dec:a6->Option (List α)}{enc:α->a6}{sort:List α->List α}{apart:List α->Bool}(hp:0<k)(hk:∀x,(enc x).length=k)(afn:∀cs l,dec cs=some l->cs=l.flatMap enc)(hg:∀x,∀v∈enc x,∀ρ,cw ρ v=v)(cX:∀l,(sort l).length=l.length)
  (H:∀(a8 off cap:Nat)(l:List α)(w:World),apart l=true->HoldsK enc k w a8 off l.toArray->a8<w.heap.size->l.length<=1000000->lT P f #[.slice (some ⟨a8,off,none⟩) l.length cap,.func (.func g) #[] #[]] w λv w'=>v= .tuple #[]/\∃m os,w'=sortWorldK enc k w a8 off m (sort l).toArray os):oa P f (LA g k dec enc sort apart):=by
 intro args s v s' h;unfold LA at h;split at h
 rotate_left
 .cases h
 rename_i b o n cap g';obtain⟨h1,h⟩:=bz h;obtain⟨c,e,u,hb,h⟩:=ml h;obtain⟨h2,h⟩:=bz h;obtain⟨l,h3,h⟩:=aD h;obtain⟨h4,h⟩:=bz h;have h:=aH h;simp only[cH] at h;obtain⟨rfl,rfl⟩:=h;rw[bO,bO] at h1;rw[bO] at h4;have hgg:=nR h1.1.1;subst hgg;have Q9:n<=1000000:=mT h1.2;have Sq:=nR h4.2;subst Sq;have h2:o+l.length*k<=c.length:=mT h2;have pj:=afn _ _ h3;have gP:∀l:List α,∀v∈l.flatMap enc,∀ρ,cw ρ v=v:=λl v hv ρ=>by
  obtain⟨x,_,hx⟩:=pC.1 hv;exact hg x v hx ρ
 have hbn:(s.aY b).heap.get b≠none:=by rw[iE,hb];exact Option.some_ne_none _
 have Z7:aG s ((s.aY b).put b (some (.cells (c.take o++(sort l).flatMap enc++c.drop (o+l.length*k)) e u))):=(aG.aY s b).trans (aG.put _ _ _ hbn);refine⟨Z7,λY A ρ w gD Dz aoA hl=>?_⟩;obtain⟨x',r,rfl,hx,hr⟩:=hl.iQ;obtain⟨y',r2,rfl,hy,nC⟩:=hr.iQ;have:r2=[]:=mO (by simpa using nC.length);subst this;have xD:y'= .func (.func g) ⟨[]⟩ ⟨[]⟩:=by rw[<-hy.self];simp
 rw[hx.fS,xD];have hYb:Y b:=Dz.cU b (fq _ _ _);obtain⟨hA,c',aS,fr,r1,r2,r3,r4,r5,r6⟩:=Dz.st.row hYb hb;have Oh:(c'.drop o).take (l.length*k)=l.flatMap enc:=by
  have h5:=((r2.drop o).take (l.length*k)).self;rw[<-h5,pj];exact(CW λx hx=>gP l x hx ρ).trans (List.map_id _)
 have hH:HoldsK enc k w (ρ b).1 o l.toArray:=by
  intro j hj;rw[size_flatK] at hj;have hj':j<l.length*k:=hj;have y1:o+j<c'.length:=by rw[r3];omega
  refine⟨?_,?_⟩
  .rw[vK r1,wE y1,FF hp hk];have h6:(c'.drop o).take (l.length*k)=l.flatMap enc:=Oh;have h7:((c'.drop o).take (l.length*k))[j]?=c'[o+j]?:=by rw[IV,if_pos hj',wQ]
   rw[<-h7,h6];(have Z9:j<(l.flatMap enc).length:=by rw[ph hk];exact hj');rw[bd Z9];exact ep some (Bu (l.flatMap enc).toArray j Z9).symm
  .obtain⟨lo,hi⟩:=fr;show(match w.heap[(ρ b).1]? with|some (.cells _ _ (lo,hi))=>decide (lo<=o+j)&&decide (o+j<hi)|_=>false)=false;rw[r1];rw[An,mg,mg];rcases r4 with h8|h8
   .simp only[cH] at h8;omega
   .rw[bL] at h8;dsimp only at h8;omega
 refine(H _ _ _ l w h4.1 hH (xp.1 r1).1 Q9).mono λv' w' ⟨hv,m,os,hw⟩=>?_
 subst hv hw;have RQ:=cX l;have Ou:o+(sort l).length*k<=c'.length:=by rw[RQ,r3];exact h2
 obtain⟨s1,s2⟩:=QJ (m:=m) (l:=sort l) (os:=os) hp hk r1 Ou;refine⟨ρ,VR.ground λρ=>by simp,Good.bk (o':=.cells (c.take o++(sort l).flatMap enc++c.drop (o+l.length*k)) e u) Dz.st Dz.eg hYb hb (λd=>?_) ?_ ?_ s1 ?_ s2⟩
 .rw[rl,iE]
 .rw[eh,cz]
 .exact jl _ _ _
 .have nB:(c.take o++(sort l).flatMap enc++c.drop (o+l.length*k)).length=c.length:=by
   rw[bL,bL,cW,eW,ph hk,RQ];omega
  refine⟨_,aS,fr,by rw[RQ],?_,λhu=>?_,λhu=>?_⟩
  .exact((r2.take o).append (λeK _=>(CW λx hx=>gP _ x hx eK).trans (List.map_id _))).append (r2.drop _)
  .rw[nB];exact r5 hu
  .rw[nB];exact r6 hu
end Go.Ev
namespace Go.Proofs
open Go Go.Shelf Go.RowKit Go.Lib Go.Sort Go.Ev
set_option maxHeartbeats 1000000 in
theorem acm (x y:Pl.a7)(W:World):Calls prog 136 #[.agg (qA x).toArray,.agg (qA y).toArray] W λe w'=>e= .returned (.int .i64 (Lib.compareBytes x.af y.af))/\∃q os',w'=grow (W.drewN q) os':=by
 have QK:=λW'=>Any.strings_Compare ach ⟨⟨x.af⟩⟩ ⟨⟨y.af⟩⟩ W'
 change ∀W',Calls prog 44 _ _ _ at QK;change Calls prog 136 #[.agg #[.string ⟨⟨x.af⟩⟩,.int .i64 x.id],.agg #[.string ⟨⟨y.af⟩⟩,.int .i64 y.id]] W _;generalize Lib.compareBytes x.af y.af=r at QK⊢
 go_enter func136,ntmps136
 go_wp2_with (go_at_call 44;refine(QK _).mono ?_;rintro e w' ⟨rfl,rfl⟩)
 go_ret
 exact⟨rfl,0,_,by rw[alloc_eq_grow,alloc_eq_grow,grow_grow];rfl⟩
set_option maxHeartbeats 1000000 in
theorem acn (x y:Pl.bP)(W:World):Calls prog 138 #[.agg (qB x).toArray,.agg (qB y).toArray] W λe w'=>e= .returned (.int .i64 (Lib.compareInt x.id y.id))/\∃q os',w'=grow (W.drewN q) os':=by
 have QK:=λW'=>AnyG.cmp_Compare_int age x.id y.id W'
 change ∀W',Calls prog 66 _ _ _ at QK;change Calls prog 138 #[.agg #[.int .i64 x.id,.bool x.aJ,.string ⟨⟨x.bq⟩⟩],.agg #[.int .i64 y.id,.bool y.aJ,.string ⟨⟨y.bq⟩⟩]] W _;generalize Lib.compareInt x.id y.id=r at QK⊢
 go_enter func138,ntmps138
 go_wp2_with (go_at_call 66;refine(QK _).mono ?_;rintro e w' ⟨rfl,rfl⟩)
 go_ret
 exact⟨rfl,0,_,by rw[alloc_eq_grow,alloc_eq_grow,grow_grow];rfl⟩
theorem agi:∀a b:List UInt8,Lib.compareBytes a b=AJ a b
 |[],[]=>rfl
 |[],_::_=>rfl
 |_::_,[]=>rfl
 |x::a,y::b=>by
  have ih:=agi a b;unfold AJ at ih⊢;unfold Lib.compareBytes;rw[Pl.qL,Pl.qL,ih];by_cases h1:x.toNat<y.toNat
  .rw[if_pos (SC.2 h1),if_pos h1];rfl
  .rw[if_neg (λh=>h1 (SC.1 h)),if_neg h1];by_cases h2:y.toNat<x.toNat
   .rw[if_pos (SC.2 h2),if_pos h2,if_neg h1,if_pos h2];rfl
   .rw[if_neg (λh=>h2 (SC.1 h)),if_neg h2,if_neg h2,if_neg h1]
theorem ltF (x y:Pl.a7):ltOf (λx y:Pl.a7=>Lib.compareBytes x.af y.af) x y=Pl.bS x.af y.af:=by
 show decide (Lib.compareBytes x.af y.af<0)=_;rw[agi];unfold AJ;cases h:Pl.bS x.af y.af with
 |true=>rfl
 |false=>cases h2:Pl.bS y.af x.af<;>rfl
theorem ltT (x y:Pl.bP):ltOf (λx y:Pl.bP=>Lib.compareInt x.id y.id) x y=decide (x.id<y.id):=by
 unfold ltOf Lib.compareInt;by_cases h1:x.id<y.id
 .simp[h1]
 .by_cases h2:y.id<x.id<;>simp[h1,h2]
theorem amO:SWO (ltOf λx y:Pl.a7=>Lib.compareBytes x.af y.af) where
 irrefl x:=by rw[ltF];exact Pl.kq _
 trans x y z h1 h2:=by rw[ltF] at *;exact Pl.fe _ _ _ h1 h2
 ntrans x y z h1 h2:=by
  rw[ltF] at *
  cases h3:Pl.bS y.af x.af with
  |false=>rw[Pl.lK _ _ h1 h3];exact h2
  |true=>
   cases h4:Pl.bS x.af z.af with
   |false=>rfl
   |true=>rw[Pl.fe _ _ _ h3 h4] at h2;cases h2
theorem amP:SWO (ltOf λx y:Pl.bP=>Lib.compareInt x.id y.id) where
 irrefl x:=by rw[ltT];simp
 trans x y z h1 h2:=by rw[ltT] at *;simp at *;omega
 ntrans x y z h1 h2:=by rw[ltT] at *;simp at *;omega
instance aoB:Inhabited Pl.a7:=⟨⟨[],0⟩⟩
instance aoC:Inhabited Pl.bP:=⟨⟨0,false,[]⟩⟩
theorem Sw {α:Type}[Inhabited α]{l:List α}{d:Array α}(h:PermIn 0 l.toArray.size l.toArray d):d.size=l.length/\d.toList.Perm l:=by obtain⟨h1,_,h2⟩:=h;have h1:d.size=l.length:=h1;refine⟨h1,?_⟩;rw[show(d.extract 0 l.toArray.size)=d by rw[show l.toArray.size=d.size from h1.symm];exact Array.extract_size,show l.toArray.extract 0 l.toArray.size=l.toArray from Array.extract_size] at h2;exact h2
theorem Sx {α:Type}[Inhabited α]{d:Array α}{n:Nat}(hn:d.size=n){lt:α->α->Bool}(h:SortedIn lt 0 n d):d.toList.Pairwise λx y=>lt y x=false:=by rw[uj];intro i j hi hj nD;have fF:i<d.size:=hi;have hj':j<d.size:=hj;have:=h i j (iG _) nD ag;rw[Bu d i fF,Bu d j hj'] at this;exact this
theorem Bh {α β:Type}{key:α->β}{R S:α->α->Prop}:∀{l:List α},(l.map key).Nodup->l.Pairwise R->(∀x y,R x y->key x≠key y->S x y)->l.Pairwise S
 |[],_,_,_=>QS
 |x::l,hn,hp,h=>by
  obtain⟨h1,h2⟩:=uN.1 hn;obtain⟨h3,h4⟩:=jZ.1 hp;exact jZ.2 ⟨λy hy=>h x y (h3 y hy) λe=>h1 (by rw[e];exact List.mem_map_of_mem hy),Bh h2 h4 h⟩
theorem aco {l:List Pl.a7}(ha:xJ l=true){d:Array Pl.a7}(hp:PermIn 0 l.toArray.size l.toArray d)(hs:SortedIn (ltOf λx y:Pl.a7=>Lib.compareBytes x.af y.af) 0 l.toArray.size d):d=(gS l).toArray:=by
 obtain⟨h1,h2⟩:=Sw hp;have hn:(l.map (·.af)).Nodup:=Bj ha;have G9:(d.toList.map (·.af)).Nodup:=(h2.map _).nodup_iff.2 hn;have h3:=Sx (n:=l.toArray.size) h1 hs;have h4:Pl.kM d.toList:=Bh (key:=λx:Pl.a7=>x.af) G9 h3 λx y Vt fY=>by
  rw[ltF] at Vt;cases h5:Pl.bS x.af y.af with
  |true=>rfl
  |false=>exact absurd (Pl.lK _ _ h5 Vt) fY
 have:=Pl.qN d.toList (gS l) h4 (Pl.ou l hn) λx=>by rw[Pl.ib];exact h2.mem_iff
 rw[<-this]
theorem acp {l:List Pl.bP}(ha:xK l=true){d:Array Pl.bP}(hp:PermIn 0 l.toArray.size l.toArray d)(hs:SortedIn (ltOf λx y:Pl.bP=>Lib.compareInt x.id y.id) 0 l.toArray.size d):d=(il l).toArray:=by
 obtain⟨h1,h2⟩:=Sw hp;have hn:(l.map (·.id)).Nodup:=Bj ha;have G9:(d.toList.map (·.id)).Nodup:=(h2.map _).nodup_iff.2 hn;have h3:=Sx (n:=l.toArray.size) h1 hs;have h4:Pl.gU d.toList:=Bh (key:=λx:Pl.bP=>x.id) G9 h3 λx y Vt fY=>by
  rw[ltT,mg] at Vt;omega
 have:=Pl.tY d.toList (il l) h4 (Pl.qO l hn) λx=>by rw[Pl.jw];exact h2.mem_iff
 rw[<-this]
theorem IQ (x:Pl.a7):∀l,(wI x l).length=l.length+1
 |[]=>rfl
 |y::l=>by
  unfold wI;split
  .rfl
  .rw[cY,IQ x l,cY]
theorem ug:∀l,(gS l).length=l.length
 |[]=>rfl
 |x::l=>by
  show(wI x (gS l)).length=_;rw[IQ,ug l,cY]
theorem IS (x:Pl.bP):∀l,(wJ x l).length=l.length+1
 |[]=>rfl
 |y::l=>by
  unfold wJ;split
  .rfl
  .rw[cY,IS x l,cY]
theorem FG:∀l,(il l).length=l.length
 |[]=>rfl
 |x::l=>by
  show(wJ x (il l)).length=_;rw[IS,FG l,cY]
theorem acq:∀(cs:a6)(l:List Pl.a7),Tg cs=some l->cs=l.flatMap qA:=by
 intro cs
 fun_induction Tg cs with
 |case1=>intro l h;cases h;rfl
 |case2 z i cs ih=>
  refine' za2
 |case3=>intro l h;cases h
theorem acr:∀(cs:a6)(l:List Pl.bP),Th cs=some l->cs=l.flatMap qB:=by
 intro cs
 fun_induction Th cs with
 |case1=>intro l h;cases h;rfl
 |case2 i b z cs ih=>
  refine' za2
 |case3=>intro l h;cases h
theorem acs (x:Pl.a7):∀v∈qA x,∀ρ,cw ρ v=v:=λv hv ρ=>by
 simp only[qA,bT,jg,jD] at hv;rcases hv with rfl|rfl<;>simp[cw]
theorem acu (x:Pl.bP):∀v∈qB x,∀ρ,cw ρ v=v:=λv hv ρ=>by
 simp only[qB,bT,jg,jD] at hv;rcases hv with rfl|rfl|rfl<;>simp[cw]
theorem amQ (x:Pl.a7):∀v∈qA x,v.oneCell'=true:=λv hv=>by
 simp only[qA,bT,jg,jD] at hv;rcases hv with rfl|rfl<;>rfl
theorem amR (x:Pl.bP):∀v∈qB x,v.oneCell'=true:=λv hv=>by
 simp only[qB,bT,jg,jD] at hv;rcases hv with rfl|rfl|rfl<;>rfl
theorem Vg:oa prog 135 (Wx 136):=Og bJ (λ_=>rfl) acq acs ug λa8 off cap l w ha hH hb hl=>by
 have h:=AnyQ.slices_SortFunc gS 2 isAgg39 sizeOf39 qA (λ_=>rfl) amQ (λx y=>Lib.compareBytes x.af y.af) amO 136 #[] a8 off cap l.toArray w (λargs w=>call136 args w) (λm os dk hs x y=>acm x y _) hH hb (by show l.length<_;omega);change Calls prog 135 _ _ _ at h;refine .inr ⟨135,_,w,call135 _ w,h.mono λe w' ⟨he,d',m,os,hp,hs,hw⟩=>⟨_,he,rfl,m,os,?_⟩⟩;rw[hw,aco ha hp hs]
theorem Vh:oa prog 137 (Wy 138):=Og bJ (λ_=>rfl) acr acu FG λa8 off cap l w ha hH hb hl=>by
 have h:=AnyQ.slices_SortFunc il 3 isAgg61 sizeOf61 qB (λ_=>rfl) amR (λx y=>Lib.compareInt x.id y.id) amP 138 #[] a8 off cap l.toArray w (λargs w=>call138 args w) (λm os dk hs x y=>acn x y _) hH hb (by show l.length<_;omega);change Calls prog 137 _ _ _ at h;refine .inr ⟨137,_,w,call137 _ w,h.mono λe w' ⟨he,d',m,os,hp,hs,hw⟩=>⟨_,he,rfl,m,os,?_⟩⟩;rw[hw,acp ha hp hs]
theorem Oi {w w':World}(h:Below w.heap.size w w'):Fr w w' λ_=>False:=⟨h.os,h.tape,h.output,h.size,λr hr _=>h.block r hr⟩
theorem GD (z:ByteArray)(ρ:iD):cw ρ (.string z)= .string z:=by simp[cw]
theorem Oj:oa prog 81 DG:=y9 λargs s v s' h=>by
 unfold DG at h;split at h
 rotate_left
 .cases h
 rename_i a b;have h:=aH h;simp only[cH] at h;obtain⟨rfl,rfl⟩:=h;refine⟨rfl,λρ=>yU _ _ _,λx hx ρ=>?_,λw=>?_⟩
 .simp only[bT,jg,jD] at hx;rcases hx with rfl|rfl<;>exact GD _ _
 .have h1:=Any.bytealg_CompareString acg ⟨⟨a⟩⟩ ⟨⟨b⟩⟩ w;change Calls prog 81 _ _ _ at h1;refine .inr ⟨81,_,w,call81 _ w,h1.mono λe w' ⟨he,hw⟩=>⟨_,he,?_,by rw[hw];exact Fr.refl _ _⟩⟩;exact ep (Value.int .i64) (agi a b)
theorem Z1 (z:List UInt8):∀n,Lib.repeatL z n=y8 z n
 |0=>rfl
 |n+1=>by unfold Lib.repeatL y8;rw[Z1 z n]
theorem QL:oa prog 87 Jx:=y9 λargs s v s' h=>by
 unfold Jx at h;split at h
 rotate_left
 .cases h
 rename_i z n;obtain⟨h0,h⟩:=bz h;have h:=aH h;simp only[cH] at h;obtain⟨rfl,rfl⟩:=h;rw[bO] at h0;have h1:z.length*n<=1000000:=mT h0.1;have h2:n<=1000000:=mT h0.2;refine⟨rfl,λρ=>GD _ _,λx hx ρ=>?_,λw=>?_⟩
 .simp only[bT,jg,jD] at hx;rcases hx with rfl|rfl
  .exact GD _ _
  .exact yU _ _ _
 .have h3:=Any.strings_Repeat Ah Tryz.Ai ⟨⟨z⟩⟩ n w ag (by show z.length*n<=_;omega);change Calls prog 87 _ _ _ at h3;refine .inr ⟨87,_,w,call87 _ w,h3.mono λe w' ⟨he,hw⟩=>⟨_,he,?_,Oi hw⟩⟩;rw[show Lib.repeatL (⟨⟨z⟩⟩:ByteArray).data.toList n=y8 z n from Z1 z n]
theorem IT:oa prog 188 DH:=y9 λargs s v s' h=>by
 unfold DH at h;split at h
 rotate_left
 .cases h
 rename_i z c;obtain⟨h0,h⟩:=bz h;have h:=aH h;simp only[cH] at h;obtain⟨rfl,rfl⟩:=h;have hc:c<256:=mT h0;refine⟨rfl,λρ=>yU _ _ _,λx hx ρ=>?_,λw=>?_⟩
 .simp only[bT,jg,jD] at hx;rcases hx with rfl|rfl
  .exact GD _ _
  .exact yU _ _ _
 .refine .inl ⟨_,w,?_,rfl,Fr.refl _ _⟩;rw[run_callFunc_extern func188 cV cV cV (e:=Extern.BytealgCount.count) cV,run_countString];have Vj:(UInt8.ofNat c).toNat=c:=by simp[IW hc]
  have h4:(Int.toNat (Int.ofNat c)).toUInt8=UInt8.ofNat c:=rfl;have h5:Lib.countByte z (UInt8.ofNat c)=ec (z.filter λb=>Nat.beq b.toNat c):=by
   unfold Lib.countByte;rw[dm,List.count_eq_length_filter]
   congr 1
   apply List.filter_congr;intro b _;rw[po];simp only[Ap,B7];rw[<-uJ,Vj]
  show Result.andThen (Result.ok _ w) _=_;rw[h4];show Result.ok (Next.value (.int .i64 ((Lib.countByte z (UInt8.ofNat c):Nat):Int))) w=_;rw[h5];rfl
theorem mixed:prog.follows .mixedOrders=true:=by kernel_rfl
theorem agj:∀p∈[((188:Nat),DH)],oa prog p.1 p.2:=λp hp=>by
 simp only[bT,jg,jD] at hp;subst hp;exact IT
theorem qE:dP prog (pH bh ahd 100000 [] 200):=DE adN (aj9 agj) mixed 100000 (tab:=[]) (λe he=>by cases he) 200
theorem runs {f:Nat}{args:a6}{v:Value}(h:WA f args v=true)(hv:∀ρ,cw ρ v=v)(ha:∀x∈args,∀ρ,cw ρ x=x)(w:World):lT prog f ⟨args⟩ w λv' w'=>v'=v/\Fr w w' λ_=>False:=by
 unfold WA at h;split at h
 .rename_i u s1 hc;have:=Wq _ _ h;subst this;exact run_pure qE (cG _) hc hv ha w
 .cases h
theorem FH:oa prog 85 vd:=y9 λargs s v s' h=>by
 unfold vd at h;split at h
 rotate_left
 .cases h
 rename_i z;obtain⟨h0,h⟩:=bz h;have h:=aH h;simp only[cH] at h;obtain⟨rfl,rfl⟩:=h;have ha:∀x∈[S z],∀ρ,cw ρ x=x:=λx hx ρ=>by rw[ix.1 hx];exact GD _ _
 exact⟨rfl,λρ=>GD _ _,ha,runs (gA.1 ahe z (Bj h0)) (λρ=>GD _ _) ha⟩
theorem FI (z:List UInt8):∀l:List (List UInt8),Lib.join l z=kZ z l
 |[]=>rfl
 |[x]=>by
  show(([x]:List (List UInt8)).intersperse z).flatten=x;simp
 |x::y::l=>by
  have ih:=FI z (y::l);show((x::y::l).intersperse z).flatten=x++(z++kZ z (y::l));rw[<-ih];show(x::z::(y::l).intersperse z).flatten=x++(z++((y::l).intersperse z).flatten);rw[List.flatten_cons,List.flatten_cons]
theorem acv:∀(cs:a6)(l:List Pl.az),O6 cs=some l->cs=l.map λz=>.string ⟨⟨z⟩⟩:=by
 intro cs
 fun_induction O6 cs with
 |case1=>intro l h;cases h;rfl
 |case2 z cs ih=>
  refine' za2
 |case3=>intro l h;cases h
theorem Z2:oa prog 147 (Wz 9):=by
 intro args s v s' h;unfold Wz at h;split at h
 rotate_left
 .cases h
 rename_i b o n cap z;obtain⟨c,e,u,hb,h⟩:=ml h;obtain⟨h1,h⟩:=bz h;obtain⟨l,h3,h⟩:=aD h;obtain⟨h4,h⟩:=bz h;have h:=aH h;simp only[cH] at h;obtain⟨rfl,rfl⟩:=h;rw[bO,bO,bO] at h1;obtain⟨⟨⟨k1,k2⟩,k3⟩,k4⟩:=h1;have k1:o+n<=c.length:=mT k1;have k3:1<=n:=mT k3;have k4:n<=1000:=mT k4;have h4:(kZ z l).length<=1000000:=mT h4;have pj:=acv _ _ h3;have Sq:l.length=n:=by
  have:=ep List.length pj;rw[cW,eW,td] at this;omega
 refine⟨aG.aY s b,λY A ρ w gD Dz gP hl=>?_⟩;obtain⟨x',r,rfl,hx,hr⟩:=hl.iQ;obtain⟨y',r2,rfl,hy,nC⟩:=hr.iQ;have:r2=[]:=mO (by simpa using nC.length);subst this;have xD:y'= .string ⟨⟨z⟩⟩:=by rw[<-hy.self];exact GD _ _
 rw[hx.fS,xD];have hYb:Y b:=Dz.cU b (gi s b);obtain⟨hA,c',aS,fr,r1,r2,r3,r4,r5,r6⟩:=Dz.st.row hYb hb;have Oh:(c'.drop o).take n=l.map λz=>.string ⟨⟨z⟩⟩:=by
  have h5:=((r2.drop o).take n).self;rw[<-h5,pj];exact(CW λx hx=>by
   obtain⟨q,_,rfl⟩:=jK.1 hx;exact GD _ _).trans (List.map_id _)
 have qq:∀(j:Nat)(q:List UInt8),l[j]?=some q->w.cell? ⟨(ρ b).1,o+j,none⟩=some (.string ⟨⟨q⟩⟩):=λj q hj=>by
  have hjn:j<n:=by rw[<-Sq];exact(te.1 hj).1
  have h7:((c'.drop o).take n)[j]?=c'[o+j]?:=by rw[IV,if_pos hjn,wQ]
  rw[vK r1,wE (by rw[r3];omega),<-h7,Oh,Ar,hj];rfl
 have u0:n<=dq (ρ b) cap:=by
  unfold dq;rw[mf,bO,bO,bO] at k2;rcases k2 with⟨k5,k6⟩|⟨⟨k5,k6⟩,k7⟩
  .have k5:cap<ew:=mT k5;rw[if_neg ag];exact mT k6
  .have k5:ew<=cap:=mT k5;have k6:=nR k6;have k7:=nR k7;subst k7;rw[if_pos k5,<-k6];have k8:prog.cellsOf 9=1:=by kernel_rfl
   cases u with
   |true=>
    have:=(r5 rfl).2.1;rw[k8] at this;omega
   |false=>
    have:=(r6 rfl).2;omega
 have hbk:(ρ b).1<w.heap.size:=(xp.1 r1).1;have T8:∀(v':Value)(w':World),v'= .string ⟨⟨kZ z l⟩⟩->(Fr w w' λ_=>False)->pw prog Y A ρ s (s.aY b) w (.string ⟨⟨kZ z l⟩⟩) v' w':=λv' w' e hf=>by
  subst e;exact⟨ρ,VR.ground λρ=>GD _ _,Good.aee Dz.st Dz.eg (cz _ _) (iE _ _) hf⟩
 subst Sq;by_cases h2:2<=l.length
 .have hj:(l.map λz=>(⟨⟨z⟩⟩:ByteArray)).map (·.data.toList)=l:=by rw[List.map_map];exact List.map_id _
  have h6:=Any.strings_Join_many Sr Tryz.rN (ρ b).1 o (dq (ρ b) cap) (l.map λz=>⟨⟨z⟩⟩) ⟨⟨z⟩⟩ w (λj x hj=>by
   rw[Ar] at hj;obtain⟨q,h8,rfl⟩:=Option.map_eq_some_iff.1 hj;exact qq j q h8) hbk (by rw[td];exact h2) (by rw[td];omega) (by rw[td];exact u0) (by
   rw[hj,FI];exact gK h4 bJ)
  rw[hj,FI,td] at h6;change Calls prog 147 _ _ _ at h6;exact .inr ⟨147,_,w,call147 _ w,h6.mono λe w' ⟨he,hw⟩=>⟨_,he,T8 _ _ rfl (Oi hw)⟩⟩
 .obtain⟨q,rfl⟩:∃q,l=[q]:=by
   cases l with
   |nil=>simp at k3
   |cons q l=>cases l with
    |nil=>exact⟨q,rfl⟩
    |cons _ _=>simp at h2
  have h6:=Any.strings_Join_one Sr Tryz.rN (ρ b).1 o (dq (ρ b) cap) ⟨⟨q⟩⟩ ⟨⟨z⟩⟩ w (qq 0 q rfl);change Calls prog 147 _ _ _ at h6;exact .inr ⟨147,_,w,call147 _ w,h6.mono λe w' ⟨he,hw⟩=>⟨_,he,T8 _ _ rfl (by rw[hw];exact Fr.refl _ _)⟩⟩
theorem agk:∀p∈bw.wV,oa prog p.1 p.2:=λp hp=>by
 simp only[bw,bT,jg,jD] at hp;rcases hp with rfl|rfl|rfl|rfl|rfl|rfl|rfl
 .exact Vg
 .exact Vh
 .exact Oj
 .exact QL
 .exact FH
 .exact IT
 .exact Z2
theorem aka:Wo bh prog bw:=aj9 agk
end Go.Proofs
