/- Lemmas of the proof. No conditions. -/
import Derived.Test.YtjaeddbblleomaaGreatDoorAe10
set_option maxRecDepth 100000
set_option maxHeartbeats 4000000
set_option linter.unusedVariables false
set_option linter.unusedSimpArgs false
open Go.Proofs.Tryz
namespace Go.Pl
open Go Go.Ev Go.Lg Go.Proofs
theorem X1 (s:St)(br:Nat)(a:aH)(code:ay)(c p:Nat)(hc:code.length<=2000)(hp:p<=70000)(hr:uW s a code)(hm:∀i∈ai a,i∉[nU br a code.length c p].flatMap It.aS):
  X0 aU aW 21 [aP br] s br a code c p 3000:=by
 have hd:s9 ⟨s,[nU br a code.length c p].flatMap It.aS,ai a⟩ a code:=⟨hr,λb hb=>hb,hm⟩;have Bg:jE.length=6:=rfl;refine aO f21 ?_;(repeat' (first|refine' aX|refine' AM|((with_reducible apply WO.callN0);exact aD;(first|exact λs=>Mr s _);intro _ _ v_StoreNewC _ _)|((with_reducible apply WO.Wd);exact aD;(first|exact λs hr=>MB s _ _ hr);exact qhasv;intro _ _ v_FilesNewC _ _)|((with_reducible apply WO.Iw);exact aD;(first|exact λs=>Mm s);intro _ _ QL QM _ _)|refine' ar|fail))
 all_goals try refine cI
 obtain⟨j0,rfl⟩:∃j0:Nat,C8=j0:=⟨C8.toNat,af⟩;refine W.bH (λk l L=>∃(j:Nat)(st:ak)(t:bX)(v:SA)(p1 b2 b3 b4 b5:Nat),Le [(0,aP br),(2,aP b2),(3,aP b3),(4,aP b4),(5,aP b5),(7,.slice QL jE.length QM),(8,iv (j:Int))] l/\cr (nU br a code.length c p1:: .box b2 [eW,eW,eW,cg,eW,cg,eW,.bool false] 58 false:: .box b3 [cg,cg,cg,cg,cg,cg,cg] 62 false:: .box b4 (rz v st) 58 false:: .box b5 (gU t) 62 false:: .aJ (.slice QL jE.length QM) 28 5 (ah jE)::eM v st) L/\k=j/\j<=6/\Pg.FS st t/\du (130+1730*(6-j)) st/\dZ t/\p1<=p+2)
                                                       (λl L=>∃(j:Nat)(st:ak)(t:bX)(v:SA)(p1 b2 b3 b4 b5:Nat),Le [(0,aP br),(2,aP b2),(3,aP b3),(4,aP b4),(5,aP b5)] l/\cr (nU br a code.length c p1:: .box b2 [eW,eW,eW,cg,eW,cg,eW,.bool false] 58 false:: .box b3 [cg,cg,cg,cg,cg,cg,cg] 62 false:: .box b4 (rz v st) 58 false:: .box b5 (gU t) 62 false::eM v st) L/\j=0/\Pg.FS st t/\du (130+1730*6) st/\dZ t/\p1<=p+2) _ ⟨j0,_,_,_,_,_,_,_,_,bd,aq,rfl,af,Pg.Ml _,(My _).1.mono af,(My _).2,af⟩ ?_ ?_
 .rintro k l L ⟨j,st,t,v,p1,b2,b3,b4,b5,hl,hL,rfl,h1,h2,h3,h4,h5⟩;refine W.le ?_ hl hL;clear hl hL;rcases vC k with h0|h0
  .subst h0;(refine' cO)
   all_goals try refine cI
   all_goals exact⟨0,st,t,v,p1,_,_,_,_,bd,aq,rfl,h2,h3,h4,h5⟩
  .have EG:((jE.length:Int)-(k:Int)).toNat<jE.length:=by omega
   obtain⟨ho,sC,tF⟩:=Tr _ (aF EG c9.lW);have iK:∀(dI:SA) s,eP aU aW 56 [fF dI st,tv t,ov (jE.getD ((jE.length:Int)-(k:Int)).toNat c9.lW)] s [] dI st (eS st t (jE.getD ((jE.length:Int)-(k:Int)).toNat c9.lW)).1 true (doV (eS st t (jE.getD ((jE.length:Int)-(k:Int)).toNat c9.lW)).2.1 (eS st t (jE.getD ((jE.length:Int)-(k:Int)).toNat c9.lW)).2.2):=λdI s=>MC s dI st t (h3.mono af) h4 h2 _ ho sC tF
   have g1:=Pg.QF h2 ho;have g2:=Eh h3 af h4 h2 ho;generalize eS st t (jE.getD ((jE.length:Int)-(k:Int)).toNat c9.lW)=r at iK g1 g2;obtain⟨cQ,t',cd⟩:=r;dsimp only at iK g1 g2;(repeat' (first|refine' aX|((with_reducible apply WO.mQ);exact aD;(first|exact λs=>iK _ s);exact eu;intro _ _ X2 _ _ k_l16DoW)|refine' ar|fail))
   all_goals try refine cI
   all_goals exact⟨k-1,af,k-1,cQ,t',X2,p1,_,_,_,_,by(rw[show((k-1:Nat):Int)=(k:Int)-1 by omega];exact bd),aq,rfl,af,g1,g2.1.mono af,g2.2,h5⟩
 .rintro l L ⟨j,st,t,v,p1,b2,b3,b4,b5,hl,hL,-,h2,h3,h4,h5⟩;refine aj ?_;refine W.le ?_ hl hL;clear hl hL;(repeat' (first|refine' aX|refine' AM|refine' ar|fail))
  obtain⟨j1,rfl⟩:∃j1:Nat,C8=j1:=⟨C8.toNat,af⟩;refine W.bH (λk l L=>∃(j:Nat)(st:ak)(t:bX)(v:SA)(p1 b2 b3 b4 b5:Nat),Le [(0,aP br),(2,aP b2),(3,aP b3),(4,aP b4),(5,aP b5),(9,iv (j:Int))] l/\cr (nU br a code.length c p1:: .box b2 [eW,eW,eW,cg,eW,cg,eW,.bool false] 58 false:: .box b3 [cg,cg,cg,cg,cg,cg,cg] 62 false:: .box b4 (rz v st) 58 false:: .box b5 (gU t) 62 false::eM v st) L/\k=j/\j<=11/\Pg.FS st t/\du (10510+1731*(11-j)) st/\dZ t/\p1<=p+3+221*(11-j))
                                                        (λl L=>∃(j:Nat)(st:ak)(t:bX)(v:SA)(p1 b2 b3 b4 b5:Nat),Le [(0,aP br),(2,aP b2),(3,aP b3),(4,aP b4),(5,aP b5)] l/\cr (nU br a code.length c p1:: .box b2 [eW,eW,eW,cg,eW,cg,eW,.bool false] 58 false:: .box b3 [cg,cg,cg,cg,cg,cg,cg] 62 false:: .box b4 (rz v st) 58 false:: .box b5 (gU t) 62 false::eM v st) L/\j=0/\Pg.FS st t/\du (10510+1731*11) st/\dZ t/\p1<=p+3+221*11) _ ⟨j1,st,t,v,mR,_,_,_,_,bd,aq,rfl,af,h2,h3.mono af,h4,af⟩ ?_ ?_
  .clear h2 h3 h4;rintro k l L ⟨j,st,t,v,p1,b2,b3,b4,b5,hl,hL,rfl,h1,h2,h3,h4,h5⟩;refine W.le ?_ hl hL;clear hl hL;rcases vC k with h0|h0
   .subst h0;(refine' cO)
    all_goals try refine cI
    all_goals exact⟨0,st,t,v,p1,_,_,_,_,bd,aq,rfl,h2,h3,h4,h5⟩
   .have hs70:du 70000 st:=h3.mono af;have hg30:st.cG.length<=30000:=ku h3.gl af;have iK:∀o,OpD o->iJ o=true->∀(dI:SA) s,eP aU aW 56 [fF dI st,tv t,ov o] s [] dI st (eS st t o).1 true (doV (eS st t o).2.1 (eS st t o).2.2):=λo hD ho dI s=>MC s dI st t (h3.mono af) h4 h2 o ho (ze _ hD.ag) (ze _ hD.to)
    have g1:∀o,iJ o=true->Pg.FS (eS st t o).1 (eS st t o).2.1/\du (12240+1731*(11-k)) (eS st t o).1/\dZ (eS st t o).2.1:=λo ho=>⟨Pg.QF h2 ho,(Eh h3 af h4 h2 ho).1.mono af,(Eh h3 af h4 h2 ho).2⟩
    have Vl:∀o,iJ o=true->∀(dI:SA) s,eP aU aW 57 [fF dI (eS st t o).1] s [] dI (eS st t o).1 (next (eS st t o).1) true id:=λo ho dI s=>Hs s dI _ ((g1 o ho).2.1.mono af) (ku (g1 o ho).2.1.gl af)
    have RS:∀(dI:SA) s,eP aU aW 57 [fF dI st] s [] dI st (next st) true id:=λdI s=>Hs s dI st hs70 hg30
    have fZ:∀o,OpD o->∀s,bO 16 [ov o] s [] (.bool (iJ o)):=λo hD s=>QK s o (ku (ze _ hD.ag) af) (ku (ze _ hD.to) af) (ku hD.bh af)
    (repeat' (first|refine' aX|refine' zc201|refine' AM|((with_reducible apply WO.bG);exact aD;(first|exact λs=>fZ _ Wk s);intro _ _ _ _)|((with_reducible apply WO.mQ);exact aD;(first|exact λs=>iK _ Wk (by assumption) _ s);exact eu;intro _ _ X3 _ _ k_l16DoV)|((with_reducible apply WO.mQ);exact aD;(first|exact λs=>Vl _ (by assumption) _ s|exact λs=>RS _ s);exact eu;intro _ _ Hw _ _ k_l7NextV)|refine' ar|fail))
    all_goals try refine cI
    .obtain⟨f1,f2,f3⟩:=g1 Da (by assumption);exact⟨k-1,af,k-1,next (eS st t Da).1,(eS st t Da).2.1,Hw,mR,_,_,_,_,by(rw[show((k-1:Nat):Int)=(k:Int)-1 by omega];exact bd),aq,rfl,af,Pg.BX f1,(MA f2 (Pg.BX f1)).mono af,f3,af⟩
    .obtain⟨f1,f2,f3⟩:=g1 Da (by assumption);exact⟨k-1,af,k-1,(eS st t Da).1,(eS st t Da).2.1,X3,mR,_,_,_,_,by(rw[show((k-1:Nat):Int)=(k:Int)-1 by omega];exact bd),aq,rfl,af,f1,f2.mono af,f3,af⟩
    .exact⟨k-1,af,k-1,next st,t,Hw,mR,_,_,_,_,by(rw[show((k-1:Nat):Int)=(k:Int)-1 by omega];exact bd),aq,rfl,af,Pg.BX h2,(MA h3 (Pg.BX h2)).mono af,h4,af⟩
    .exact⟨k-1,af,k-1,st,t,v,mR,_,_,_,_,by(rw[show((k-1:Nat):Int)=(k:Int)-1 by omega];exact bd),aq,rfl,af,h2,h3.mono af,h4,af⟩
  .rintro l L ⟨j,st,t,v,p1,b2,b3,b4,b5,hl,hL,-,h2,h3,h4,h5⟩;refine aj ?_;refine W.le ?_ hl hL;clear hl hL;(refine' cO)
   all_goals exact⟨bB,_,_,bj,aq,p1,v,st,t,af,h2,h3.mono af,h4,rfl,rfl⟩
end Go.Pl
namespace Go.Pl
open Go Go.Ev Go.Lg Go.Proofs
variable {z:ay}{f:Flat}
theorem Dd (s:St)(a:aH)(c:Nat)(p:dx)(a':aH)(c':Nat)(q:eV)(hp:p.length<=10000)(hq:q.length<=10000)(h1:bM s a p.length 2 (ah p))(h2:bM s a' q.length 3 (ah q)):
  AJ 17 [.agg ⟨fT a c p a' c' q⟩] s [] (ai a++ai a') λR L=>∃b d b' d',R= .agg ⟨fT b d p b' d' q⟩/\L=[cj b d p,dD b' d' q]:=by
 have hd1:Rd ⟨s,([]:bn).flatMap It.aS,ai a++ai a'⟩ a p.length 2 (ah p):=Rd.of h1 λ_ hb=>di _ hb
 refine' zbd
 refine aO f17 ?_;(refine' cO)
 exact⟨bB,_,_,bj,aq,_,_,_,_,rfl,rfl⟩
def A6 (z:ay):Prop:=z.length<=800/\(∀c∈z,c.toNat<128)/\(z.take 2=[47,47]->z.length=2)
instance(z:ay):Decidable (A6 z):=by unfold A6;infer_instance
theorem pathsD:∀z∈xp,A6 z:=by decide
theorem Hx (h:bT z=true):1<=z.length/\z.length<=4/\∀c∈z,97<=c.toNat/\c.toNat<=122:=by
 unfold bT at h;simp only[cv,iM,cl] at h;exact⟨h.1.2,h.2,h.1.1⟩
theorem goodD (h:Pg.uU 146 z):A6 z:=by
 have hl:=h.len;obtain⟨ad,h1,h2,rfl⟩:=h;refine⟨af,?_,?_⟩
 .unfold pathOf;split
  .intro c hc;rw[iN] at hc;subst hc;decide
  .intro c hc;obtain⟨w,hw,hcw⟩:=List.mem_flatten.1 hc;obtain⟨n,hn,rfl⟩:=n9.1 hw;rcases bV.1 hcw with rfl|hcn
   .decide
   .have:=(Hx (h1 n hn)).2.2 c hcn;omega
 .unfold pathOf;split
  .intro h;cases h
  .rename_i gx;cases ad with
   |nil=>exact absurd rfl gx
   |cons n l=>
    have hb:=Hx (h1 n (by simp));intro h;exfalso;cases n with
    |nil=>simp at hb
    |cons c n=>
     have:=hb.2.2 c (by simp);simp at h;rw[h] at this
     revert this;decide
structure ga (f:Flat):Prop where
 nl:f.ad.length<=144
 tl:f.ae.length<=16
 nm:∀x∈f.ad,A6 x.ag/\0<=x.id/\x.id<=16
 th:∀x∈f.ae,0<=x.id/\x.id<=16/\x.bh.length<=192
theorem ga.of (h:Pg.FlatB f):ga f:=⟨h.nl,h.tl,λx hx=>by have:=h.nm x hx;exact⟨goodD this.1,af⟩,λx hx=>by have:=h.th x hx;omega⟩
theorem ga.setN (h:ga f)(i:Nat){q:Fnd}(hq:A6 q.ag/\0<=q.id/\q.id<=16):ga ⟨f.ad.set i q,f.ae⟩:=
 ⟨by rw[gZ];exact h.nl,h.tl,λx hx=>by
  rcases Pp hx with hx|rfl
  .exact h.nm x hx
  .exact hq,h.th⟩
theorem ga.setT (h:ga f)(i:Nat){q:bU}(hq:0<=q.id/\q.id<=16/\q.bh.length<=192):ga ⟨f.ad,f.ae.set i q⟩:=
 ⟨h.nl,by rw[gZ];exact h.tl,h.nm,λx hx=>by
   rcases Pp hx with hx|rfl
   .exact h.th x hx
   .exact hq⟩
theorem ga.cut (h:ga f)(i:Nat):ga ⟨f.ad.take i,f.ae⟩:=
 ⟨by rw[dg];have:=h.nl;omega,h.tl,λx hx=>h.nm x (M6 hx),h.th⟩
end Go.Pl
namespace Go.Pl
open Go Go.Ev Go.Lg Go.Proofs
section
variable {E:dy}{X:dM}{Γ:gY}{l:Kn}{L R:bn}{K:KO}{g:FuncId}{xs:List Operand}{ts:Array TypeId}{vs:aQ}{a a':aH}{br c c' p d n:Nat}{code:ay}{v:SA}{st:ak}
theorem WO.callDS (hx:ky l xs vs)(hp:oz [nU br a code.length c p] L R)(hh:s9 Γ a code)(h:∀s,uW s a code->(∀i∈ai a,i∉[nU br a code.length c p].flatMap It.aS)->X0 E X g vs s br a code c p d)(k:∀m m' p' v' st t,p'<=p+d->Pg.FS st t->du 30000 st->dZ t->kb L m->m<=m'->K (.tuple ⟨[fF v' st,tv t]⟩) (nU br a code.length c p'::(eM v' st++R)) m m' (λi=>i∈ai a\/i∈[nU br a code.length c p].flatMap It.aS\/(m<=i/\i<m')) (λi=>i∈[nU br a code.length c p].flatMap It.aS\/(m<=i/\i<m'))):WO E X Γ l (.call ⟨.value (.func g),⟨xs⟩,ts⟩) L K:=
 WO.call (Lm:=[nU br a code.length c p]) (R:=R) hx hp.cR (λs hi=>(hh.row (hi.cR hp.cR|>.sub ⟨R,.refl _,np _ _⟩)).2) (λs hi=>h s (hh.row (hi.cR hp.cR|>.sub ⟨R,.refl _,np _ _⟩)).1 (s9.apart hh (hi.cR hp.cR))) (by rintro r' L' m m' ho hm ⟨p',v',st,t,h1,h2,h3,h4,rfl,rfl⟩;exact k m m' p' v' st t h1 h2 h3 h4 ho hm)
theorem WO.callOf {f:Flat}(hx:ky l xs vs)(h:∀s,cJ s v st->fI E X g vs s [] (im v) λR L=>∃a c a' c',R= .tuple ⟨[.agg ⟨fT a c f.ad a' c' f.ae⟩,.bool true]⟩/\L=[cj a c f.ad,dD a' c' f.ae])(hh:qQ Γ L v st)(k:∀m m' a c a' c',kb L m->m<=m'->K (.tuple ⟨[.agg ⟨fT a c f.ad a' c' f.ae⟩,.bool true]⟩) (cj a c f.ad::dD a' c' f.ae::L) m m' (λi=>i∈im v\/i∈([]:bn).flatMap It.aS\/(m<=i/\i<m')) (λi=>i∈([]:bn).flatMap It.aS\/(m<=i/\i<m'))):WO E X Γ l (.call ⟨.value (.func g),⟨xs⟩,ts⟩) L K:=
 WO.call (Lm:=[]) (R:=L) (A:=im v) hx (.refl _) (λs hi b hb=>(hh.row hi).2 b hb) (λs hi=>h s (hh.row hi).1) (by rintro r L' m m' ho hm ⟨a,c,a',c',rfl,rfl⟩;exact k m m' a c a' c' ho hm)
theorem WO.N2 {q1:dx}{q2:eV}(hx:ky l xs vs)(h:∀s,bM s a q1.length 2 (ah q1)->bM s a' q2.length 3 (ah q2)->fI E X g vs s [] (ai a++ai a') λR L=>∃b d b' d',R= .agg ⟨fT b d q1 b' d' q2⟩/\L=[cj b d q1,dD b' d' q2])(h1:jR Γ L a q1.length 2 (ah q1))(h2:jR Γ L a' q2.length 3 (ah q2))(k:∀m m' b d b' d',kb L m->m<=m'->K (.agg ⟨fT b d q1 b' d' q2⟩) (cj b d q1::dD b' d' q2::L) m m' (λi=>i∈ai a++ai a'\/i∈([]:bn).flatMap It.aS\/(m<=i/\i<m')) (λi=>i∈([]:bn).flatMap It.aS\/(m<=i/\i<m'))):WO E X Γ l (.call ⟨.value (.func g),⟨xs⟩,ts⟩) L K:=
 WO.call (Lm:=[]) (R:=L) (A:=ai a++ai a') hx (.refl _) (λs hi b hb=>by
   rcases fJ.1 hb with hb|hb
   .exact(h1.row hi).2 b hb
   .exact(h2.row hi).2 b hb) (λs hi=>h s (h1.row hi).1 (h2.row hi).1) (by rintro r L' m m' ho hm ⟨b,d,b',d',rfl,rfl⟩;exact k m m' b d b' d' ho hm)
end
abbrev X4 (E:dy)(X:dM)(g:FuncId)(vs:aQ)(s:St)(br:Nat)(a:aH)(code:ay)(c p d:Nat):Prop:=fI E X g vs s [nU br a code.length c p] (ai a) λR L=>∃(p':Nat)(f:Flat)(an:aH)(cn:Nat)(a0:aH)(p0:dx)(c0:Nat)(at_:aH)(ct:Nat),p'<=p+d/\ga f/\Sub 2 a0 p0 an f.ad/\R= .agg ⟨fT an cn f.ad at_ ct f.ae⟩/\L=[nU br a code.length c p',cj a0 c0 p0,dD at_ ct f.ae]
theorem QN {E:dy}{l:Kn}{L:bn}{a:aH}{br c p d:Nat}{code:ay}{rs:List ResultVar}{x:Ex}{p':Nat}{f:Flat}{an:aH}{cn:Nat}{a0:aH}{p0:dx}{c0:Nat}{at_:aH}{ct:Nat}(hx:x= .normal\/x= .ret)(hr:pV E l L rs [.agg ⟨fT an cn f.ad at_ ct f.ae⟩])(hL:cr [nU br a code.length c p',cj a0 c0 p0,dD at_ ct f.ae] L)(hp:p'<=p+d)(hs:Sub 2 a0 p0 an f.ad)(hD:ga f):
  ux E rs (λR L=>∃(p':Nat)(f:Flat)(an:aH)(cn:Nat)(a0:aH)(p0:dx)(c0:Nat)(at_:aH)(ct:Nat),p'<=p+d/\ga f/\Sub 2 a0 p0 an f.ad/\R= .agg ⟨fT an cn f.ad at_ ct f.ae⟩/\L=[nU br a code.length c p',cj a0 c0 p0,dD at_ ct f.ae]) x l L:=⟨hx,_,_,hr,hL,p',f,an,cn,a0,p0,c0,at_,ct,hp,hD,hs,rfl,rfl⟩
theorem X5 {E:dy}{l:Kn}{L:bn}{a:aH}{br c p d:Nat}{code:ay}{rs:List ResultVar}{x:Ex}{p':Nat}{nm:dx}{th:eV}{an:aH}{cn:Nat}{at_:aH}{ct i:Nat}{q:Fnd}(hx:x= .normal\/x= .ret)(hr:pV E l L rs [.agg ⟨fT an cn nm at_ ct th⟩])(hL:cr [nU br a code.length c p',.aJ (.slice an nm.length cn) 70 2 (ah (nm.set i q)),dD at_ ct th] L)(hp:p'<=p+d)(hD:ga ⟨nm.set i q,th⟩):ux E rs (λR L=>∃(p':Nat)(f:Flat)(an:aH)(cn:Nat)(a0:aH)(p0:dx)(c0:Nat)(at_:aH)(ct:Nat),p'<=p+d/\ga f/\Sub 2 a0 p0 an f.ad/\R= .agg ⟨fT an cn f.ad at_ ct f.ae⟩/\L=[nU br a code.length c p',cj a0 c0 p0,dD at_ ct f.ae]) x l L:=by
 have e:(nm.set i q).length=nm.length:=gZ;refine QN (f:=⟨nm.set i q,th⟩) (an:=an) (cn:=cn) (a0:=an) (p0:=nm.set i q) (c0:=cn) (at_:=at_) (ct:=ct) hx ?_ ?_ hp Sub.all hD
 .dsimp only[fT];rw[e];exact hr
 .dsimp only[cj];rw[e];exact hL
end Go.Pl
