/- Lemmas of the proof. No conditions. -/
import Derived.Test.YtajgfdfbnhchcaaGreatDoorAe7
set_option maxRecDepth 100000
set_option maxHeartbeats 4000000
set_option linter.unusedVariables false
set_option linter.unusedSimpArgs false
open Go.Proofs.Tryz
namespace Go.Pl
open Go Go.Ev Go.Lg Go.Proofs
theorem YK (s:St)(br:Nat)(a:aK)(code:aA)(c p:Nat)(hc:code.length<=2000)(hp:p<=70000)(hr:pH s a code)(hm:∀i∈aj a,i∉[oo br a code.length c p].flatMap It.aY):
  YJ a8 bj 36 [bc br] s br a code c p 3000:=by
 have hd:sy ⟨s,[oo br a code.length c p].flatMap It.aY,aj a⟩ a code:=⟨hr,λb hb=>hb,hm⟩;have BR:jO.length=6:=rfl;refine aU f36 ?_;(repeat' (first|refine' a7|refine' Bl|((with_reducible apply WO.aeR);exact aE;(first|exact λs=>MV s _);intro _ _ ac8 _ _)|((with_reducible apply WO.WZ);exact aE;(first|exact λs hr=>M7 s _ _ hr);exact acg;intro _ _ ac9 _ _)|((with_reducible apply WO.I1);exact aE;(first|exact λs=>MQ s);intro _ _ Rq Rr _ _)|refine' aw|fail))
 all_goals try refine cM
 obtain⟨j0,rfl⟩:∃j0:Nat,DL=j0:=⟨DL.toNat,ag⟩;refine W.bN (λk l L=>∃(j:Nat)(st:ar)(t:bX)(v:SA)(p1 b2 b3 b4 b5:Nat),Le [(0,bc br),(2,bc b2),(3,bc b3),(4,bc b4),(5,bc b5),(7,.slice Rq jO.length Rr),(8,iv (j:Int))] l/\cz (oo br a code.length c p1:: .box b2 [eW,eW,eW,cb,eW,cb,eW,.bool false] 81 false:: .box b3 [cb,cb,cb,cb,cb,cb,cb] 85 false:: .box b4 (rP v st) 81 false:: .box b5 (hU t) 85 false:: .aN (.slice Rq jO.length Rr) 28 5 (ai jO)::eO v st) L/\k=j/\j<=6/\Pg.FS st t/\dv (130+1730*(6-j)) st/\eb t/\p1<=p+2)
                                                       (λl L=>∃(j:Nat)(st:ar)(t:bX)(v:SA)(p1 b2 b3 b4 b5:Nat),Le [(0,bc br),(2,bc b2),(3,bc b3),(4,bc b4),(5,bc b5)] l/\cz (oo br a code.length c p1:: .box b2 [eW,eW,eW,cb,eW,cb,eW,.bool false] 81 false:: .box b3 [cb,cb,cb,cb,cb,cb,cb] 85 false:: .box b4 (rP v st) 81 false:: .box b5 (hU t) 85 false::eO v st) L/\j=0/\Pg.FS st t/\dv (130+1730*6) st/\eb t/\p1<=p+2) _ ⟨j0,_,_,_,_,_,_,_,_,bk,au,rfl,ag,Pg.MP _,(M4 _).1.mono ag,(M4 _).2,ag⟩ ?_ ?_
 .rintro k l L ⟨j,st,t,v,p1,b2,b3,b4,b5,hl,hL,rfl,h1,h2,h3,h4,h5⟩;refine W.le ?_ hl hL;clear hl hL;rcases wc k with h0|h0
  .subst h0;(refine' cU)
   all_goals try refine cM
   all_goals exact⟨0,st,t,v,p1,_,_,_,_,bk,au,rfl,h2,h3,h4,h5⟩
  .have FW:((jO.length:Int)-(k:Int)).toNat<jO.length:=by omega
   obtain⟨ho,sS,tZ⟩:=T8 _ (aJ FW ak.ah);have iX:∀(dI:SA) s,eQ a8 bj 76 [fD dI st,tv t,ov (jO.getD ((jO.length:Int)-(k:Int)).toNat ak.ah)] s [] dI st (eT st t (jO.getD ((jO.length:Int)-(k:Int)).toNat ak.ah)).1 true (doV (eT st t (jO.getD ((jO.length:Int)-(k:Int)).toNat ak.ah)).2.1 (eT st t (jO.getD ((jO.length:Int)-(k:Int)).toNat ak.ah)).2.2):=λdI s=>M8 s dI st t (h3.mono ag) h4 h2 _ ho sS tZ
   have g1:=Pg.Rk h2 ho;have g2:=EU h3 ag h4 h2 ho;generalize eT st t (jO.getD ((jO.length:Int)-(k:Int)).toNat ak.ah)=r at iX g1 g2;obtain⟨cQ,t',cd⟩:=r;dsimp only at iX g1 g2;(repeat' (first|refine' a7|((with_reducible apply WO.nf);exact aE;(first|exact λs=>iX _ s);exact ey;intro _ _ YL _ _ aiU)|refine' aw|fail))
   all_goals try refine cM
   all_goals exact⟨k-1,ag,k-1,cQ,t',YL,p1,_,_,_,_,by(rw[show((k-1:Nat):Int)=(k:Int)-1 by omega];exact bk),au,rfl,ag,g1,g2.1.mono ag,g2.2,h5⟩
 .rintro l L ⟨j,st,t,v,p1,b2,b3,b4,b5,hl,hL,-,h2,h3,h4,h5⟩;refine aq ?_;refine W.le ?_ hl hL;clear hl hL;(repeat' (first|refine' a7|refine' Bl|refine' aw|fail))
  obtain⟨j1,rfl⟩:∃j1:Nat,DL=j1:=⟨DL.toNat,ag⟩;refine W.bN (λk l L=>∃(j:Nat)(st:ar)(t:bX)(v:SA)(p1 b2 b3 b4 b5:Nat),Le [(0,bc br),(2,bc b2),(3,bc b3),(4,bc b4),(5,bc b5),(9,iv (j:Int))] l/\cz (oo br a code.length c p1:: .box b2 [eW,eW,eW,cb,eW,cb,eW,.bool false] 81 false:: .box b3 [cb,cb,cb,cb,cb,cb,cb] 85 false:: .box b4 (rP v st) 81 false:: .box b5 (hU t) 85 false::eO v st) L/\k=j/\j<=11/\Pg.FS st t/\dv (10510+1731*(11-j)) st/\eb t/\p1<=p+3+221*(11-j))
                                                        (λl L=>∃(j:Nat)(st:ar)(t:bX)(v:SA)(p1 b2 b3 b4 b5:Nat),Le [(0,bc br),(2,bc b2),(3,bc b3),(4,bc b4),(5,bc b5)] l/\cz (oo br a code.length c p1:: .box b2 [eW,eW,eW,cb,eW,cb,eW,.bool false] 81 false:: .box b3 [cb,cb,cb,cb,cb,cb,cb] 85 false:: .box b4 (rP v st) 81 false:: .box b5 (hU t) 85 false::eO v st) L/\j=0/\Pg.FS st t/\dv (10510+1731*11) st/\eb t/\p1<=p+3+221*11) _ ⟨j1,st,t,v,ng,_,_,_,_,bk,au,rfl,ag,h2,h3.mono ag,h4,ag⟩ ?_ ?_
  .clear h2 h3 h4;rintro k l L ⟨j,st,t,v,p1,b2,b3,b4,b5,hl,hL,rfl,h1,h2,h3,h4,h5⟩;refine W.le ?_ hl hL;clear hl hL;rcases wc k with h0|h0
   .subst h0;(refine' cU)
    all_goals try refine cM
    all_goals exact⟨0,st,t,v,p1,_,_,_,_,bk,au,rfl,h2,h3,h4,h5⟩
   .have alC:dv 70000 st:=h3.mono ag;have alD:st.cI.length<=30000:=ik h3.gl ag;have iX:∀o,T2 o->gJ o=true->∀(dI:SA) s,eQ a8 bj 76 [fD dI st,tv t,ov o] s [] dI st (eT st t o).1 true (doV (eT st t o).2.1 (eT st t o).2.2):=λo hD ho dI s=>M8 s dI st t (h3.mono ag) h4 h2 o ho (zG _ hD.af) (zG _ hD.to)
    have g1:∀o,gJ o=true->Pg.FS (eT st t o).1 (eT st t o).2.1/\dv (12240+1731*(11-k)) (eT st t o).1/\eb (eT st t o).2.1:=λo ho=>⟨Pg.Rk h2 ho,(EU h3 ag h4 h2 ho).1.mono ag,(EU h3 ag h4 h2 ho).2⟩
    have V2:∀o,gJ o=true->∀(dI:SA) s,eQ a8 bj 77 [fD dI (eT st t o).1] s [] dI (eT st t o).1 (next (eT st t o).1) true id:=λo ho dI s=>HS s dI _ ((g1 o ho).2.1.mono ag) (ik (g1 o ho).2.1.gl ag)
    have SC:∀(dI:SA) s,eQ a8 bj 77 [fD dI st] s [] dI st (next st) true id:=λdI s=>HS s dI st alC alD
    have fF:∀o,T2 o->∀s,bP 25 [ov o] s [] (.bool (gJ o)):=λo hD s=>Rp s o (ik (zG _ hD.af) ag) (ik (zG _ hD.to) ag) (ik hD.aW ag)
    (repeat' (first|refine' a7|refine' acD|refine' Bl|((with_reducible apply WO.bI);exact aE;(first|exact λs=>fF _ W7 s);intro _ _ _ _)|((with_reducible apply WO.nf);exact aE;(first|exact λs=>iX _ W7 (by assumption) _ s);exact ey;intro _ _ YM _ _ aiV)|((with_reducible apply WO.nf);exact aE;(first|exact λs=>V2 _ (by assumption) _ s|exact λs=>SC _ s);exact ey;intro _ _ HW _ _ af1)|refine' aw|fail))
    all_goals try refine cM
    .obtain⟨f1,f2,f3⟩:=g1 DN (by assumption);exact⟨k-1,ag,k-1,next (eT st t DN).1,(eT st t DN).2.1,HW,ng,_,_,_,_,by(rw[show((k-1:Nat):Int)=(k:Int)-1 by omega];exact bk),au,rfl,ag,Pg.Cy f1,(M6 f2 (Pg.Cy f1)).mono ag,f3,ag⟩
    .obtain⟨f1,f2,f3⟩:=g1 DN (by assumption);exact⟨k-1,ag,k-1,(eT st t DN).1,(eT st t DN).2.1,YM,ng,_,_,_,_,by(rw[show((k-1:Nat):Int)=(k:Int)-1 by omega];exact bk),au,rfl,ag,f1,f2.mono ag,f3,ag⟩
    .exact⟨k-1,ag,k-1,next st,t,HW,ng,_,_,_,_,by(rw[show((k-1:Nat):Int)=(k:Int)-1 by omega];exact bk),au,rfl,ag,Pg.Cy h2,(M6 h3 (Pg.Cy h2)).mono ag,h4,ag⟩
    .exact⟨k-1,ag,k-1,st,t,v,ng,_,_,_,_,by(rw[show((k-1:Nat):Int)=(k:Int)-1 by omega];exact bk),au,rfl,ag,h2,h3.mono ag,h4,ag⟩
  .rintro l L ⟨j,st,t,v,p1,b2,b3,b4,b5,hl,hL,-,h2,h3,h4,h5⟩;refine aq ?_;refine W.le ?_ hl hL;clear hl hL;(refine' cU)
   all_goals exact⟨bB,_,_,bn,au,p1,v,st,t,ag,h2,h3.mono ag,h4,rfl,rfl⟩
section
variable {z:aA}{f:Flat}
theorem DR (s:St)(a:aK)(c:Nat)(p:List a6)(a':aK)(c':Nat)(q:eG)(hp:p.length<=10000)(hq:q.length<=10000)(h1:bO s a p.length 2 (ai p))(h2:bO s a' q.length 3 (ai q)):
  Bi 26 [.agg ⟨iw a c p a' c' q⟩] s [] (aj a++aj a') λR L=>∃b d b' d',R= .agg ⟨iw b d p b' d' q⟩/\L=[cv b d p,dN b' d' q]:=by
 have hd1:Rd ⟨s,([]:bE).flatMap It.aY,aj a++aj a'⟩ a p.length 2 (ai p):=Rd.of h1 λ_ hb=>cP _ hb
 refine' zbc
 refine aU f26 ?_;(refine' cU)
 exact⟨bB,_,_,bn,au,_,_,_,_,rfl,rfl⟩
def BE (z:aA):Prop:=z.length<=800/\(∀c∈z,c.toNat<128)/\(z.take 2=[47,47]->z.length=2)
instance(z:aA):Decidable (BE z):=by unfold BE;infer_instance
theorem afh:∀z∈xX,BE z:=by decide
theorem HX (h:bG z=true):1<=z.length/\z.length<=4/\∀c∈z,97<=c.toNat/\c.toNat<=122:=by
 unfold bG at h;simp only[bU,gQ,bQ] at h;exact⟨h.1.2,h.2,h.1.1⟩
theorem aiW (h:Pg.vj 146 z):BE z:=by
 have hl:=h.len;obtain⟨ad,h1,h2,rfl⟩:=h;refine⟨ag,?_,?_⟩
 .unfold pathOf;split
  .intro c hc;rw[gR] at hc;subst hc;decide
  .intro c hc;obtain⟨w,hw,hcw⟩:=List.mem_flatten.1 hc;obtain⟨n,hn,rfl⟩:=kO.1 hw;rcases bR.1 hcw with rfl|hcn
   .decide
   .have:=(HX (h1 n hn)).2.2 c hcn;omega
 .unfold pathOf;split
  .intro h;cases h
  .rename_i fK;cases ad with
   |nil=>exact absurd rfl fK
   |cons n l=>
    have hb:=HX (h1 n (by simp));intro h;exfalso;cases n with
    |nil=>simp at hb
    |cons c n=>
     have:=hb.2.2 c (by simp);simp at h;rw[h] at this
     revert this;decide
structure fU (f:Flat):Prop where
 nl:f.ad.length<=144
 tl:f.ae.length<=16
 nm:∀x∈f.ad,BE x.af/\0<=x.id/\x.id<=16
 th:∀x∈f.ae,0<=x.id/\x.id<=16/\x.aW.length<=192
theorem fU.of (h:Pg.ac3 f):fU f:=⟨h.nl,h.tl,λx hx=>by have:=h.nm x hx;exact⟨aiW this.1,ag⟩,λx hx=>by have:=h.th x hx;omega⟩
theorem fU.aiX (h:fU f)(i:Nat){q:a6}(hq:BE q.af/\0<=q.id/\q.id<=16):fU ⟨f.ad.set i q,f.ae⟩:=
 ⟨by rw[gE];exact h.nl,h.tl,λx hx=>by
  rcases Gc hx with hx|rfl
  .exact h.nm x hx
  .exact hq,h.th⟩
theorem fU.afi (h:fU f)(i:Nat){q:bC}(hq:0<=q.id/\q.id<=16/\q.aW.length<=192):fU ⟨f.ad,f.ae.set i q⟩:=
 ⟨h.nl,by rw[gE];exact h.tl,h.nm,λx hx=>by
   rcases Gc hx with hx|rfl
   .exact h.th x hx
   .exact hq⟩
theorem fU.cut (h:fU f)(i:Nat):fU ⟨f.ad.take i,f.ae⟩:=
 ⟨by rw[cZ];have:=h.nl;omega,h.tl,λx hx=>h.nm x (NP hx),h.th⟩
end
section
variable {E:dA}{X:dM}{Γ:ij}{l:Kn}{L R:bE}{K:KO}{g:FuncId}{xs:List Operand}{ts:Array TypeId}{vs:aQ}{a a':aK}{br c c' p d n:Nat}{code:aA}{v:SA}{st:ar}
theorem WO.afj (hx:kL l xs vs)(hp:oO [oo br a code.length c p] L R)(hh:sy Γ a code)(h:∀s,pH s a code->(∀i∈aj a,i∉[oo br a code.length c p].flatMap It.aY)->YJ E X g vs s br a code c p d)(k:∀m m' p' v' st t,p'<=p+d->Pg.FS st t->dv 30000 st->eb t->kq L m->m<=m'->K (.tuple ⟨[fD v' st,tv t]⟩) (oo br a code.length c p'::(eO v' st++R)) m m' (λi=>i∈aj a\/i∈[oo br a code.length c p].flatMap It.aY\/(m<=i/\i<m')) (λi=>i∈[oo br a code.length c p].flatMap It.aY\/(m<=i/\i<m'))):WO E X Γ l (.call ⟨.value (.func g),⟨xs⟩,ts⟩) L K:=
 WO.call (Lm:=[oo br a code.length c p]) (R:=R) hx hp.cR (λs hi=>(hh.row (hi.cR hp.cR|>.sub ⟨R,.refl _,nK _ _⟩)).2) (λs hi=>h s (hh.row (hi.cR hp.cR|>.sub ⟨R,.refl _,nK _ _⟩)).1 (sy.apart hh (hi.cR hp.cR))) (by rintro r' L' m m' ho hm ⟨p',v',st,t,h1,h2,h3,h4,rfl,rfl⟩;exact k m m' p' v' st t h1 h2 h3 h4 ho hm)
theorem WO.afk {f:Flat}(hx:kL l xs vs)(h:∀s,cK s v st->fH E X g vs s [] (iH v) λR L=>∃a c a' c',R= .tuple ⟨[.agg ⟨iw a c f.ad a' c' f.ae⟩,.bool true]⟩/\L=[cv a c f.ad,dN a' c' f.ae])(hh:re Γ L v st)(k:∀m m' a c a' c',kq L m->m<=m'->K (.tuple ⟨[.agg ⟨iw a c f.ad a' c' f.ae⟩,.bool true]⟩) (cv a c f.ad::dN a' c' f.ae::L) m m' (λi=>i∈iH v\/i∈([]:bE).flatMap It.aY\/(m<=i/\i<m')) (λi=>i∈([]:bE).flatMap It.aY\/(m<=i/\i<m'))):WO E X Γ l (.call ⟨.value (.func g),⟨xs⟩,ts⟩) L K:=
 WO.call (Lm:=[]) (R:=L) (A:=iH v) hx (.refl _) (λs hi b hb=>(hh.row hi).2 b hb) (λs hi=>h s (hh.row hi).1) (by rintro r L' m m' ho hm ⟨a,c,a',c',rfl,rfl⟩;exact k m m' a c a' c' ho hm)
theorem WO.OM {q1:List a6}{q2:eG}(hx:kL l xs vs)(h:∀s,bO s a q1.length 2 (ai q1)->bO s a' q2.length 3 (ai q2)->fH E X g vs s [] (aj a++aj a') λR L=>∃b d b' d',R= .agg ⟨iw b d q1 b' d' q2⟩/\L=[cv b d q1,dN b' d' q2])(h1:jY Γ L a q1.length 2 (ai q1))(h2:jY Γ L a' q2.length 3 (ai q2))(k:∀m m' b d b' d',kq L m->m<=m'->K (.agg ⟨iw b d q1 b' d' q2⟩) (cv b d q1::dN b' d' q2::L) m m' (λi=>i∈aj a++aj a'\/i∈([]:bE).flatMap It.aY\/(m<=i/\i<m')) (λi=>i∈([]:bE).flatMap It.aY\/(m<=i/\i<m'))):WO E X Γ l (.call ⟨.value (.func g),⟨xs⟩,ts⟩) L K:=
 WO.call (Lm:=[]) (R:=L) (A:=aj a++aj a') hx (.refl _) (λs hi b hb=>by
   rcases eX.1 hb with hb|hb
   .exact(h1.row hi).2 b hb
   .exact(h2.row hi).2 b hb) (λs hi=>h s (h1.row hi).1 (h2.row hi).1) (by rintro r L' m m' ho hm ⟨b,d,b',d',rfl,rfl⟩;exact k m m' b d b' d' ho hm)
end
abbrev YN (E:dA)(X:dM)(g:FuncId)(vs:aQ)(s:St)(br:Nat)(a:aK)(code:aA)(c p d:Nat):Prop:=fH E X g vs s [oo br a code.length c p] (aj a) λR L=>∃(p':Nat)(f:Flat)(an:aK)(cn:Nat)(a0:aK)(p0:List a6)(c0:Nat)(at_:aK)(ct:Nat),p'<=p+d/\fU f/\Sub 2 a0 p0 an f.ad/\R= .agg ⟨iw an cn f.ad at_ ct f.ae⟩/\L=[oo br a code.length c p',cv a0 c0 p0,dN at_ ct f.ae]
theorem Rs {E:dA}{l:Kn}{L:bE}{a:aK}{br c p d:Nat}{code:aA}{rs:List ResultVar}{x:Ex}{p':Nat}{f:Flat}{an:aK}{cn:Nat}{a0:aK}{p0:List a6}{c0:Nat}{at_:aK}{ct:Nat}(hx:x= .normal\/x= .ret)(hr:qi E l L rs [.agg ⟨iw an cn f.ad at_ ct f.ae⟩])(hL:cz [oo br a code.length c p',cv a0 c0 p0,dN at_ ct f.ae] L)(hp:p'<=p+d)(hs:Sub 2 a0 p0 an f.ad)(hD:fU f):
  uW E rs (λR L=>∃(p':Nat)(f:Flat)(an:aK)(cn:Nat)(a0:aK)(p0:List a6)(c0:Nat)(at_:aK)(ct:Nat),p'<=p+d/\fU f/\Sub 2 a0 p0 an f.ad/\R= .agg ⟨iw an cn f.ad at_ ct f.ae⟩/\L=[oo br a code.length c p',cv a0 c0 p0,dN at_ ct f.ae]) x l L:=⟨hx,_,_,hr,hL,p',f,an,cn,a0,p0,c0,at_,ct,hp,hD,hs,rfl,rfl⟩
theorem YO {E:dA}{l:Kn}{L:bE}{a:aK}{br c p d:Nat}{code:aA}{rs:List ResultVar}{x:Ex}{p':Nat}{nm:List a6}{th:eG}{an:aK}{cn:Nat}{at_:aK}{ct i:Nat}{q:a6}(hx:x= .normal\/x= .ret)(hr:qi E l L rs [.agg ⟨iw an cn nm at_ ct th⟩])(hL:cz [oo br a code.length c p',.aN (.slice an nm.length cn) 39 2 (ai (nm.set i q)),dN at_ ct th] L)(hp:p'<=p+d)(hD:fU ⟨nm.set i q,th⟩):uW E rs (λR L=>∃(p':Nat)(f:Flat)(an:aK)(cn:Nat)(a0:aK)(p0:List a6)(c0:Nat)(at_:aK)(ct:Nat),p'<=p+d/\fU f/\Sub 2 a0 p0 an f.ad/\R= .agg ⟨iw an cn f.ad at_ ct f.ae⟩/\L=[oo br a code.length c p',cv a0 c0 p0,dN at_ ct f.ae]) x l L:=by
 have e:(nm.set i q).length=nm.length:=gE;refine Rs (f:=⟨nm.set i q,th⟩) (an:=an) (cn:=cn) (a0:=an) (p0:=nm.set i q) (c0:=cn) (at_:=at_) (ct:=ct) hx ?_ ?_ hp Sub.all hD
 .dsimp only[iw];rw[e];exact hr
 .dsimp only[cv];rw[e];exact hL
theorem PD {E:dA}{l:Kn}{L:bE}{a:aK}{br c p d:Nat}{code:aA}{rs:List ResultVar}{x:Ex}{p':Nat}{nm:List a6}{th:eG}{an:aK}{cn:Nat}{at_:aK}{ct i:Nat}{q:bC}(hx:x= .normal\/x= .ret)(hr:qi E l L rs [.agg ⟨iw an cn nm at_ ct th⟩])(hL:cz [oo br a code.length c p',cv an cn nm,.aN (.slice at_ th.length ct) 61 3 (ai (th.set i q))] L)(hp:p'<=p+d)(hD:fU ⟨nm,th.set i q⟩):uW E rs (λR L=>∃(p':Nat)(f:Flat)(an:aK)(cn:Nat)(a0:aK)(p0:List a6)(c0:Nat)(at_:aK)(ct:Nat),p'<=p+d/\fU f/\Sub 2 a0 p0 an f.ad/\R= .agg ⟨iw an cn f.ad at_ ct f.ae⟩/\L=[oo br a code.length c p',cv a0 c0 p0,dN at_ ct f.ae]) x l L:=by
 have e:(th.set i q).length=th.length:=gE;refine Rs (f:=⟨nm,th.set i q⟩) (an:=an) (cn:=cn) (a0:=an) (p0:=nm) (c0:=cn) (at_:=at_) (ct:=ct) hx ?_ ?_ hp Sub.all hD
 .dsimp only[iw];rw[e];exact hr
 .dsimp only[dN];rw[e];exact hL
theorem JG (s:St)(br:Nat)(a:aK)(code:aA)(c p:Nat)(hc:code.length<=2000)(hp:p<=60000)(hr:pH s a code)(hm:∀i∈aj a,i∉[oo br a code.length c p].flatMap It.aY):
  YN a8 bj 19 [bc br] s br a code c p 4000:=by
 have hd:sy ⟨s,[oo br a code.length c p].flatMap It.aY,aj a⟩ a code:=⟨hr,λb hb=>hb,hm⟩;refine aU f19 ?_;(repeat' (first|refine' a7|((with_reducible apply WO.afj);exact aE;exact ey;assumption;(intro s hr hm;exact YK s _ _ _ _ _ (by assumption) ag hr hm);intro _ _ ajK ajL aiY ajM aiZ YP YQ YR _ _;obtain⟨zH,T9,sN⟩:=Pg.JG YP)|((with_reducible apply WO.afk);exact aE;(intro s hr;exact Yz s _ _ (YQ.mono ag) _ YR _ T9 hr);exact eC;intro _ _ anE anF anG anH _ _)|refine' aw|fail))
 have hD:=fU.of sN;have x7:0<zH.ad.length:=oD.2 sN.n0;have ht0:0<zH.ae.length:=oD.2 sN.t0;have nC:=hD.nl;have pz:=hD.tl;(repeat' (first|refine' a7|((with_reducible apply WO.OM);exact aE;(intro s h1 h2;exact DR s _ _ _ _ _ _ (by have:=sN.nl;omega) (by have:=sN.tl;omega) h1 h2);exact cg;exact cg;intro _ _ ahZ ah0 ah1 ah2 _ _)|refine' Bl|refine' acA|refine' acB|refine' QK|((with_reducible apply WO.alg);exact gP;exact gP;exact xy;exact mO;intro _)|((with_reducible apply WO.ail);exact gP;exact gP;exact xy;exact mO;intro _)|((with_reducible apply WO.aim);exact gP;exact gP;exact xy;exact mO;intro _)|refine' QJ|refine' aw|fail))
 all_goals try refine cM
 .exact YO bB bn au ag (by exact hD.aiX _ ⟨afh _ aer,(hD.nm _ (aJ ag _)).2⟩)
 .exact YO bB bn au ag (by exact hD.aiX _ (by dsimp only;exact⟨(hD.nm _ (aJ ag _)).1,ag,ag⟩))
 .exact PD bB bn au ag (by exact hD.afi _ (by dsimp only;exact⟨ag,ag,(hD.th _ (aJ ag _)).2.2⟩))
 .exact PD bB bn au ag (by exact hD.afi _ (by dsimp only;exact⟨(hD.th _ (aJ ag _)).1,(hD.th _ (aJ ag _)).2.1,(hD.th _ (aJ ag _)).2.2⟩))
 .exact PD bB bn au ag (by exact hD.afi _ (by dsimp only;exact⟨(hD.th _ (aJ ag _)).1,(hD.th _ (aJ ag _)).2.1,ag⟩))
 .exact Rs (f:=⟨zH.ad.take _,zH.ae⟩) bB (by(exact bn)) (by(exact au)) ag GV (by exact hD.cut _)
 .exact Rs (f:=zH) bB (by(exact bn)) (by(exact au)) ag Sub.all (by exact hD)
section
variable {E:dA}{X:dM}{Γ:ij}{l:Kn}{L R:bE}{K:KO}{g:FuncId}{xs:List Operand}{ts:Array TypeId}{vs:aQ}{a:aK}{br c p d n:Nat}{code:aA}
abbrev YS (E:dA)(X:dM)(g:FuncId)(vs:aQ)(s:St)(a:aK)(code:aA):Prop:=fH E X g vs s [] (aj a) λR L=>∃(br:Nat)(a2:aK)(c2:Nat)(l3:aA),aff a code a2 l3/\l3.length<=2000/\R=bc br/\L=[oo br a2 l3.length c2 0]
theorem WO.afl (hx:kL l xs vs)(h:∀s,pH s a code->M1 code.length c->YS E X g vs s a code)(hd:sy Γ a code)(hv:M1 code.length c)(k:∀m m' br a2 c2 (l3:aA),aff a code a2 l3->l3.length<=2000->sy Γ a2 l3->kq L m->m<=m'->K (bc br) (oo br a2 l3.length c2 0::L) m m' (λi=>i∈aj a\/i∈([]:bE).flatMap It.aY\/(m<=i/\i<m')) (λi=>i∈([]:bE).flatMap It.aY\/(m<=i/\i<m'))):WO E X Γ l (.call ⟨.value (.func g),⟨xs⟩,ts⟩) L K:=
 WO.call (Lm:=[]) (R:=L) (A:=aj a) hx (.refl _) (λs hi=>(hd.row hi).2) (λs hi=>h s (hd.row hi).1 hv) (by rintro r L' m m' ho hm ⟨br,a2,c2,l3,h1,h2,rfl,rfl⟩;exact k m m' br a2 c2 l3 h1 h2 (hd.sub h1) ho hm)
theorem WO.afm (hx:kL l xs vs)(hp:oO [oo br a code.length c p] L R)(hh:sy Γ a code)(h:∀s,pH s a code->(∀i∈aj a,i∉[oo br a code.length c p].flatMap It.aY)->YN E X g vs s br a code c p d)(k:∀m m' p' f an cn a0 p0 c0 at_ ct,p'<=p+d->fU f->Sub 2 a0 p0 an f.ad->kq L m->m<=m'->K (.agg ⟨iw an cn f.ad at_ ct f.ae⟩) (oo br a code.length c p'::cv a0 c0 p0::dN at_ ct f.ae::R) m m' (λi=>i∈aj a\/i∈[oo br a code.length c p].flatMap It.aY\/(m<=i/\i<m')) (λi=>i∈[oo br a code.length c p].flatMap It.aY\/(m<=i/\i<m'))):WO E X Γ l (.call ⟨.value (.func g),⟨xs⟩,ts⟩) L K:=
 WO.call (Lm:=[oo br a code.length c p]) (R:=R) hx hp.cR (λs hi=>(hh.row (hi.cR hp.cR|>.sub ⟨R,.refl _,nK _ _⟩)).2) (λs hi=>h s (hh.row (hi.cR hp.cR|>.sub ⟨R,.refl _,nK _ _⟩)).1 (sy.apart hh (hi.cR hp.cR))) (by rintro r' L' m m' ho hm ⟨p',f,an,cn,a0,p0,c0,at_,ct,h1,h2,h3,rfl,rfl⟩;exact k m m' p' f an cn a0 p0 c0 at_ ct h1 h2 h3 ho hm)
end
theorem Ua (s:St)(a:aK)(code:aA)(c:Nat)(hr:pH s a code)(hv:M1 code.length c):YS a8 bj 18 [.slice a code.length c] s a code:=by
 have hd:sy ⟨s,([]:bE).flatMap It.aY,aj a⟩ a code:=sy.of hr λ_ hb=>hb
 have hv':M1 code.length c:=hv;refine aU f18 ?_;(repeat' (first|refine' a7|((with_reducible apply WO.alx);exact gP;exact gP;assumption;assumption;exact mO;intro _ anI)|refine' aw|fail))
 all_goals try refine cM
 .exact⟨bB,_,_,bn,au,_,_,_,_,⟨rfl,_,rfl⟩,by rw[cZ];omega,rfl,rfl⟩
 .exact⟨bB,_,_,bn,au,_,_,_,code,⟨rfl,code.length,gX.symm⟩,ag,rfl,rfl⟩
abbrev YT (E:dA)(X:dM)(g:FuncId)(vs:aQ)(s:St)(a:aK):Prop:=fH E X g vs s [] (aj a) λR L=>∃(f:Flat)(o:Op)(an:aK)(cn:Nat)(a0:aK)(p0:List a6)(c0:Nat)(at_:aK)(ct:Nat),fU f/\T2 o/\Sub 2 a0 p0 an f.ad/\R= .tuple ⟨[.agg ⟨iw an cn f.ad at_ ct f.ae⟩,ov o]⟩/\L=[cv a0 c0 p0,dN at_ ct f.ae]
theorem wV (s:St)(a:aK)(code:aA)(c:Nat)(hr:pH s a code)(hv:M1 code.length c):YT a8 bj 6 [.slice a code.length c] s a:=by
 have hd:sy ⟨s,([]:bE).flatMap It.aY,aj a⟩ a code:=sy.of hr λ_ hb=>hb
 have hv':M1 code.length c:=hv;refine aU f6 ?_;(repeat' (first|refine' a7|((with_reducible apply WO.afl);exact aE;(intro s h1 h2;exact Ua s _ _ _ h1 h2);assumption;assumption;intro _ _ b_o a_o c_o alE anJ anK anL _ _)|((with_reducible apply WO.afm);exact aE;exact ey;assumption;(intro s hr hm;exact JG s _ _ _ _ _ (by assumption) ag hr hm);intro _ _ p_f f_f anM anN anO anP anQ anR anS anT alF alG _ _)|refine' acD|refine' aw|fail))
 all_goals try refine cM
 exact⟨bB,_,_,bn,au,f_f,DN,_,_,_,_,_,_,_,alF,W7,alG,rfl,rfl⟩
structure cl (s:St)(a a':aK)(f:Flat):Prop where
 n:bO s a f.ad.length 2 (ai f.ad)
 t:bO s a' f.ae.length 3 (ai f.ae)
structure Wn (Γ:ij)(L:bE)(a a':aK)(f:Flat):Prop where
 n:jY Γ L a f.ad.length 2 (ai f.ad)
 t:jY Γ L a' f.ae.length 3 (ai f.ae)
abbrev kF (a a':aK):List Nat:=aj a++aj a'
abbrev js (a:aK)(c:Nat)(a':aK)(c':Nat)(f:Flat):Value:=.agg ⟨iw a c f.ad a' c' f.ae⟩
section
variable {E:dA}{X:dM}{Γ:ij}{l:Kn}{L R:bE}{K:KO}{g:FuncId}{xs:List Operand}{ts:Array TypeId}{vs:aQ}{a a':aK}{f:Flat}{r:Value}{s:St}
theorem WO.kv (hx:kL l xs vs)(h:∀s,cl s a a' f->qj E X g vs s (kF a a') r)(hh:Wn Γ L a a' f)(k:∀m m',kq L m->m<=m'->K r L m m' (λi=>i∈kF a a'\/i∈([]:bE).flatMap It.aY\/(m<=i/\i<m')) (λi=>i∈([]:bE).flatMap It.aY\/(m<=i/\i<m'))):WO E X Γ l (.call ⟨.value (.func g),⟨xs⟩,ts⟩) L K:=
 WO.ub hx (λs hi=>⟨λi hb=>by
   rcases eX.1 hb with hb|hb
   .exact(hh.n.row hi).2 i hb
   .exact(hh.t.row hi).2 i hb,h s ⟨(hh.n.row hi).1,(hh.t.row hi).1⟩⟩) k
theorem fN.n (h:cl s a a' f):Rd ⟨s,([]:bE).flatMap It.aY,kF a a'⟩ a f.ad.length 2 (ai f.ad):=Rd.of h.n λ_ hb=>cP _ hb
theorem fN.t (h:cl s a a' f):Rd ⟨s,([]:bE).flatMap It.aY,kF a a'⟩ a' f.ae.length 3 (ai f.ae):=Rd.of h.t λ_ hb=>dz _ hb
end
structure HY (f:Flat):Prop where
 nl:f.ad.length<=1000
 tl:f.ae.length<=1000
 nm:∀x∈f.ad,x.af.length<=5000/\ -1000<=x.id/\x.id<=1000
 th:∀x∈f.ae,-1000<=x.id/\x.id<=1000/\x.aW.length<=5000
theorem fU.s {f:Flat}(h:fU f):HY f:=⟨by have:=h.nl;omega,by have:=h.tl;omega,λx hx=>by have:=h.nm x hx;have:=this.1.1;omega,λx hx=>by have:=h.th x hx;omega⟩
theorem Na {α:Type}{sz:Nat}[ak α sz](P:α->Bool)(l:List α){i:Nat}(hi:i<l.length):((l.drop i).findIdx? P).map (·+i)=if P (l.getD i (ak.ah (α:=α) (sz:=sz))) then some i else((l.drop (i+1)).findIdx? P).map (·+(i+1)):=by
 rw[drop_cons (sz:=sz) hi,Qc];split
 .simp
 .rw[Option.map_map]
  congr 1
  funext j
  simp only[Function.comp];omega
theorem k9 (s:St)(a:aK)(c:Nat)(a':aK)(c':Nat)(f:Flat)(hf:HY f)(z:aA)(hr:cl s a a' f):bP 52 [js a c a' c' f,sv z] s (kF a a') (iv (Hu (f.dq z))):=by
 have oR:=fN.n hr;have nC:=hf.nl;refine aU f52 ?_;(refine' cU)
 refine W.bN (λk l L=>∃(i b2:Nat),Le [(1,sv z),(2,bc b2),(5,iv (i:Int))] l/\cz [.box b2 (iw a c f.ad a' c' f.ae) 26 false] L/\k=f.ad.length-i/\i<=f.ad.length/\f.dq z=((f.ad.drop i).findIdx? λx=>decide (x.af=z)).map (·+i))
  (λl L=>f.dq z=none) _ ⟨0,_,bk,au,rfl,ag,by simp[Flat.dq]⟩ ?_ ?_
 .rintro k l L ⟨i,b2,hl,hL,rfl,h1,h2⟩;refine W.le ?_ hl hL;clear hl hL;by_cases hi:i<f.ad.length
  .rw[Na _ _ hi] at h2;(refine' cU)
   all_goals try refine cM
   .rw[show f.dq z=some i from h2.trans (if_pos (dt j3))];(refine' ax);rfl
   .exact⟨_,ag,i+1,_,bk,au,rfl,ag,h2.trans (if_neg (by rw[bQ];exact j3))⟩
  .have fE:i=f.ad.length:=by omega
   subst fE;rw[iD] at h2;(refine' cU)
   all_goals try refine cM
   all_goals exact h2
 .rintro l L h1;refine aq ?_;refine W.le ?_ (Le.nil _) (cz.nil _);(refine' cU)
  rw[h1];(refine' ax);rfl
theorem ri (s:St)(a:aK)(c:Nat)(a':aK)(c':Nat)(f:Flat)(hf:HY f)(z:Int)(hr:cl s a a' f):bP 54 [js a c a' c' f,iv z] s (kF a a') (iv (Hu (f.cH z))):=by
 have qI:=fN.t hr;have pz:=hf.tl;refine aU f54 ?_;(refine' cU)
 refine W.bN (λk l L=>∃(i b2:Nat),Le [(1,iv z),(2,bc b2),(5,iv (i:Int))] l/\cz [.box b2 (iw a c f.ad a' c' f.ae) 26 false] L/\k=f.ae.length-i/\i<=f.ae.length/\f.cH z=((f.ae.drop i).findIdx? λx=>decide (x.id=z)).map (·+i))
  (λl L=>f.cH z=none) _ ⟨0,_,bk,au,rfl,ag,by simp[Flat.cH]⟩ ?_ ?_
 .rintro k l L ⟨i,b2,hl,hL,rfl,h1,h2⟩;refine W.le ?_ hl hL;clear hl hL;by_cases hi:i<f.ae.length
  .rw[Na _ _ hi] at h2;(refine' cU)
   all_goals try refine cM
   .rw[show f.cH z=some i from h2.trans (if_pos (dt j3))];(refine' ax);rfl
   .exact⟨_,ag,i+1,_,bk,au,rfl,ag,h2.trans (if_neg (by rw[bQ];exact j3))⟩
  .have fE:i=f.ae.length:=by omega
   subst fE;rw[iD] at h2;(refine' cU)
   all_goals try refine cM
   all_goals exact h2
 .rintro l L h1;refine aq ?_;refine W.le ?_ (Le.nil _) (cz.nil _);(refine' cU)
  rw[h1];(refine' ax);rfl
theorem I9 (s:St)(a:aK)(c:Nat)(a':aK)(c':Nat)(f:Flat)(hf:HY f)(z:Int)(hr:cl s a a' f):bP 55 [js a c a' c' f,iv z] s (kF a a') (.bool (f.ig z)):=by
 have oR:=fN.n hr;have qI:=fN.t hr;have pz:=hf.tl;have ku:∀s,cl s a a' f->bP 54 [js a c a' c' f,iv z] s (kF a a') (iv (Hu (f.cH z))):=λs hr=>ri s a c a' c' f hf z hr
 unfold Flat.ig;cases hz:f.cH z with
 |none=>
  rw[hz] at ku;have ku:∀s,cl s a a' f->bP 54 [js a c a' c' f,iv z] s (kF a a') (iv (-1)):=ku;refine aU f55 ?_;(refine' Hb)
  all_goals try refine cM
  (refine' ax);rfl
 |some k=>
  rw[hz] at ku;have ku:∀s,cl s a a' f->bP 54 [js a c a' c' f,iv z] s (kF a a') (iv (k:Int)):=ku;have hk:k<f.ae.length:=(oC.1 hz).1;refine aU f55 ?_;(refine' Hb)
  all_goals try refine cM
  (refine' ax);rfl
theorem DO (s:St)(a:aK)(c:Nat)(a':aK)(c':Nat)(f:Flat)(hf:HY f)(z:Int)(hr:cl s a a' f):bP 94 [js a c a' c' f,iv z] s (kF a a') (iv (f.many z)):=by
 have oR:=fN.n hr;have nC:=hf.nl;refine aU f94 ?_;(refine' cU)
 refine W.bN (λk l L=>∃(i n b2:Nat),Le [(1,iv z),(2,bc b2),(5,iv (n:Int)),(6,iv (i:Int))] l/\cz [.box b2 (iw a c f.ad a' c' f.ae) 26 false] L/\k=f.ad.length-i/\i<=f.ad.length/\n<=i/\f.many z=n+(f.ad.drop i).countP λx=>decide (x.id=z))
  (λl L=>Le [(5,iv (f.many z:Int))] l) _ ⟨0,0,_,bk,au,rfl,ag,ag,by simp[Flat.many]⟩ ?_ ?_
 .rintro k l L ⟨i,n,b2,hl,hL,rfl,h1,h2,h3⟩;refine W.le ?_ hl hL;clear hl hL;by_cases hi:i<f.ad.length
  .rw[drop_cons hi,iC] at h3;(refine' cU)
   all_goals try refine cM
   .exact⟨_,ag,i+1,n+1,_,bk,au,rfl,ag,ag,by rw[h3,if_pos (dt j3)];omega⟩
   .exact⟨_,ag,i+1,n,_,bk,au,rfl,ag,ag,by rw[h3,if_neg (by rw[bQ];exact j3)];omega⟩
  .have fE:i=f.ad.length:=by omega
   subst fE;rw[iD,Ki,wY] at h3;subst h3;(refine' cU)
   all_goals try refine cM
   all_goals exact bk
 .rintro l L hl;refine aq ?_;refine W.le ?_ hl (cz.nil _);(refine' cU)
  (refine' ax);rfl
theorem LB (s:St)(z:aA)(hz:z.length<=100000):bP 51 [sv z] s [] (.tuple ⟨[sv (aP z).1,sv (aP z).2]⟩):=by
 refine aU f51 ?_;(refine' cU)
 refine W.bN (λk l L=>∃(i n:Nat),Le [(0,sv z),(4,iv (n:Int)),(5,iv (i:Int))] l/\k=z.length-i/\i<=z.length/\n<=i/\(n=0\/n<z.length)/\tt z=tq i n (z.drop i))
  (λl L=>Le [(0,sv z),(4,iv (tt z:Int))] l/\(tt z=0\/tt z<z.length)) _ ⟨0,0,bk,rfl,ag,ag,.inl rfl,rfl⟩ ?_ ?_
 .rintro k l L ⟨i,n,hl,rfl,h1,h2,h4,h3⟩;refine W.le ?_ hl (cz.nil _);clear hl;by_cases hi:i<z.length
  .have hd:z.drop i=z.getD i 0::z.drop (i+1):=by
    rw[wA hi,aR,bd hi];rfl
   rw[hd,tq] at h3;(refine' cU)
   all_goals try refine cM
   .exact⟨_,ag,i+1,i,bk,rfl,ag,ag,.inr hi,by rw[h3,if_pos (Jb.1 j3)]⟩
   .exact⟨_,ag,i+1,n,bk,rfl,ag,ag,h4,by rw[h3,if_neg (λh=>j3 (Jb.2 h))]⟩
  .have fE:i=z.length:=by omega
   subst fE;rw[iD,tq] at h3;subst h3;(refine' cU)
   all_goals try refine cM
   all_goals exact⟨bk,h4⟩
 .rintro l L ⟨hl,h4⟩;refine aq ?_;refine W.le ?_ hl (cz.nil _);clear hl;unfold aP;(refine' cU)
  all_goals try refine cM
  ·(refine' ax)
   rw[if_pos ag,show(min (1:Int) (z.length:Int)).toNat=min 1 z.length by omega];rfl
  ·(refine' ax)
   rw[if_neg ag];rfl
theorem sO (z:aA):(aP z).1.length<=z.length+1/\(aP z).2.length<=z.length:=by
 unfold aP;split<;>simp only[cY,mJ,gd,cZ]<;>omega
theorem Xa (s:St)(a:aK)(c:Nat)(a':aK)(c':Nat)(f:Flat)(hf:HY f)(z:aA)(hr:cl s a a' f):bP 56 [js a c a' c' f,sv z] s (kF a a') (iv (f.nD z)):=by
 have oR:=fN.n hr;have nC:=hf.nl;refine aU f56 ?_;(refine' cU)
 refine W.bN (λk l L=>∃(i n b2:Nat),Le [(1,sv z),(2,bc b2),(5,iv (n:Int)),(6,iv (i:Int))] l/\cz [.box b2 (iw a c f.ad a' c' f.ae) 26 false] L/\k=f.ad.length-i/\(i<=f.ad.length\/i=1)/\1<=i/\n<=i/\f.nD z=n+(f.ad.drop i).countP λx=>decide ((aP x.af).1=z))
  (λl L=>Le [(5,iv (f.nD z:Int))] l) _ ⟨1,0,_,bk,au,rfl,ag,ag,ag,by simp[Flat.nD]⟩ ?_ ?_
 .rintro k l L ⟨i,n,b2,hl,hL,rfl,h1,h0,h2,h3⟩;refine W.le ?_ hl hL;clear hl hL;by_cases hi:i<f.ad.length
  .have rD:=(hf.nm _ (aJ hi ak.ah)).1;rw[drop_cons hi,iC] at h3;(repeat' (first|refine' a7|refine' wN|refine' aw|fail))
   all_goals try refine cM
   .exact⟨_,ag,i+1,n+1,_,bk,au,rfl,ag,ag,ag,by rw[h3,if_pos (dt j3)];omega⟩
   .exact⟨_,ag,i+1,n,_,bk,au,rfl,ag,ag,ag,by rw[h3,if_neg (by rw[bQ];exact j3)];omega⟩
  .rw[ye ag,Ki,wY] at h3;subst h3;(refine' cU)
   all_goals try refine cM
   all_goals exact bk
 .rintro l L hl;refine aq ?_;refine W.le ?_ hl (cz.nil _);(refine' cU)
  (refine' ax);rfl
abbrev dT:bC:=ak.ah (α:=bC)
abbrev dF:a6:=ak.ah (α:=a6)
theorem Nb (f:Flat):f.kA=true↔(1<=f.ae.length/\f.ae.length<=16)/\(f.ae.getD 0 dT).id=0/\(f.ae.getD 0 dT).aD=true/\∀i,i<f.ae.length->f.tu i=true:=by
 unfold Flat.kA fR;simp only[bU,bQ,gQ,lS];constructor
 .rintro⟨⟨⟨h1,h2⟩,h3⟩,h4⟩;exact⟨ag,h2,h3,h4⟩
 .rintro⟨h1,h2,h3,h4⟩;exact⟨⟨⟨ag,h2⟩,h3⟩,h4⟩
theorem Ub (f:Flat)(i:Nat):f.tu i= !(!fR (f.ae.getD i dT).id 0 15||(decide (0<i)&&decide ((f.ae.getD i dT).id<=(f.ae.getD (i-1) dT).id))||((f.ae.getD i dT).aD&&decide ((f.ae.getD i dT).aW≠[]))||decide (192<(f.ae.getD i dT).aW.length)||!fR (f.many (f.ae.getD i dT).id) 1 (if(f.ae.getD i dT).aD then 1 else 9)):=rfl
end Go.Pl
