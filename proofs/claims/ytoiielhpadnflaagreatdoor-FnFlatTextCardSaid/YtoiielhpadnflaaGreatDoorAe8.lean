/- Lemmas of the proof. No conditions. -/
import Derived.Test.YtoiielhpadnflaaGreatDoorAe7
set_option maxRecDepth 100000
set_option maxHeartbeats 4000000
set_option linter.unusedVariables false
set_option linter.unusedSimpArgs false
open Go.Proofs.Tryz
namespace Go.Pl
open Go Go.Ev Go.Lg Go.Proofs
variable {E:iq}{X:fY}{Γ:qN}{l:Kn}{L:dy}{K:KO}{g:FuncId}{xs:List Operand}{ts:Array TypeId}{vs:aY}{v:SA}{f:Fs}{R Lm:dy}{a:aS}{c i:Nat}{k:IntKind}{code:aC}{br p d:Nat}
theorem xf:∀(l:c9)(st:ar),(l.foldl (λst p=>drop st p.row) st).oQ=st.oQ/\(l.foldl (λst p=>drop st p.row) st).eg=st.eg
 |[],_=>⟨rfl,rfl⟩
 |p::l,st=>by
  rw[Ah];exact xf l _
theorem Ni {n:Nat}{st:ar}{t:cB}(h:dv n st)(hf:Pg.FS (next st) t):dv (n+1) (next st):=by
 have h1:=Ii st.cP st n h;have h2:=Nh st.cP st;have h3:=xf st.cP st;obtain⟨G,l,q,hF,_⟩:=hf;have TO:=hF.so.ct;have e:next st={(st.cP.foldl (λst p=>drop st p.row) st) with cP:=[],fH:=st.fH+1}:=rfl
 rw[e] at TO⊢;generalize st.cP.foldl (λst p=>drop st p.row) st=y at *
 have Cb:=h.tx;refine⟨h1.lr,h1.lf,h1.ll,h1.rw,λx hx=>?_,⟨by show(1:Int)<=st.fH+1;omega,by show st.fH+1<=((n+1:Nat):Int);omega⟩,?_,?_,?_,?_⟩
 .obtain⟨i,hi,rfl⟩:=jO hx;have hi:i<y.bd.length:=hi;have a1:=TO i (by have:=h1.lf;omega);have a2:=h2 i;have a3:=h.ref i;have e2:y.bd.getD i 0=y.bd[i]:=by rw[a7,bc hi];rfl
  have a1:(0:Int)<=y.bd.getD i 0:=Int.le_trans (KE _) a1;rw[e2] at a1 a2;show -((n+1:Nat):Int)<=y.bd[i]/\y.bd[i]<=((n+1:Nat):Int);omega
 .show 0<=y.oQ/\y.oQ<=((n+1:Nat):Int);have:=h.kp;rw[h3.1];omega
 .show([]:c9).length<=n+1;simp
 .show y.eg.length<=n+1;have:=h.dl;rw[h3.2];omega
 .intro p hp;cases hp
abbrev fnV (same:Bool):Value->Value:=λV=>.tuple ⟨[V,tv (nj same).2,.bool true]⟩
theorem Nj (s:St)(v:SA)(same:Bool)(hr:zC s v (bV same)):MP bf bw 58 [fI v (bV same)] s (Gf v) (nj same).1 (fnV same):=by
 have tO:=RL.r hr;have uB:=RL.f hr;have uF:=RL.l hr;have hdg:=RL.g hr;have hdd:=RL.d hr;have Ct:dv 100000 (bV same):=(JY same).mono af;have Xo:∀s,cS s v (bV same)->bL 95 [fI v (bV same)] s (iH v) (.bool true):=λs hr=>M9 s v same hr
 have dD:∀(dH:SA) s,eO bf bw 96 [fI dH (bV same),.agg ⟨[cg,cg,cg,cg,cg,cg,cg]⟩,cg,.agg ⟨[.int .i64 2,.int .i64 1,cg,cg,cg,cg,cg,cg,cg,cg]⟩] s [] dH (bV same) (nj same).1 true (Ch (nj same).2 true):=λdH s=>by
  have:=wb s dH (bV same) ((JY same).mono af) eY ⟨rfl,bT,bT⟩ 0 af ⟨2,1,0,eY⟩;rw[Pg.w8] at this;exact this
 refine aX f58 ?_;(repeat' (first|refine' aZ|((with_reducible apply WO.mw);exact aD;exact λs hr=>Xo s hr;exact ez;intros)|refine' rz|((with_reducible apply WO.nE);exact aD;exact λs=>dD _ s;exact dU;intro _ _ Uw _ _ agz)|refine' av|fail));all_goals try refine cI
 all_goals exact alI (v':=Uw) cy bY au rfl
abbrev jL:List Op:=[⟨2,[47,97],[],0,[]⟩,⟨1,[47,98],[],0,[]⟩,⟨1,[47,97,47,98],[],0,[]⟩,⟨3,[47,98],[],0,[104,101,108,108,111,32,104,101,108,108,111,32,104,101,108,108,111]⟩,⟨2,[47,97,47,99],[],0,[]⟩,⟨3,[47,97,47,98],[],30,[104,101,108,108,111,32,104,101,108,108,111,32,104,101,108,108,111]⟩]
theorem Ux:∀o∈jL,kV o=true/\o.ag.length<=3000/\o.to.length<=3000:=by decide
theorem L4 (s:St):eu bf bw 60 [] s [] 30 jL:=by refine aX f60 ?_;(repeat' (first|refine' aZ|((with_reducible apply WO.lit (α:=Op) (xs:=jL));exact zm;exact rfl;exact rfl;intro bl _)|refine' av|fail));refine' jo;rfl
abbrev Y9 (E:iq)(X:fY)(g:FuncId)(vs:aY)(s:St)(br:Nat)(a:aS)(code:aC)(c p d:Nat):Prop:=fA E X g vs s [oC br a code.length c p] (aj a) λR L=>∃(p':Nat)(v':SA)(st:ar)(t:cB),p'<=p+d/\Pg.FS st t/\dv 30000 st/\dZ t/\R= .tuple ⟨[fI v' st,tv t]⟩/\L=oC br a code.length c p'::eK v' st
theorem zL:∀z∈A1,z.length<=3000:=by decide
theorem Za (s:St)(br:Nat)(a:aS)(code:aC)(c p:Nat)(hc:code.length<=2000)(hp:p<=70000)(hr:sL s a code)(hm:∀i∈aj a,i∉[oC br a code.length c p].flatMap It.cr):
  Y9 bf bw 27 [bk br] s br a code c p 3000:=by
 have hd:tR ⟨s,[oC br a code.length c p].flatMap It.cr,aj a⟩ a code:=⟨hr,λb hb=>hb,hm⟩;have AB:jL.length=6:=rfl;refine aX f27 ?_;(repeat' (first|refine' aZ|refine' BJ|((with_reducible apply WO.afl);exact aD;exact λs=>MZ s _;intro _ _ adK _ _)|((with_reducible apply WO.X9);exact aD;exact λs hr=>Nj s _ _ hr;exact acP;intro _ _ adL _ _)|((with_reducible apply WO.vh);exact aD;exact λs=>L4 s;intro _ _ RU RV _ _)|refine' av|fail));all_goals try refine cI
 obtain⟨j0,rfl⟩:∃j0:Nat,Ez=j0:=⟨Ez.toNat,af⟩;refine W.bK (λk l L=>∃(j:Nat)(st:ar)(t:cB)(v:SA)(p1 b2 b3 b4 b5:Nat),Le [(0,bk br),(2,bk b2),(3,bk b3),(4,bk b4),(5,bk b5),(7,.slice RU jL.length RV),(8,iv (j:Int))] l/\cx (oC br a code.length c p1:: .box b2 [eM,eM,eM,cg,eM,cg,eM,.bool false] 71 false:: .box b3 [cg,cg,cg,cg,cg,cg,cg] 75 false:: .box b4 (rS v st) 71 false:: .box b5 (hU t) 75 false:: .aQ (.slice RU jL.length RV) 30 5 (ai jL)::eK v st) L/\k=j/\j<=6/\Pg.FS st t/\dv (130+1730*(6-j)) st/\dZ t/\p1<=p+2)
                                                       (λl L=>∃(j:Nat)(st:ar)(t:cB)(v:SA)(p1 b2 b3 b4 b5:Nat),Le [(0,bk br),(2,bk b2),(3,bk b3),(4,bk b4),(5,bk b5)] l/\cx (oC br a code.length c p1:: .box b2 [eM,eM,eM,cg,eM,cg,eM,.bool false] 71 false:: .box b3 [cg,cg,cg,cg,cg,cg,cg] 75 false:: .box b4 (rS v st) 71 false:: .box b5 (hU t) 75 false::eK v st) L/\j=0/\Pg.FS st t/\dv (130+1730*6) st/\dZ t/\p1<=p+2) _ ⟨j0,_,_,_,_,_,_,_,_,bp,au,rfl,af,Pg.L3 _,(Ng _).1.mono af,(Ng _).2,af⟩ ?_ ?_
 .rintro k l L ⟨j,st,t,v,p1,b2,b3,b4,b5,hl,hL,rfl,h1,h2,h3,h4,h5⟩;refine W.le ?_ hl hL;clear hl hL;rcases xh k with h0|h0
  .subst h0;refine' cM
   (all_goals try refine cI);all_goals exact⟨0,st,t,v,p1,_,_,_,_,bp,au,rfl,h2,h3,h4,h5⟩
  .have D7:((jL.length:Int)-(k:Int)).toNat<jL.length:=by omega
   obtain⟨ho,lQ,ur⟩:=Ux _ (aL D7 aq.ah);(have jM:∀(dH:SA) s,eO bf bw 61 [fI dH st,tv t,ov (jL.getD ((jL.length:Int)-(k:Int)).toNat aq.ah)] s [] dH st (gW st t (jL.getD ((jL.length:Int)-(k:Int)).toNat aq.ah)).1 true (doV (gW st t (jL.getD ((jL.length:Int)-(k:Int)).toNat aq.ah)).2.1 (gW st t (jL.getD ((jL.length:Int)-(k:Int)).toNat aq.ah)).2.2):=λdH s=>Nd s dH st t (h3.mono af) h4 h2 _ ho lQ ur);have g1:=Pg.Rl h2 ho;have g2:=E1 h3 af h4 h2 ho;generalize gW st t (jL.getD ((jL.length:Int)-(k:Int)).toNat aq.ah)=r at jM g1 g2;obtain⟨cZ,t',cd⟩:=r;dsimp only at jM g1 g2;(repeat' (first|refine' aZ|((with_reducible apply WO.nE);exact aD;exact λs=>jM _ s;exact dU;intro _ _ Zb _ _ ai7)|refine' av|fail));(all_goals try refine cI);all_goals exact⟨k-1,af,k-1,cZ,t',Zb,p1,_,_,_,_,by(rw[show((k-1:Nat):Int)=(k:Int)-1 by omega];exact bp),au,rfl,af,g1,g2.1.mono af,g2.2,h5⟩
 .rintro l L ⟨j,st,t,v,p1,b2,b3,b4,b5,hl,hL,-,h2,h3,h4,h5⟩;refine ak ?_;refine W.le ?_ hl hL;clear hl hL;repeat' (first|refine' aZ|refine' BJ|refine' av|fail)
  obtain⟨j1,rfl⟩:∃j1:Nat,Ez=j1:=⟨Ez.toNat,af⟩;refine W.bK (λk l L=>∃(j:Nat)(st:ar)(t:cB)(v:SA)(p1 b2 b3 b4 b5:Nat),Le [(0,bk br),(2,bk b2),(3,bk b3),(4,bk b4),(5,bk b5),(9,iv (j:Int))] l/\cx (oC br a code.length c p1:: .box b2 [eM,eM,eM,cg,eM,cg,eM,.bool false] 71 false:: .box b3 [cg,cg,cg,cg,cg,cg,cg] 75 false:: .box b4 (rS v st) 71 false:: .box b5 (hU t) 75 false::eK v st) L/\k=j/\j<=11/\Pg.FS st t/\dv (10510+1731*(11-j)) st/\dZ t/\p1<=p+3+221*(11-j))
                                                        (λl L=>∃(j:Nat)(st:ar)(t:cB)(v:SA)(p1 b2 b3 b4 b5:Nat),Le [(0,bk br),(2,bk b2),(3,bk b3),(4,bk b4),(5,bk b5)] l/\cx (oC br a code.length c p1:: .box b2 [eM,eM,eM,cg,eM,cg,eM,.bool false] 71 false:: .box b3 [cg,cg,cg,cg,cg,cg,cg] 75 false:: .box b4 (rS v st) 71 false:: .box b5 (hU t) 75 false::eK v st) L/\j=0/\Pg.FS st t/\dv (10510+1731*11) st/\dZ t/\p1<=p+3+221*11) _ ⟨j1,st,t,v,nF,_,_,_,_,bp,au,rfl,af,h2,h3.mono af,h4,af⟩ ?_ ?_
  .clear h2 h3 h4;rintro k l L ⟨j,st,t,v,p1,b2,b3,b4,b5,hl,hL,rfl,h1,h2,h3,h4,h5⟩;refine W.le ?_ hl hL;clear hl hL;rcases xh k with h0|h0
   .subst h0;refine' cM
    (all_goals try refine cI);all_goals exact⟨0,st,t,v,p1,_,_,_,_,bp,au,rfl,h2,h3,h4,h5⟩
   .have alW:dv 70000 st:=h3.mono af;have alX:st.cP.length<=30000:=gu h3.gl af;have jM:∀o,OpD o->kV o=true->∀(dH:SA) s,eO bf bw 61 [fI dH st,tv t,ov o] s [] dH st (gW st t o).1 true (doV (gW st t o).2.1 (gW st t o).2.2):=λo hD ho dH s=>Nd s dH st t (h3.mono af) h4 h2 o ho (zL _ hD.ag) (zL _ hD.to)
    (have g1:∀o,kV o=true->Pg.FS (gW st t o).1 (gW st t o).2.1/\dv (12240+1731*(11-k)) (gW st t o).1/\dZ (gW st t o).2.1:=λo ho=>⟨Pg.Rl h2 ho,(E1 h3 af h4 h2 ho).1.mono af,(E1 h3 af h4 h2 ho).2⟩);(have Q5:∀o,kV o=true->∀(dH:SA) s,eO bf bw 64 [fI dH (gW st t o).1] s [] dH (gW st t o).1 (next (gW st t o).1) true id:=λo ho dH s=>H5 s dH _ ((g1 o ho).2.1.mono af) (gu (g1 o ho).2.1.gl af));(have Tb:∀(dH:SA) s,eO bf bw 64 [fI dH st] s [] dH st (next st) true id:=λdH s=>H5 s dH st alW alX);(have gd:∀o,OpD o->∀s,bL 63 [ov o] s [] (.bool (kV o)):=λo hD s=>abR s o (gu (zL _ hD.ag) af) (gu (zL _ hD.to) af) (gu hD.a8 af));(repeat' (first|refine' aZ|((with_reducible apply WO.Ry);exact aD;exact dU;assumption;(intro s hr hm;exact ai6 s _ _ _ _ _ aP af hr hm);intro _ _ ane anf alY afF _ _;obtain⟨Ij,rfl,adM⟩:=afF)|refine' BJ|((with_reducible apply WO.aW);exact aD;exact λs=>gd _ adM s;intros)|((with_reducible apply WO.nE);exact aD;exact λs=>jM _ adM aP _ s;exact dU;intro _ _ Zc _ _ ai8)|((with_reducible apply WO.nE);exact aD;(first|exact λs=>Q5 _ aP _ s|exact λs=>Tb _ s);exact dU;intro _ _ Ik _ _ agA)|refine' av|fail));all_goals try refine cI
    .obtain⟨f1,f2,f3⟩:=g1 Ij aP;exact⟨k-1,af,k-1,next (gW st t Ij).1,(gW st t Ij).2.1,Ik,nF,_,_,_,_,by(rw[show((k-1:Nat):Int)=(k:Int)-1 by omega];exact bp),au,rfl,af,Pg.CG f1,(Ni f2 (Pg.CG f1)).mono af,f3,af⟩
    .obtain⟨f1,f2,f3⟩:=g1 Ij aP;exact⟨k-1,af,k-1,(gW st t Ij).1,(gW st t Ij).2.1,Zc,nF,_,_,_,_,by(rw[show((k-1:Nat):Int)=(k:Int)-1 by omega];exact bp),au,rfl,af,f1,f2.mono af,f3,af⟩
    .exact⟨k-1,af,k-1,next st,t,Ik,nF,_,_,_,_,by(rw[show((k-1:Nat):Int)=(k:Int)-1 by omega];exact bp),au,rfl,af,Pg.CG h2,(Ni h3 (Pg.CG h2)).mono af,h4,af⟩
    .exact⟨k-1,af,k-1,st,t,v,nF,_,_,_,_,by(rw[show((k-1:Nat):Int)=(k:Int)-1 by omega];exact bp),au,rfl,af,h2,h3.mono af,h4,af⟩
  .rintro l L ⟨j,st,t,v,p1,b2,b3,b4,b5,hl,hL,-,h2,h3,h4,h5⟩;refine ak ?_;refine W.le ?_ hl hL;clear hl hL;refine' cM
   all_goals exact⟨cy,_,_,bY,au,p1,v,st,t,af,h2,h3.mono af,h4,rfl,rfl⟩
variable {z:aC}
section
variable {f:Flat}
theorem P3 (s:St)(a:aS)(c:Nat)(p:List bE)(a':aS)(c':Nat)(q:gD)(hp:p.length<=10000)(hq:q.length<=10000)(h1:bM s a p.length 2 (ai p))(h2:bM s a' q.length 3 (ai q)):
  FC 29 [.agg ⟨qb a c p a' c' q⟩] s [] (aj a++aj a') λR L=>∃b d b' d',R= .agg ⟨qb b d p b' d' q⟩/\L=[j4 b d p,pw b' d' q]:=by
 have hd1:Rd ⟨s,([]:dy).flatMap It.cr,aj a++aj a'⟩ a p.length 2 (ai p):=Rd.of h1 λ_ hb=>cA _ hb
 refine' zbk;refine aX f29 ?_;refine' cM;exact⟨cy,_,_,bY,au,_,_,_,_,rfl,rfl⟩
def E3 (z:aC):Prop:=z.length<=800/\(∀c∈z,c.toNat<128)/\(z.take 2=[47,47]->z.length=2)
instance(z:aC):Decidable (E3 z):=by unfold E3;infer_instance
theorem afG:∀z∈A1,E3 z:=by decide
theorem Il (h:aV z=true):1<=z.length/\z.length<=4/\∀c∈z,97<=c.toNat/\c.toNat<=122:=by unfold aV at h;simp only[bI,fT,bR] at h;exact⟨h.1.2,h.2,h.1.1⟩
theorem ai9 (h:Pg.vq 146 z):E3 z:=by
 have hl:=h.len;obtain⟨ad,h1,h2,rfl⟩:=h;refine⟨af,?_,?_⟩
 .unfold pathOf;split
  .intro c hc;rw[fJ] at hc;subst hc;decide
  .intro c hc;obtain⟨w,hw,hcw⟩:=List.mem_flatten.1 hc;obtain⟨n,hn,rfl⟩:=lp.1 hw;rcases bH.1 hcw with rfl|hcn
   .decide
   .have:=(Il (h1 n hn)).2.2 c hcn;omega
 .unfold pathOf;split
  .intro h;cases h
  .rename_i gh;cases ad with
   |nil=>exact absurd rfl gh
   |cons n l=>
    have hb:=Il (h1 n ay);intro h;exfalso;cases n with
    |nil=>simp at hb
    |cons c n=>
     have:=hb.2.2 c ay;simp at h;rw[h] at this
     revert this;decide
structure gH (f:Flat):Prop where
 nl:f.ad.length<=144
 tl:f.ae.length<=16
 nm:∀x∈f.ad,E3 x.ag/\0<=x.id/\x.id<=16
 th:∀x∈f.ae,0<=x.id/\x.id<=16/\x.a8.length<=192
theorem gH.of (h:Pg.acN f):gH f:=⟨h.nl,h.tl,λx hx=>by have:=h.nm x hx;exact⟨ai9 this.1,af⟩,λx hx=>by have:=h.th x hx;omega⟩
theorem gH.aja (h:gH f)(i:Nat){q:bE}(hq:E3 q.ag/\0<=q.id/\q.id<=16):gH ⟨f.ad.set i q,f.ae⟩:=
 ⟨by rw[gy];exact h.nl,h.tl,λx hx=>by
  rcases Gz hx with hx|rfl
  .exact h.nm x hx
  .exact hq,h.th⟩
theorem gH.afH (h:gH f)(i:Nat){q:bS}(hq:0<=q.id/\q.id<=16/\q.a8.length<=192):gH ⟨f.ad,f.ae.set i q⟩:=
 ⟨h.nl,by rw[gy];exact h.tl,h.nm,λx hx=>by
   rcases Gz hx with hx|rfl
   .exact h.th x hx
   .exact hq⟩
theorem gH.cut (h:gH f)(i:Nat):gH ⟨f.ad.take i,f.ae⟩:=
 ⟨by rw[cO];have:=h.nl;omega,h.tl,λx hx=>h.nm x (B2 hx),h.th⟩
end
variable {a':aS}{st:ar}
section
variable {br c c' p d n:Nat}
theorem WO.afI (hx:jY l xs vs)(hp:nM [oC br a code.length c p] L R)(hh:tR Γ a code)(h:∀s,sL s a code->(∀i∈aj a,i∉[oC br a code.length c p].flatMap It.cr)->Y9 E X g vs s br a code c p d)(k:∀m m' p' v' st t,p'<=p+d->Pg.FS st t->dv 30000 st->dZ t->iY L m->m<=m'->K (.tuple ⟨[fI v' st,tv t]⟩) (oC br a code.length c p'::(eK v' st++R)) m m' (mV (aj a) [oC br a code.length c p] m m') (mW [oC br a code.length c p] m m')):WC E X Γ l g xs ts L K:=
 WO.call (Lm:=[oC br a code.length c p]) (R:=R) hx hp.cT (λs hi=>(hh.row (hi.cT hp.cT|>.sub ⟨R,.refl _,nN _ _⟩)).2) (λs hi=>h s (hh.row (hi.cT hp.cT|>.sub ⟨R,.refl _,nN _ _⟩)).1 (tR.apart hh (hi.cT hp.cT))) (by rintro r' L' m m' ho hm ⟨p',v',st,t,h1,h2,h3,h4,rfl,rfl⟩;exact k m m' p' v' st t h1 h2 h3 h4 ho hm)
theorem WO.afJ {f:Flat}(hx:jY l xs vs)(h:∀s,cS s v st->fA E X g vs s [] (iH v) λR L=>∃a c a' c',R= .tuple ⟨[.agg ⟨qb a c f.ad a' c' f.ae⟩,.bool true]⟩/\L=[j4 a c f.ad,pw a' c' f.ae])(hh:ru Γ L v st)(k:∀m m' a c a' c',iY L m->m<=m'->K (.tuple ⟨[.agg ⟨qb a c f.ad a' c' f.ae⟩,.bool true]⟩) (j4 a c f.ad::pw a' c' f.ae::L) m m' (mV (iH v) [] m m') (mW [] m m')):WC E X Γ l g xs ts L K:=
 WO.call (Lm:=[]) (R:=L) (A:=iH v) hx (.refl _) (λs hi b hb=>(hh.row hi).2 b hb) (λs hi=>h s (hh.row hi).1) (by rintro r L' m m' ho hm ⟨a,c,a',c',rfl,rfl⟩;exact k m m' a c a' c' ho hm)
theorem WO.Zd {q1:List bE}{q2:gD}(hx:jY l xs vs)(h:∀s,bM s a q1.length 2 (ai q1)->bM s a' q2.length 3 (ai q2)->fA E X g vs s [] (aj a++aj a') λR L=>∃b d b' d',R= .agg ⟨qb b d q1 b' d' q2⟩/\L=[j4 b d q1,pw b' d' q2])(h1:kr Γ L a q1.length 2 (ai q1))(h2:kr Γ L a' q2.length 3 (ai q2))(k:∀m m' b d b' d',iY L m->m<=m'->K (.agg ⟨qb b d q1 b' d' q2⟩) (j4 b d q1::pw b' d' q2::L) m m' (mV (aj a++aj a') [] m m') (mW [] m m')):WC E X Γ l g xs ts L K:=
 WO.call (Lm:=[]) (R:=L) (A:=aj a++aj a') hx (.refl _) (λs hi b hb=>by
   rcases eW.1 hb with hb|hb
   .exact(h1.row hi).2 b hb
   .exact(h2.row hi).2 b hb) (λs hi=>h s (h1.row hi).1 (h2.row hi).1) (by rintro r L' m m' ho hm ⟨b,d,b',d',rfl,rfl⟩;exact k m m' b d b' d' ho hm)
end
abbrev Ze (E:iq)(X:fY)(g:FuncId)(vs:aY)(s:St)(br:Nat)(a:aS)(code:aC)(c p d:Nat):Prop:=fA E X g vs s [oC br a code.length c p] (aj a) λR L=>∃(p':Nat)(f:Flat)(an:aS)(cn:Nat)(a0:aS)(p0:List bE)(c0:Nat)(at_:aS)(ct:Nat),p'<=p+d/\gH f/\Sub 2 a0 p0 an f.ad/\R= .agg ⟨qb an cn f.ad at_ ct f.ae⟩/\L=[oC br a code.length c p',j4 a0 c0 p0,pw at_ ct f.ae]
theorem RW {E:iq}{l:Kn}{L:dy}{a:aS}{br c p d:Nat}{code:aC}{rs:List ResultVar}{x:Ex}{p':Nat}{f:Flat}{an:aS}{cn:Nat}{a0:aS}{p0:List bE}{c0:Nat}{at_:aS}{ct:Nat}(hx:x= .normal\/x= .ret)(hr:qO E l L rs [.agg ⟨qb an cn f.ad at_ ct f.ae⟩])(hL:cx [oC br a code.length c p',j4 a0 c0 p0,pw at_ ct f.ae] L)(hp:p'<=p+d)(hs:Sub 2 a0 p0 an f.ad)(hD:gH f):
  wK E rs (λR L=>∃(p':Nat)(f:Flat)(an:aS)(cn:Nat)(a0:aS)(p0:List bE)(c0:Nat)(at_:aS)(ct:Nat),p'<=p+d/\gH f/\Sub 2 a0 p0 an f.ad/\R= .agg ⟨qb an cn f.ad at_ ct f.ae⟩/\L=[oC br a code.length c p',j4 a0 c0 p0,pw at_ ct f.ae]) x l L:=⟨hx,_,_,hr,hL,p',f,an,cn,a0,p0,c0,at_,ct,hp,hD,hs,rfl,rfl⟩
theorem Zf {E:iq}{l:Kn}{L:dy}{a:aS}{br c p d:Nat}{code:aC}{rs:List ResultVar}{x:Ex}{p':Nat}{nm:List bE}{th:gD}{an:aS}{cn:Nat}{at_:aS}{ct i:Nat}{q:bE}(hx:x= .normal\/x= .ret)(hr:qO E l L rs [.agg ⟨qb an cn nm at_ ct th⟩])(hL:cx [oC br a code.length c p',.aQ (.slice an nm.length cn) 52 2 (ai (nm.set i q)),pw at_ ct th] L)(hp:p'<=p+d)(hD:gH ⟨nm.set i q,th⟩):wK E rs (λR L=>∃(p':Nat)(f:Flat)(an:aS)(cn:Nat)(a0:aS)(p0:List bE)(c0:Nat)(at_:aS)(ct:Nat),p'<=p+d/\gH f/\Sub 2 a0 p0 an f.ad/\R= .agg ⟨qb an cn f.ad at_ ct f.ae⟩/\L=[oC br a code.length c p',j4 a0 c0 p0,pw at_ ct f.ae]) x l L:=by
 have e:(nm.set i q).length=nm.length:=gy;refine RW (f:=⟨nm.set i q,th⟩) (an:=an) (cn:=cn) (a0:=an) (p0:=nm.set i q) (c0:=cn) (at_:=at_) (ct:=ct) hx ?_ ?_ hp Sub.all hD
 .dsimp only[qb];rw[e];exact hr
 .dsimp only[j4];rw[e];exact hL
theorem P4 {E:iq}{l:Kn}{L:dy}{a:aS}{br c p d:Nat}{code:aC}{rs:List ResultVar}{x:Ex}{p':Nat}{nm:List bE}{th:gD}{an:aS}{cn:Nat}{at_:aS}{ct i:Nat}{q:bS}(hx:x= .normal\/x= .ret)(hr:qO E l L rs [.agg ⟨qb an cn nm at_ ct th⟩])(hL:cx [oC br a code.length c p',j4 an cn nm,.aQ (.slice at_ th.length ct) 54 3 (ai (th.set i q))] L)(hp:p'<=p+d)(hD:gH ⟨nm,th.set i q⟩):wK E rs (λR L=>∃(p':Nat)(f:Flat)(an:aS)(cn:Nat)(a0:aS)(p0:List bE)(c0:Nat)(at_:aS)(ct:Nat),p'<=p+d/\gH f/\Sub 2 a0 p0 an f.ad/\R= .agg ⟨qb an cn f.ad at_ ct f.ae⟩/\L=[oC br a code.length c p',j4 a0 c0 p0,pw at_ ct f.ae]) x l L:=by
 have e:(th.set i q).length=th.length:=gy;refine RW (f:=⟨nm,th.set i q⟩) (an:=an) (cn:=cn) (a0:=an) (p0:=nm) (c0:=cn) (at_:=at_) (ct:=ct) hx ?_ ?_ hp Sub.all hD
 .dsimp only[qb];rw[e];exact hr
 .dsimp only[pw];rw[e];exact hL
theorem JJ (s:St)(br:Nat)(a:aS)(code:aC)(c p:Nat)(hc:code.length<=2000)(hp:p<=60000)(hr:sL s a code)(hm:∀i∈aj a,i∉[oC br a code.length c p].flatMap It.cr):
  Ze bf bw 12 [bk br] s br a code c p 4000:=by
 have hd:tR ⟨s,[oC br a code.length c p].flatMap It.cr,aj a⟩ a code:=⟨hr,λb hb=>hb,hm⟩;refine aX f12 ?_;(repeat' (first|refine' aZ|((with_reducible apply WO.afI);exact aD;exact dU;assumption;(intro s hr hm;exact Za s _ _ _ _ _ aP af hr hm);intro _ _ akb akc ajb akd ajc Zg Zh Zi _ _;obtain⟨zM,Uy,sM⟩:=Pg.JJ Zg)|((with_reducible apply WO.afJ);exact aD;(intro s hr;exact YZ s _ _ (Zh.mono af) _ Zi _ Uy hr);exact ez;intro _ _ anN anO anP anQ _ _)|refine' av|fail));have hD:=gH.of sM;have vJ:0<zM.ad.length:=nO.2 sM.n0;have Wf:0<zM.ae.length:=nO.2 sM.t0;have pJ:=hD.nl;have qM:=hD.tl;(repeat' (first|refine' aZ|((with_reducible apply WO.Zd);exact aD;(intro s h1 h2;exact P3 s _ _ _ _ _ _ (by have:=sM.nl;omega) (by have:=sM.tl;omega) h1 h2);exact cD;exact cD;intro _ _ alZ al0 al1 al2 _ _)|refine' BJ|refine' adf|refine' adg|refine' Rt|((with_reducible apply WO.alH);exact fS;exact fS;exact xW;exact lT;intro _)|((with_reducible apply WO.aiD);exact fS;exact fS;exact xW;exact lT;intro _)|((with_reducible apply WO.aiE);exact fS;exact fS;exact xW;exact lT;intro _)|refine' XS|refine' av|fail));all_goals try refine cI
 .exact Zf cy bY au af (by exact hD.aja _ ⟨afG _ afh,(hD.nm _ (aL af _)).2⟩)
 .exact Zf cy bY au af (by exact hD.aja _ (by dsimp only;exact⟨(hD.nm _ (aL af _)).1,af,af⟩))
 .exact P4 cy bY au af (by exact hD.afH _ (by dsimp only;exact⟨af,af,(hD.th _ (aL af _)).2.2⟩))
 .exact P4 cy bY au af (by exact hD.afH _ (by dsimp only;exact⟨(hD.th _ (aL af _)).1,(hD.th _ (aL af _)).2.1,(hD.th _ (aL af _)).2.2⟩))
 .exact P4 cy bY au af (by exact hD.afH _ (by dsimp only;exact⟨(hD.th _ (aL af _)).1,(hD.th _ (aL af _)).2.1,af⟩))
 .exact RW (f:=⟨zM.ad.take _,zM.ae⟩) cy (by(exact bY)) (by(exact au)) af Ht (by exact hD.cut _)
 .exact RW (f:=zM) cy (by(exact bY)) (by(exact au)) af Sub.all (by exact hD)
section
variable {br c p d n:Nat}
abbrev Zj (E:iq)(X:fY)(g:FuncId)(vs:aY)(s:St)(a:aS)(code:aC):Prop:=fA E X g vs s [] (aj a) λR L=>∃(br:Nat)(a2:aS)(c2:Nat)(qH:aC),afE a code a2 qH/\qH.length<=2000/\R=bk br/\L=[oC br a2 qH.length c2 0]
theorem WO.afK (hx:jY l xs vs)(h:∀s,sL s a code->Uu code.length c->Zj E X g vs s a code)(hd:tR Γ a code)(hv:Uu code.length c)(k:∀m m' br a2 c2 (qH:aC),afE a code a2 qH->qH.length<=2000->tR Γ a2 qH->iY L m->m<=m'->K (bk br) (oC br a2 qH.length c2 0::L) m m' (λi=>i∈aj a\/i∈([]:dy).flatMap It.cr\/(m<=i/\i<m')) (λi=>i∈([]:dy).flatMap It.cr\/(m<=i/\i<m'))):WC E X Γ l g xs ts L K:=
 WO.call (Lm:=[]) (R:=L) (A:=aj a) hx (.refl _) (λs hi=>(hd.row hi).2) (λs hi=>h s (hd.row hi).1 hv) (by rintro r L' m m' ho hm ⟨br,a2,c2,qH,h1,h2,rfl,rfl⟩;exact k m m' br a2 c2 qH h1 h2 (hd.sub h1) ho hm)
theorem WO.afL (hx:jY l xs vs)(hp:nM [oC br a code.length c p] L R)(hh:tR Γ a code)(h:∀s,sL s a code->(∀i∈aj a,i∉[oC br a code.length c p].flatMap It.cr)->Ze E X g vs s br a code c p d)(k:∀m m' p' f an cn a0 p0 c0 at_ ct,p'<=p+d->gH f->Sub 2 a0 p0 an f.ad->iY L m->m<=m'->K (.agg ⟨qb an cn f.ad at_ ct f.ae⟩) (oC br a code.length c p'::j4 a0 c0 p0::pw at_ ct f.ae::R) m m' (λi=>i∈aj a\/i∈[oC br a code.length c p].flatMap It.cr\/(m<=i/\i<m')) (λi=>i∈[oC br a code.length c p].flatMap It.cr\/(m<=i/\i<m'))):WC E X Γ l g xs ts L K:=
 WO.call (Lm:=[oC br a code.length c p]) (R:=R) hx hp.cT (λs hi=>(hh.row (hi.cT hp.cT|>.sub ⟨R,.refl _,nN _ _⟩)).2) (λs hi=>h s (hh.row (hi.cT hp.cT|>.sub ⟨R,.refl _,nN _ _⟩)).1 (tR.apart hh (hi.cT hp.cT))) (by rintro r' L' m m' ho hm ⟨p',f,an,cn,a0,p0,c0,at_,ct,h1,h2,h3,rfl,rfl⟩;exact k m m' p' f an cn a0 p0 c0 at_ ct h1 h2 h3 ho hm)
end
theorem Uz (s:St)(a:aS)(code:aC)(c:Nat)(hr:sL s a code)(hv:Uu code.length c):Zj bf bw 11 [.slice a code.length c] s a code:=by
 have hd:tR ⟨s,([]:dy).flatMap It.cr,aj a⟩ a code:=tR.of hr λ_ hb=>hb
 have hv':Uu code.length c:=hv;refine aX f11 ?_;(repeat' (first|refine' aZ|((with_reducible apply WO.alR);exact fS;exact fS;assumption;assumption;exact lT;intro _ anR)|refine' av|fail));all_goals try refine cI
 .exact⟨cy,_,_,bY,au,_,_,_,_,⟨rfl,_,rfl⟩,by rw[cO];omega,rfl,rfl⟩
 .exact⟨cy,_,_,bY,au,_,_,_,code,⟨rfl,code.length,fU.symm⟩,af,rfl,rfl⟩
abbrev Zk (E:iq)(X:fY)(g:FuncId)(vs:aY)(s:St)(a:aS):Prop:=fA E X g vs s [] (aj a) λR L=>∃(f:Flat)(an:aS)(cn:Nat)(a0:aS)(p0:List bE)(c0:Nat)(at_:aS)(ct:Nat),gH f/\Sub 2 a0 p0 an f.ad/\R= .agg ⟨qb an cn f.ad at_ ct f.ae⟩/\L=[j4 a0 c0 p0,pw at_ ct f.ae]
theorem Cj (s:St)(a:aS)(code:aC)(c:Nat)(hr:sL s a code)(hv:Uu code.length c):Zk bf bw 4 [.slice a code.length c] s a:=by
 have hd:tR ⟨s,([]:dy).flatMap It.cr,aj a⟩ a code:=tR.of hr λ_ hb=>hb
 have hv':Uu code.length c:=hv;refine aX f4 ?_;(repeat' (first|refine' aZ|((with_reducible apply WO.afK);exact aD;(intro s h1 h2;exact Uz s _ _ _ h1 h2);assumption;assumption;intro _ _ b_o a_o c_o al3 anS anT anU _ _)|((with_reducible apply WO.afL);exact aD;exact dU;assumption;(intro s hr hm;exact JJ s _ _ _ _ _ aP af hr hm);intro _ _ p_f f_f anV anW anX anY anZ an0 an1 an2 al4 al5 _ _)|refine' av|fail));all_goals try refine cI
 exact⟨cy,_,_,bY,au,f_f,_,_,_,_,_,_,_,al4,al5,rfl,rfl⟩
variable {r:Value}
structure eU (s:St)(a a':aS)(f:Flat):Prop where
 n:bM s a f.ad.length 2 (ai f.ad)
 t:bM s a' f.ae.length 3 (ai f.ae)
structure Hs (Γ:qN)(L:dy)(a a':aS)(f:Flat):Prop where
 n:kr Γ L a f.ad.length 2 (ai f.ad)
 t:kr Γ L a' f.ae.length 3 (ai f.ae)
abbrev qV (a a':aS):List Nat:=aj a++aj a'
abbrev vD (a:aS)(c:Nat)(a':aS)(c':Nat)(f:Flat):Value:=.agg ⟨qb a c f.ad a' c' f.ae⟩
section
variable {f:Flat}{s:St}
theorem WO.lg (hx:jY l xs vs)(h:∀s,eU s a a' f->l7 E X g vs s (qV a a') r)(hh:Hs Γ L a a' f)(k:∀m m',iY L m->m<=m'->K r L m m' (mV (qV a a') [] m m') (mW [] m m')):WC E X Γ l g xs ts L K:=
 WO.nu hx (λs hi=>⟨λi hb=>by
   rcases eW.1 hb with hb|hb
   .exact(hh.n.row hi).2 i hb
   .exact(hh.t.row hi).2 i hb,h s ⟨(hh.n.row hi).1,(hh.t.row hi).1⟩⟩) k
theorem iw.n (h:eU s a a' f):Rd ⟨s,([]:dy).flatMap It.cr,qV a a'⟩ a f.ad.length 2 (ai f.ad):=Rd.of h.n λ_ hb=>cA _ hb
theorem iw.t (h:eU s a a' f):Rd ⟨s,([]:dy).flatMap It.cr,qV a a'⟩ a' f.ae.length 3 (ai f.ae):=Rd.of h.t λ_ hb=>dt _ hb
end
structure FlS (f:Flat):Prop where
 nl:f.ad.length<=1000
 tl:f.ae.length<=1000
 nm:∀x∈f.ad,x.ag.length<=5000/\ -1000<=x.id/\x.id<=1000
 th:∀x∈f.ae,-1000<=x.id/\x.id<=1000/\x.a8.length<=5000
theorem gH.s {f:Flat}(h:gH f):FlS f:=⟨by have:=h.nl;omega,by have:=h.tl;omega,λx hx=>by have:=h.nm x hx;have:=this.1.1;omega,λx hx=>by have:=h.th x hx;omega⟩
theorem Nk {α:Type}{sz:Nat}[aq α sz](P:α->Bool)(l:List α){i:Nat}(hi:i<l.length):((l.drop i).findIdx? P).map (·+i)=if P (l.getD i (aq.ah (α:=α) (sz:=sz))) then some i else((l.drop (i+1)).findIdx? P).map (·+(i+1)):=by
 rw[drop_cons (sz:=sz) hi,Bo];split
 .simp
 .rw[Option.map_map]
  congr 1
  funext j
  simp only[Function.comp];omega
theorem P5 (s:St)(a:aS)(c:Nat)(a':aS)(c':Nat)(f:Flat)(hf:FlS f)(z:aC)(hr:eU s a a' f):bL 38 [vD a c a' c' f,sv z] s (qV a a') (iv (Yx (f.ju z))):=by
 have pL:=iw.n hr;have pJ:=hf.nl;refine aX f38 ?_;refine' cM
 refine W.bK (λk l L=>∃(i b2:Nat),Le [(1,sv z),(2,bk b2),(5,iv (i:Int))] l/\cx [.box b2 (qb a c f.ad a' c' f.ae) 26 false] L/\k=f.ad.length-i/\i<=f.ad.length/\f.ju z=((f.ad.drop i).findIdx? λx=>decide (x.ag=z)).map (·+i))
  (λl L=>f.ju z=none) _ ⟨0,_,bp,au,rfl,af,by simp[Flat.ju]⟩ ?_ ?_
 .rintro k l L ⟨i,b2,hl,hL,rfl,h1,h2⟩;refine W.le ?_ hl hL;clear hl hL;by_cases hi:i<f.ad.length
  .rw[Nk _ _ hi] at h2;refine' cM
   all_goals try refine cI
   .rw[show f.ju z=some i from h2.trans (if_pos (du j5))];refine' ax;rfl
   .exact⟨_,af,i+1,_,bp,au,rfl,af,h2.trans (if_neg (by rw[bR];exact j5))⟩
  .have fb:i=f.ad.length:=by omega
   subst fb;rw[kG] at h2;refine' cM;(all_goals try refine cI);all_goals exact h2
 .rintro l L h1;refine ak ?_;refine W.le ?_ (Le.nil _) (cx.nil _);refine' cM
  rw[h1];refine' ax;rfl
theorem BL (s:St)(a:aS)(c:Nat)(a':aS)(c':Nat)(f:Flat)(hf:FlS f)(z:Int)(hr:eU s a a' f):bL 40 [vD a c a' c' f,iv z] s (qV a a') (iv (Yx (f.eB z))):=by
 have sj:=iw.t hr;have qM:=hf.tl;refine aX f40 ?_;refine' cM
 refine W.bK (λk l L=>∃(i b2:Nat),Le [(1,iv z),(2,bk b2),(5,iv (i:Int))] l/\cx [.box b2 (qb a c f.ad a' c' f.ae) 26 false] L/\k=f.ae.length-i/\i<=f.ae.length/\f.eB z=((f.ae.drop i).findIdx? λx=>decide (x.id=z)).map (·+i))
  (λl L=>f.eB z=none) _ ⟨0,_,bp,au,rfl,af,by simp[Flat.eB]⟩ ?_ ?_
 .rintro k l L ⟨i,b2,hl,hL,rfl,h1,h2⟩;refine W.le ?_ hl hL;clear hl hL;by_cases hi:i<f.ae.length
  .rw[Nk _ _ hi] at h2;refine' cM
   all_goals try refine cI
   .rw[show f.eB z=some i from h2.trans (if_pos (du j5))];refine' ax;rfl
   .exact⟨_,af,i+1,_,bp,au,rfl,af,h2.trans (if_neg (by rw[bR];exact j5))⟩
  .have fb:i=f.ae.length:=by omega
   subst fb;rw[kG] at h2;refine' cM;(all_goals try refine cI);all_goals exact h2
 .rintro l L h1;refine ak ?_;refine W.le ?_ (Le.nil _) (cx.nil _);refine' cM
  rw[h1];refine' ax;rfl
theorem JQ (s:St)(a:aS)(c:Nat)(a':aS)(c':Nat)(f:Flat)(hf:FlS f)(z:Int)(hr:eU s a a' f):bL 41 [vD a c a' c' f,iv z] s (qV a a') (.bool (f.kz z)):=by
 have pL:=iw.n hr;have sj:=iw.t hr;have qM:=hf.tl;have sU:∀s,eU s a a' f->bL 40 [vD a c a' c' f,iv z] s (qV a a') (iv (Yx (f.eB z))):=λs hr=>BL s a c a' c' f hf z hr
 unfold Flat.kz;cases hz:f.eB z with
 |none=>
  rw[hz] at sU;have sU:∀s,eU s a a' f->bL 40 [vD a c a' c' f,iv z] s (qV a a') (iv (-1)):=sU;refine aX f41 ?_;repeat' (first|refine' aZ|refine' RB|refine' av|fail)
  all_goals try refine cI
  refine' ax;rfl
 |some k=>
  rw[hz] at sU;have sU:∀s,eU s a a' f->bL 40 [vD a c a' c' f,iv z] s (qV a a') (iv (k:Int)):=sU;have hk:k<f.ae.length:=(qe.1 hz).1;refine aX f41 ?_;repeat' (first|refine' aZ|refine' RB|refine' av|fail)
  all_goals try refine cI
  refine' ax;rfl
theorem Pu (s:St)(a:aS)(c:Nat)(a':aS)(c':Nat)(f:Flat)(hf:FlS f)(z:Int)(hr:eU s a a' f):bL 71 [vD a c a' c' f,iv z] s (qV a a') (iv (f.many z)):=by
 have pL:=iw.n hr;have pJ:=hf.nl;refine aX f71 ?_;refine' cM
 refine W.bK (λk l L=>∃(i n b2:Nat),Le [(1,iv z),(2,bk b2),(5,iv (n:Int)),(6,iv (i:Int))] l/\cx [.box b2 (qb a c f.ad a' c' f.ae) 26 false] L/\k=f.ad.length-i/\i<=f.ad.length/\n<=i/\f.many z=n+(f.ad.drop i).countP λx=>decide (x.id=z))
  (λl L=>Le [(5,iv (f.many z:Int))] l) _ ⟨0,0,_,bp,au,rfl,af,af,by simp[Flat.many]⟩ ?_ ?_
 .rintro k l L ⟨i,n,b2,hl,hL,rfl,h1,h2,h3⟩;refine W.le ?_ hl hL;clear hl hL;by_cases hi:i<f.ad.length
  .rw[drop_cons hi,iA] at h3;refine' cM
   all_goals try refine cI
   .exact⟨_,af,i+1,n+1,_,bp,au,rfl,af,af,by rw[h3,if_pos (du j5)];omega⟩
   .exact⟨_,af,i+1,n,_,bp,au,rfl,af,af,by rw[h3,if_neg (by rw[bR];exact j5)];omega⟩
  .have fb:i=f.ad.length:=by omega
   subst fb;rw[kG,KP,xj] at h3;subst h3;refine' cM;(all_goals try refine cI);all_goals exact bp
 .rintro l L hl;refine ak ?_;refine W.le ?_ hl (cx.nil _);refine' cM
  refine' ax;rfl
theorem My (s:St)(z:aC)(hz:z.length<=100000):bL 37 [sv z] s [] (.tuple ⟨[sv (bW z).1,sv (bW z).2]⟩):=by
 refine aX f37 ?_;refine' cM
 refine W.bK (λk l L=>∃(i n:Nat),Le [(0,sv z),(4,iv (n:Int)),(5,iv (i:Int))] l/\k=z.length-i/\i<=z.length/\n<=i/\(n=0\/n<z.length)/\tG z=tF i n (z.drop i))
  (λl L=>Le [(0,sv z),(4,iv (tG z:Int))] l/\(tG z=0\/tG z<z.length)) _ ⟨0,0,bp,rfl,af,af,.inl rfl,rfl⟩ ?_ ?_
 .rintro k l L ⟨i,n,hl,rfl,h1,h2,h4,h3⟩;refine W.le ?_ hl (cx.nil _);clear hl;by_cases hi:i<z.length
  .have hd:z.drop i=z.getD i 0::z.drop (i+1):=by
    rw[uQ hi,a7,bc hi];rfl
   rw[hd,tF] at h3;refine' cM;all_goals try refine cI
   .exact⟨_,af,i+1,i,bp,rfl,af,af,.inr hi,by rw[h3,if_pos (JR.1 j5)]⟩
   .exact⟨_,af,i+1,n,bp,rfl,af,af,h4,by rw[h3,if_neg (λh=>j5 (JR.2 h))]⟩
  .have fb:i=z.length:=by omega
   subst fb;rw[kG,tF] at h3;subst h3;refine' cM;(all_goals try refine cI);all_goals exact⟨bp,h4⟩
 .rintro l L ⟨hl,h4⟩;refine ak ?_;refine W.le ?_ hl (cx.nil _);clear hl;unfold bW;refine' cM
  all_goals try refine cI
  ·(refine' ax)
   rw[if_pos af,show(min (1:Int) (z.length:Int)).toNat=min 1 z.length by omega];rfl
  ·(refine' ax)
   rw[if_neg af];rfl
theorem Zl (z:aC):(bW z).1.length<=z.length+1/\(bW z).2.length<=z.length:=by unfold bW;split<;>simp only[cU,kC,eP,cO]<;>omega
theorem Yi (s:St)(a:aS)(c:Nat)(a':aS)(c':Nat)(f:Flat)(hf:FlS f)(z:aC)(hr:eU s a a' f):bL 42 [vD a c a' c' f,sv z] s (qV a a') (iv (f.vR z)):=by
 have pL:=iw.n hr;have pJ:=hf.nl;refine aX f42 ?_;refine' cM
 refine W.bK (λk l L=>∃(i n b2:Nat),Le [(1,sv z),(2,bk b2),(5,iv (n:Int)),(6,iv (i:Int))] l/\cx [.box b2 (qb a c f.ad a' c' f.ae) 26 false] L/\k=f.ad.length-i/\(i<=f.ad.length\/i=1)/\1<=i/\n<=i/\f.vR z=n+(f.ad.drop i).countP λx=>decide ((bW x.ag).1=z))
  (λl L=>Le [(5,iv (f.vR z:Int))] l) _ ⟨1,0,_,bp,au,rfl,af,af,af,by simp[Flat.vR]⟩ ?_ ?_
 .rintro k l L ⟨i,n,b2,hl,hL,rfl,h1,h0,h2,h3⟩;refine W.le ?_ hl hL;clear hl hL;by_cases hi:i<f.ad.length
  .have sS:=(hf.nm _ (aL hi aq.ah)).1;rw[drop_cons hi,iA] at h3;repeat' (first|refine' aZ|refine' Yg|refine' av|fail)
   all_goals try refine cI
   .exact⟨_,af,i+1,n+1,_,bp,au,rfl,af,af,af,by rw[h3,if_pos (du j5)];omega⟩
   .exact⟨_,af,i+1,n,_,bp,au,rfl,af,af,af,by rw[h3,if_neg (by rw[bR];exact j5)];omega⟩
  .rw[Ac af,KP,xj] at h3;subst h3;refine' cM
   (all_goals try refine cI);all_goals exact bp
 .rintro l L hl;refine ak ?_;refine W.le ?_ hl (cx.nil _);refine' cM
  refine' ax;rfl
abbrev dT:bS:=aq.ah (α:=bS)
abbrev dF:bE:=aq.ah (α:=bE)
theorem Nl (f:Flat):f.kA=true↔(1<=f.ae.length/\f.ae.length<=16)/\(f.ae.getD 0 dT).id=0/\(f.ae.getD 0 dT).aN=true/\∀i,i<f.ae.length->f.tH i=true:=by
 unfold Flat.kA fM;simp only[bI,bR,fT,kF];constructor
 .rintro⟨⟨⟨h1,h2⟩,h3⟩,h4⟩;exact⟨af,h2,h3,h4⟩
 .rintro⟨h1,h2,h3,h4⟩;exact⟨⟨⟨af,h2⟩,h3⟩,h4⟩
theorem UA (f:Flat)(i:Nat):f.tH i= !(!fM (f.ae.getD i dT).id 0 15||(decide (0<i)&&decide ((f.ae.getD i dT).id<=(f.ae.getD (i-1) dT).id))||((f.ae.getD i dT).aN&&decide ((f.ae.getD i dT).a8≠[]))||decide (192<(f.ae.getD i dT).a8.length)||!fM (f.many (f.ae.getD i dT).id) 1 (if(f.ae.getD i dT).aN then 1 else 9)):=rfl
theorem JP (s:St)(a:aS)(c:Nat)(a':aS)(c':Nat)(f:Flat)(hf:FlS f)(hr:eU s a a' f):bL 36 [vD a c a' c' f] s (qV a a') (.bool f.kA):=by
 have pL:=iw.n hr;have sj:=iw.t hr;have qM:=hf.tl;have pJ:=hf.nl;have rC:=Nl f;by_cases h0:(1<=f.ae.length/\f.ae.length<=16)/\(f.ae.getD 0 dT).id=0/\(f.ae.getD 0 dT).aN=true
 .obtain⟨h1,h2,h3⟩:=h0;have Te:(!(f.ae.getD 0 dT).aN)=false:=by rw[h3];rfl
  refine aX f36 ?_;refine' zb2;all_goals first|(exfalso;omega;done)|(exfalso;simp only[Ab,mQ] at uw;omega;done)|contradiction|skip
  refine W.bK (λk l L=>∃(i b1:Nat),Le [(1,bk b1),(3,iv (i:Int))] l/\cx [.box b1 (qb a c f.ad a' c' f.ae) 26 false] L/\k=f.ae.length-i/\i<=f.ae.length/\∀j,j<i->f.tH j=true)
   (λl L=>f.kA=true) _ ⟨0,_,bp,au,rfl,af,λj hj=>by omega⟩ ?_ ?_
  .rintro k l L ⟨i,b1,hl,hL,rfl,g1,g2⟩;refine W.le ?_ hl hL;clear hl hL;by_cases hi:i<f.ae.length
   .have hB:=UA f i;have hx:=hf.th _ (aL hi dT);have JZ:f.tH i=false->f.kA=false:=λh=>by
     cases hb:f.kA with
     |false=>rfl
     |true=>have:=((rC.1 hb).2.2.2 i hi);rw[h] at this;cases this
    cases vu:(f.ae.getD i dT).aN with
    |true=>
     refine' zaf
    |false=>
     refine' zaf
   .have fb:i=f.ae.length:=by omega
    subst fb;refine' cM;(all_goals try refine cI);all_goals exact rC.2 ⟨h1,h2,h3,g2⟩
  .rintro l L h4;refine ak ?_;refine W.le ?_ (Le.nil _) (cx.nil _);refine' cM
   rw[h4];refine' ax;rfl
 .have hb:f.kA=false:=by
   cases hb:f.kA with
   |false=>rfl
   |true=>have:=rC.1 hb;exact absurd ⟨this.1,this.2.1,this.2.2.1⟩ h0
  rw[hb];refine aX f36 ?_;refine' zb2;all_goals try refine cI
  all_goals first|((refine' ax);rfl;done)|(exfalso;exact h0 ⟨⟨af,af⟩,aP,aP⟩)
theorem Zm {f:Flat}{z:aC}{k:Nat}(h:f.ju z=some k):k<f.ad.length:=(qe.1 h).1
theorem afM {o:Option Nat}:0<=Yx o↔o.isSome=true:=by
 cases o with
 |none=>exact⟨λh=>absurd (show(0:Int)<= -1 from h) af,λh=>by cases h⟩
 |some k=>exact⟨λ_=>rfl,λ_=>by show(0:Int)<=(k:Int);omega⟩
variable {t2:TypeId}
end Go.Pl
