/- Lemmas of the proof. No conditions. -/
import Derived.Test.YtajgfdfbnhchcaaGreatDoorAd6
set_option maxRecDepth 100000
set_option maxHeartbeats 4000000
set_option linter.unusedVariables false
set_option linter.unusedSimpArgs false
open Go.Proofs.Tryz
namespace Go.Pl
open Go Go.Ev Go.Lg Go.Proofs
theorem sF (s:St)(v:SA)(st:ar)(h:dv 80000 st)(t:bX)(ht:eb t)(k:Nat)(hk:k<16)(z:aA)(hz:z.length<=3000):
  eQ a8 bj 151 [fD v st,tv t,iv k,sv z] s [] v st (nH st t k z).1 (nH st t k z).2.2 (B1 (nH st t k z).2.1 (nH st t k z).2.2):=by
 have h1:dv 100000 st:=h.mono ag;have h9:dv 90000 st:=h.mono ag;have hrt:=ht.rt;obtain⟨_,hw,Mf⟩:=rm (st:=st) ht;have x9:=ht.mn;have J3:bw ((wide st t).getD k ak.ah)=true:=Mf _ (aJ ag _);have dK:nH st t k z=if aW st ((wide st t).getD k ak.ah)=z/\(max t.many ((k:Int)+1))=t.many then(st,t,true) else
   match(if aW st ((wide st t).getD k ak.ah)=z then some (st,((wide st t).getD k ak.ah)) else IU st z) with
   |none=>(st,t,false)
   |some (st1,p)=>match gY st1 t ((wide st t).set k p) (max t.many ((k:Int)+1)) with
    |(eL,none)=>(eL,eY,false)
    |(eL,some t2)=>(if p=((wide st t).getD k ak.ah) then eL else free eL ((wide st t).getD k ak.ah),t2,true):=rfl
 by_cases hA:aW st ((wide st t).getD k ak.ah)=z
 .have hAd:decide ((jW st ((wide st t).getD k ak.ah)).getD []=z)=true:=dt hA;have hAn:(!decide ((jW st ((wide st t).getD k ak.ah)).getD []=z))=false:=by rw[hAd];rfl
  by_cases hB:(max t.many ((k:Int)+1))=t.many
  .have hBd:=dt hB;rw[dK,if_pos ⟨hA,hB⟩];refine aU f151 ?_;dsimp only[eO];(repeat' (first|refine' a7|refine' Dx|refine' Ax|refine' aw|fail))
   (refine' dW)
   .rfl
   .intro hc;cases hc
  .have hBd:=gS hB;rw[if_neg (λhx=>hB hx.2),if_pos hA] at dK;simp only at dK;have SI:=J3;have hpd:(!decide (((wide st t).getD k ak.ah)=((wide st t).getD k ak.ah)))=false:=by simp
   have Ya:∀q∈((wide st t).set k ((wide st t).getD k ak.ah)),bw q=true:=λq hq=>by
    rcases oS hq with hq|rfl
    .exact Mf q hq
    .exact SI
   have MB:((wide st t).set k ((wide st t).getD k ak.ah)).length=16:=by rw[gE];exact hw
   have bS:=vU (t:=t) (lv:=((wide st t).set k ((wide st t).getD k ak.ah))) (many:=(max t.many ((k:Int)+1))) h9 hrt MB Ya ag;rcases pe:gY st t ((wide st t).set k ((wide st t).getD k ak.ah)) (max t.many ((k:Int)+1)) with⟨eL,o⟩
   have hlc:∀(v':SA) s a c,bO s a (wide st t).length 5 (ai ((wide st t).set k ((wide st t).getD k ak.ah)))->(∀b∈aj a,b∉(eO v' st).flatMap It.aY)->FH s a (wide st t).length c 83 5->eQ a8 bj 192 [fD v' st,tv t,.slice a (wide st t).length c,iv (max t.many ((k:Int)+1))] s (aj a) v' st eL o.isSome (X8 o):=λv' s a c hr hm hv=>by
    have:=zq s v' st h9 t hrt a c ((wide st t).set k ((wide st t).getD k ak.ah)) MB (max t.many ((k:Int)+1)) ag (by rw[gE];exact hr) hm (by rw[gE];exact hv);rw[pe,gE] at this;exact this
   rw[pe] at dK bS;cases o with
   |none=>
    simp only at dK;rw[dK];refine aU f151 ?_;dsimp only[eO];(refine' Xp)
    (refine' dW)
    .rfl
    .exact λ_=>u0 rfl
   |some t2=>
    simp only at dK bS;rw[if_pos trivial] at dK;rw[dK];refine aU f151 ?_;dsimp only[eO];(refine' Xp)
    (refine' dW)
    .rfl
    .intro hc;cases hc
 .have hAd:decide ((jW st ((wide st t).getD k ak.ah)).getD []=z)=false:=gS hA;have hAn:(!decide ((jW st ((wide st t).getD k ak.ah)).getD []=z))=true:=by rw[hAd];rfl
  rw[if_neg (λhx=>hA hx.1),if_neg hA] at dK;by_cases zS:z=[]
  .subst zS;have hzd:(!decide (([]:aA)=[]))=false:=by simp
   have SI:bw bq=true:=by decide
   have fK:¬bq=((wide st t).getD k ak.ah):=λhx=>hA (by rw[<-hx];rfl)
   have hpd:(!decide (bq=((wide st t).getD k ak.ah)))=true:=by rw[gS fK];rfl
   have dK:nH st t k []=match gY st t ((wide st t).set k bq) (max t.many ((k:Int)+1)) with
    |(eL,none)=>(eL,eY,false)
    |(eL,some t2)=>(if bq=((wide st t).getD k ak.ah) then eL else free eL ((wide st t).getD k ak.ah),t2,true):=dK
   have Ya:∀q∈((wide st t).set k bq),bw q=true:=λq hq=>by
    rcases oS hq with hq|rfl
    .exact Mf q hq
    .exact SI
   have MB:((wide st t).set k bq).length=16:=by rw[gE];exact hw
   have bS:=vU (t:=t) (lv:=((wide st t).set k bq)) (many:=(max t.many ((k:Int)+1))) h9 hrt MB Ya ag;rcases pe:gY st t ((wide st t).set k bq) (max t.many ((k:Int)+1)) with⟨eL,o⟩
   have hlc:∀(v':SA) s a c,bO s a (wide st t).length 5 (ai ((wide st t).set k bq))->(∀b∈aj a,b∉(eO v' st).flatMap It.aY)->FH s a (wide st t).length c 83 5->eQ a8 bj 192 [fD v' st,tv t,.slice a (wide st t).length c,iv (max t.many ((k:Int)+1))] s (aj a) v' st eL o.isSome (X8 o):=λv' s a c hr hm hv=>by
    have:=zq s v' st h9 t hrt a c ((wide st t).set k bq) MB (max t.many ((k:Int)+1)) ag (by rw[gE];exact hr) hm (by rw[gE];exact hv);rw[pe,gE] at this;exact this
   rw[pe] at dK bS;cases o with
   |none=>
    simp only at dK;rw[dK];refine aU f151 ?_;dsimp only[eO];(refine' Xp)
    (refine' dW)
    .rfl
    .exact λ_=>u0 rfl
   |some t2=>
    simp only at dK bS;rw[if_neg fK] at dK;have aeZ:dv 100000 eL:=bS.1.mono ag;rw[dK];refine aU f151 ?_;dsimp only[eO];(repeat' (first|refine' a7|refine' Dx|refine' Ax|refine' DD|refine' Lr|refine' aw|fail))
    (refine' dW)
    .rfl
    .intro hc;cases hc
  .have hzd:(!decide (z=([]:aA)))=true:=by simp[zS]
   have hpP:IU st z=bf st z 0:=by unfold IU;rw[if_neg zS]
   rw[hpP] at dK;cases nU:bf st z 0 with
   |none=>
    have hwc:∀s,eQ a8 bj 191 [fD v st,sv z,iv 0] s [] v st st false (wrV bq false):=λs=>by
     have:=xB s v st h1 z hz 0;rw[show wr st z 0=(st,bq,false) by unfold wr;rw[nU]] at this;exact this
    rw[nU] at dK;simp only at dK;rw[dK];refine aU f151 ?_;dsimp only[eO];(repeat' (first|refine' a7|refine' Dx|refine' Ax|refine' QM|refine' aw|fail))
    obtain rfl:=DF rfl;(refine' dW)
    .rfl
    .exact λ_=>rfl
   |some r=>
    obtain⟨st1,p⟩:=r;have hwc:∀s,eQ a8 bj 191 [fD v st,sv z,iv 0] s [] v st st1 false (wrV p true):=λs=>by
     have:=xB s v st h1 z hz 0;rw[show wr st z 0=(st1,p,true) by unfold wr;rw[nU]] at this;exact this
    obtain⟨tc,SI,_⟩:=h.bf hz nU;have hs9:dv 90000 st1:=tc.mono ag;rw[nU] at dK;simp only at dK;have Ya:∀q∈((wide st t).set k p),bw q=true:=λq hq=>by
     rcases oS hq with hq|rfl
     .exact Mf q hq
     .exact SI
    have MB:((wide st t).set k p).length=16:=by rw[gE];exact hw
    have bS:=vU (t:=t) (lv:=((wide st t).set k p)) (many:=(max t.many ((k:Int)+1))) hs9 hrt MB Ya ag;rcases pe:gY st1 t ((wide st t).set k p) (max t.many ((k:Int)+1)) with⟨eL,o⟩
    have hlc:∀(v':SA) s a c,bO s a (wide st t).length 5 (ai ((wide st t).set k p))->(∀b∈aj a,b∉(eO v' st1).flatMap It.aY)->FH s a (wide st t).length c 83 5->eQ a8 bj 192 [fD v' st1,tv t,.slice a (wide st t).length c,iv (max t.many ((k:Int)+1))] s (aj a) v' st1 eL o.isSome (X8 o):=λv' s a c hr hm hv=>by
     have:=zq s v' st1 hs9 t hrt a c ((wide st t).set k p) MB (max t.many ((k:Int)+1)) ag (by rw[gE];exact hr) hm (by rw[gE];exact hv);rw[pe,gE] at this;exact this
    rw[pe] at dK bS;cases o with
    |none=>
     simp only at dK;rw[dK];refine aU f151 ?_;dsimp only[eO];(repeat' (first|refine' a7|refine' Dx|refine' Ax|refine' QM|refine' DD|refine' aw|fail))
     (refine' dW)
     .rfl
     .exact λ_=>(u0 rfl).trans (DF rfl)
    |some t2=>
     simp only at dK bS;by_cases hpe:p=((wide st t).getD k ak.ah)
     .have hpd:(!decide (p=((wide st t).getD k ak.ah)))=false:=by rw[dt hpe];rfl
      rw[if_pos hpe] at dK;rw[dK];refine aU f151 ?_;dsimp only[eO];(repeat' (first|refine' a7|refine' Dx|refine' Ax|refine' QM|refine' DD|refine' aw|fail))
      (refine' dW)
      .rfl
      .intro hc;cases hc
     .have hpd:(!decide (p=((wide st t).getD k ak.ah)))=true:=by rw[gS hpe];rfl
      rw[if_neg hpe] at dK;have aeZ:dv 100000 eL:=bS.1.mono ag;rw[dK];refine aU f151 ?_;dsimp only[eO];(repeat' (first|refine' a7|refine' Dx|refine' Ax|refine' QM|refine' DD|refine' Lr|refine' aw|fail))
      (refine' dW)
      .rfl
      .intro hc;cases hc
def alm (t:bX)(ok:Bool):Value->Value:=λV=>.tuple ⟨[V,tv t,.bool ok]⟩
theorem DH (s:St)(v:SA)(st:ar)(h:dv 80000 st)(t:bX)(ht:eb t)(many:Int)(x9:0<=many/\many<=16):
  eQ a8 bj 203 [fD v st,tv t,iv many] s [] v st (tp st t many).1 (tp st t many).2.2 (alm (tp st t many).2.1 (tp st t many).2.2):=by
 have h1:dv 100000 st:=h.mono ag;have h9:dv 90000 st:=h.mono ag;have hrt:=ht.rt;obtain⟨_,hw,Mf⟩:=rm (st:=st) ht;have ni:tp st t many=if many=t.many then(st,t,true) else
   match gY st t (wide st t) many with
   |(eL,none)=>(eL,t,false)
   |(eL,some t2)=>(dC ((wide st t).drop many.toNat) eL,t2,true):=rfl
 by_cases hB:many=t.many
 .have hBd:=dt hB;rw[ni,if_pos hB];refine aU f203 ?_;dsimp only[eO];(refine' cU)
  (refine' dW)
  .rfl
  .intro hc;cases hc
 .have hBd:=gS hB;rw[if_neg hB] at ni;have bS:=vU (t:=t) (lv:=wide st t) (many:=many) h hrt hw Mf x9;rcases pe:gY st t (wide st t) many with⟨eL,o⟩
  have hlc:∀(v':SA) s a c,bO s a (wide st t).length 5 (ai (wide st t))->(∀b∈aj a,b∉(eO v' st).flatMap It.aY)->FH s a (wide st t).length c 83 5->eQ a8 bj 192 [fD v' st,tv t,.slice a (wide st t).length c,iv many] s (aj a) v' st eL o.isSome (X8 o):=λv' s a c hr hm hv=>by
   have:=zq s v' st h9 t hrt a c (wide st t) hw many x9 hr hm hv;rw[pe] at this;exact this
  rw[pe] at ni bS;cases o with
  |none=>
   simp only at ni;rw[ni];have By:=bS.2.1 rfl;refine aU f203 ?_;dsimp only[eO];(repeat' (first|refine' a7|refine' Dx|refine' DD|refine' aw|fail))
   (refine' dW)
   .rw[show fD DE eL=fD DE st from By.fD _];rw[u0 rfl];rfl
   .exact λ_=>u0 rfl
  |some t2=>
   simp only at ni bS;rw[ni];refine aU f203 ?_;dsimp only[eO];(repeat' (first|refine' a7|refine' Dx|refine' DD|refine' aw|fail))
   generalize wide st t=w at *
   have anA:w.length=16:=hw;have hmw:many.toNat<=w.length:=by omega
   refine W.bN (λk l L=>∃(i:Nat)(y:ar)(v':SA)(a1:aK)(c1 b6 b7 Pj Pk:Nat),Le [(6,bc b6),(7,bc b7),(9,.slice a1 w.length c1),(10,bc Pj),(11,bc Pk),(13,iv i)] l/\cz [.aN (.slice a1 w.length c1) 83 5 (ai w),.box b6 [eW,eW,eW,cb,eW,cb,eW,.bool false] 81 false,.box b7 [cb,cb,cb,cb,cb,cb,cb] 85 false,.box Pj (rP v' y) 81 false,.box Pk (hU t2) 85 false,.aN (.slice v'.r 64 v'.rc) 9 1 (ai y.er),.aN (.slice v'.f 64 v'.fc) 3 1 (ai y.aX),.aN (.slice v'.l 64 v'.lc) 3 1 (ai y.dm),.aN (.slice v'.g y.cI.length v'.gc) 83 5 (ai y.cI),.aN (.slice v'.d y.ej.length v'.dc) 83 5 (ai y.ej)] L/\k=w.length-i/\i<=w.length/\dv (80020+i) y/\dC (w.drop many.toNat) eL=dC (w.drop i) y)
    (λl L=>∃(y:ar)(v':SA)(b6 b7 Pj Pk:Nat),Le [(6,bc b6),(7,bc b7),(10,bc Pj),(11,bc Pk)] l/\cz [.box b6 [eW,eW,eW,cb,eW,cb,eW,.bool false] 81 false,.box b7 [cb,cb,cb,cb,cb,cb,cb] 85 false,.box Pj (rP v' y) 81 false,.box Pk (hU t2) 85 false,.aN (.slice v'.r 64 v'.rc) 9 1 (ai y.er),.aN (.slice v'.f 64 v'.fc) 3 1 (ai y.aX),.aN (.slice v'.l 64 v'.lc) 3 1 (ai y.dm),.aN (.slice v'.g y.cI.length v'.gc) 83 5 (ai y.cI),.aN (.slice v'.d y.ej.length v'.dc) 83 5 (ai y.ej)] L/\dC (w.drop many.toNat) eL=y) (w.length-many.toNat) ⟨many.toNat,eL,DE,_,_,_,_,_,_,(by rw[yi x9.1];exact bk),au,rfl,hmw,bS.1.mono ag,rfl⟩ ?_ ?_
   .rintro k l L ⟨i,y,v',a1,c1,b6,b7,Pj,Pk,hl,hL,rfl,hi,hy,hf⟩;refine W.le ?_ hl hL;clear hl hL;have UN:dv 100000 y:=hy.mono ag;by_cases ua:i<w.length
    .have J3:bw (w.getD i ak.ah)=true:=Mf _ (aJ ua _);rw[drop_cons ua] at hf;(repeat' (first|refine' a7|refine' Lr|refine' aw|fail))
     all_goals try exact pq
     refine⟨_,?_,i+1,_,_,_,_,_,_,_,_,bk,au,rfl,ag,hy.free J3,hf⟩;omega
    .have fE:i=w.length:=by omega
     subst fE;rw[iD] at hf;(refine' cU)
     all_goals try exact pq
     exact⟨y,v',_,_,_,_,bk,au,hf⟩
   .rintro l L ⟨y,v',b6,b7,Pj,Pk,hl,hL,hf⟩;refine aq ?_;refine W.le ?_ hl hL;clear hl hL;rw[hf];(refine' cU)
    (refine' dW)
    .rfl
    .intro hc;cases hc
section
variable {n:Nat}
theorem eb.no:eb eY:=⟨by decide,by decide,by decide⟩
theorem nt {st:ar}{t:bX}{k:Nat}{z:aA}(h:dv n st)(ht:eb t)(hk:k<16)(hz:z.length<=3000):dv (n+30) (nH st t k z).1/\eb (nH st t k z).2.1/\((nH st t k z).2.2=false->Kp st (nH st t k z).1):=by
 obtain⟨_,hw,Mf⟩:=rm (st:=st) ht;have x9:=ht.mn;have J3:bw ((wide st t).getD k bq)=true:=Mf _ (aJ ag _);have dK:nH st t k z=if aW st ((wide st t).getD k bq)=z/\max t.many ((k:Int)+1)=t.many then(st,t,true) else
   match(if aW st ((wide st t).getD k bq)=z then some (st,(wide st t).getD k bq) else IU st z) with
   |none=>(st,t,false)
   |some (st1,p)=>match gY st1 t ((wide st t).set k p) (max t.many ((k:Int)+1)) with
    |(eL,none)=>(eL,eY,false)
    |(eL,some t2)=>(if p=(wide st t).getD k bq then eL else free eL ((wide st t).getD k bq),t2,true):=rfl
 rw[dK];split
 .exact⟨h.mono ag,ht,λhc=>(by cases hc)⟩
 .have pk:∀r,(if aW st ((wide st t).getD k bq)=z then some (st,(wide st t).getD k bq) else IU st z)=some r->dv (n+1) r.1/\Kp st r.1/\bw r.2=true:=by
   intro r hr;split at hr
   .cases hr;exact⟨h.mono ag,Kp.refl _,J3⟩
   .unfold IU at hr;split at hr
    .cases hr;exact⟨h.mono ag,Kp.refl _,(by decide:bw bq=true)⟩
    .obtain⟨st1,p⟩:=r;have:=h.bf hz hr;exact⟨this.1,MA hr,this.2.1⟩
  generalize(if aW st ((wide st t).getD k bq)=z then some (st,(wide st t).getD k bq) else IU st z)=o at pk⊢;cases o with
  |none=>exact⟨h.mono ag,ht,λ_=>Kp.refl _⟩
  |some r=>
   obtain⟨st1,p⟩:=r;obtain⟨h1,h2,h3⟩:=pk _ rfl;simp only;have bS:=vU (t:=t) (lv:=(wide st t).set k p) (many:=max t.many ((k:Int)+1)) h1 ht.rt (by rw[gE];exact hw) (λq hq=>by
    rcases oS hq with hq|rfl
    .exact Mf q hq
    .exact h3) ag
   rcases hl:gY st1 t ((wide st t).set k p) (max t.many ((k:Int)+1)) with⟨eL,_|t2⟩
   .rw[hl] at bS;exact⟨bS.1.mono ag,eb.no,λ_=>h2.trans (bS.2.1 rfl)⟩
   .rw[hl] at bS;simp only at bS⊢;refine⟨?_,(bS.2.2 _ rfl).1,λhc=>(by cases hc)⟩;split
    .exact bS.1.mono ag
    .exact(bS.1.free J3).mono ag
theorem zr {st:ar}{t:bX}{many:Int}(h:dv n st)(ht:eb t)(hm:0<=many/\many<=16):dv (n+40) (tp st t many).1/\eb (tp st t many).2.1/\((tp st t many).2.2=false->Kp st (tp st t many).1):=by
 obtain⟨_,hw,Mf⟩:=rm (st:=st) ht;have ni:tp st t many=if many=t.many then(st,t,true) else
   match gY st t (wide st t) many with
   |(eL,none)=>(eL,t,false)
   |(eL,some t2)=>(dC ((wide st t).drop many.toNat) eL,t2,true):=rfl
 rw[ni];split
 .exact⟨h.mono ag,ht,λhc=>(by cases hc)⟩
 .have bS:=vU (t:=t) (lv:=wide st t) (many:=many) h ht.rt hw Mf hm;rcases hl:gY st t (wide st t) many with⟨eL,_|t2⟩
  .rw[hl] at bS;exact⟨bS.1.mono ag,ht,λ_=>bS.2.1 rfl⟩
  .rw[hl] at bS;simp only at bS⊢;have h4:=dv.dC (st:=eL) ((wide st t).drop many.toNat) bS.1 (λp hp=>Mf p (List.mem_of_mem_drop hp));exact⟨h4.mono (by rw[gd];omega),(bS.2.2 _ rfl).1,λhc=>(by cases hc)⟩
theorem xN:∀(f:Nat)(z:aA),(∀s∈dw f z,s.length<=128)
 |0,z=>by simp[dw]
 |f+1,z=>by
  rw[dw];split
  .intro s hs;rcases bR.1 hs with rfl|hs
   .rw[cZ];omega
   .exact xN f _ s hs
  .split
   .simp
   .intro s hs;have:s=z:=by simpa using hs
    subst this;omega
theorem xO (n:iG):(fZ n).length<=128:=by
 cases h:ez n with
 |true=>exact(Pg.rj h).2
 |false=>unfold fZ;rw[h];simp
theorem vG (s:St)(v:SA)(st:ar)(h:dv 80000 st)(t:bX)(ht:eb t)(k:Nat)(hk:k<16)(n:iG):
  eQ a8 bj 110 [fD v st,tv t,iv k,nv n] s [] v st (pr st t k n).1 (pr st t k n).2.2 (B1 (pr st t k n).2.1 (pr st t k n).2.2):=by
 have hl:=xO n;unfold pr;refine aU f110 ?_;dsimp only[eO];(repeat' (first|refine' a7|refine' ahj|((with_reducible apply WO.nf);exact aE;(first|exact λs=>sF s _ _ (by assumption) _ (by assumption) _ ag _ ag|exact λs=>sF s _ _ (by assumption) ⟨⟨_,_,_,_,_⟩,_,_⟩ (by assumption) _ ag _ ag);exact ey;intro _ _ ajJ _ _ abq)|refine' aw|fail))
 (refine' dW)
 .rfl
 .exact abq
theorem Yb (s:St)(v:SA)(st:ar)(h:dv 70000 st)(t:bX)(ht:eb t)(z:aA)(hz:z.length<=50000):
  eQ a8 bj 198 [fD v st,tv t,sv z] s [] v st (kz st t z).1 true (B1 (kz st t z).2.1 (kz st t z).2.2):=by
 have rD:=xN (z.length+1) z;have TG:kz st t z=if 16<(dw (z.length+1) z).length then(st,t,false) else match lC (dw (z.length+1) z) 0 st t with
  |(st,t,false)=>(st,t,false)
  |(st,t,true)=>tp st t (dw (z.length+1) z).length:=rfl
 generalize hw:dw (z.length+1) z=w at *
 refine aU f198 ?_;dsimp only[eO];by_cases IA:16<w.length
 .rw[if_pos IA] at TG;rw[TG];have hR:∀s,fa a8 bj 245 [sv z] s [] 9 w:=λs=>by have:=Bv s z ag;rwa [hw] at this
  (refine' acL)
  all_goals try exact pq
  (refine' dW)
  .rfl
  .intro hc;cases hc
 .rw[if_neg IA] at TG;have hR:∀s,fa a8 bj 245 [sv z] s [] 9 w:=λs=>by have:=Bv s z ag;rwa [hw] at this
  (refine' acL)
  all_goals try exact pq
  refine W.bN (λk l L=>∃(i:Nat)(y:ar)(u:bX)(v':SA)(a1:aK)(c1 b3 b4 b6 b7:Nat),Le [(3,bc b3),(4,bc b4),(6,bc b6),(7,bc b7),(9,.slice a1 w.length c1),(10,iv i)] l/\cz [.aN (.slice a1 w.length c1) 9 1 (ai w),.box b3 (rP v' y) 81 false,.box b4 (hU u) 85 false,.box b6 [eW,eW,eW,cb,eW,cb,eW,.bool false] 81 false,.box b7 [cb,cb,cb,cb,cb,cb,cb] 85 false,.aN (.slice v'.r 64 v'.rc) 9 1 (ai y.er),.aN (.slice v'.f 64 v'.fc) 3 1 (ai y.aX),.aN (.slice v'.l 64 v'.lc) 3 1 (ai y.dm),.aN (.slice v'.g y.cI.length v'.gc) 83 5 (ai y.cI),.aN (.slice v'.d y.ej.length v'.dc) 83 5 (ai y.ej)] L/\k=w.length-i/\i<=w.length/\dv (70000+30*i) y/\eb u/\lC w 0 st t=lC (w.drop i) i y u)
   (λl L=>∃(y:ar)(u:bX)(v':SA)(a1:aK)(c1 b3 b4 b6 b7:Nat),Le [(3,bc b3),(4,bc b4),(6,bc b6),(7,bc b7),(9,.slice a1 w.length c1)] l/\cz [.aN (.slice a1 w.length c1) 9 1 (ai w),.box b3 (rP v' y) 81 false,.box b4 (hU u) 85 false,.box b6 [eW,eW,eW,cb,eW,cb,eW,.bool false] 81 false,.box b7 [cb,cb,cb,cb,cb,cb,cb] 85 false,.aN (.slice v'.r 64 v'.rc) 9 1 (ai y.er),.aN (.slice v'.f 64 v'.fc) 3 1 (ai y.aX),.aN (.slice v'.l 64 v'.lc) 3 1 (ai y.dm),.aN (.slice v'.g y.cI.length v'.gc) 83 5 (ai y.cI),.aN (.slice v'.d y.ej.length v'.dc) 83 5 (ai y.ej)] L/\dv 80000 y/\eb u/\lC w 0 st t=(y,u,true)) w.length ⟨0,st,t,v,_,_,_,_,_,_,bk,au,ag,ag,h,ht,rfl⟩ ?_ ?_
  .rintro k l L ⟨i,y,u,v',a1,c1,b3,b4,b6,b7,hl,hL,rfl,hi,hy,hu,hp⟩;refine W.le ?_ hl hL;clear hl hL;have hy8:dv 80000 y:=hy.mono ag;by_cases ua:i<w.length
   .have Q7:=rD _ (aJ ua ak.ah);have bS:=nt (k:=i) (z:=w.getD i ak.ah) hy hu ag ag;rw[drop_cons ua,lC] at hp;rcases uu:nH y u i (w.getD i ak.ah) with⟨y2,u2,ok⟩
    have S3:∀(dI:SA) s,eQ a8 bj 151 [fD dI y,tv u,iv i,sv (w.getD i ak.ah)] s [] dI y y2 ok (B1 u2 ok):=λdI s=>by
     have:=sF s dI y hy8 u hu i ag (w.getD i ak.ah) ag;rw[uu] at this;exact this
    rw[uu] at hp bS;cases ok with
    |true=>
     simp only at hp bS;(repeat' (first|refine' a7|refine' DG|refine' aw|fail))
     all_goals try exact pq
     refine⟨_,?_,i+1,y2,u2,_,_,_,_,_,_,_,bk,au,rfl,ag,bS.1.mono ag,bS.2.1,hp⟩;omega
    |false=>
     simp only at hp bS;have By:=bS.2.2 trivial;rw[hp] at TG;simp only at TG;rw[TG];(repeat' (first|refine' a7|refine' DG|refine' aw|fail))
     all_goals try exact pq
     (refine' dW)
     .rw[show fD y3 y2=fD y3 y from By.fD _];rw[Ls rfl];rfl
     .intro hc;cases hc
   .have fE:i=w.length:=by omega
    subst fE;rw[iD] at hp;(refine' cU)
    all_goals try exact pq
    exact⟨y,u,v',_,_,_,_,_,_,bk,au,hy8,hu,hp⟩
  .rintro l L ⟨y,u,v',a1,c1,b3,b4,b6,b7,hl,hL,hy,hu,hp⟩;refine aq ?_;refine W.le ?_ hl hL;clear hl hL;rw[hp] at TG;simp only at TG;rw[TG];(repeat' (first|refine' a7|refine' acu|refine' aw|fail))
   (refine' dW)
   .rfl
   .intro hc;cases hc
end
theorem AM (Be:Int):∀(l:List aA)(k m:Nat),m<=k->mg Be k m l<=k+l.length
 |[],k,m,h=>by simpa[mg] using h
 |s::l,k,m,h=>by
  rw[mg,cY];split
  .exact ik (AM Be l (k+1) _ ag) ag
  .exact ik (AM Be l (k+1) _ ag) ag
theorem MC {st:ar}{t:bX}{n:Nat}(h:dv n st)(hn:n<=100000)(ht:eb t)(Be:Int):ra st t Be<=16:=by
 have:=AM Be (iq st t) 0 0 (cA _);have h2:=(lj (h.mono hn) ht).1;have h3:=ht.mn;unfold ra;omega
theorem Pm (s:St)(v:SA)(st:ar)(h:dv 50000 st)(t:bX)(ht:eb t)(q:Nat)(hq:q<16)(o:cW)(ho:qc 200 st [((jj st t q).getD bu).aS.cy] []=some o)(KG:o.length<=1000)(mD:∀p∈o,bw p=true):
  eQ a8 bj 166 [fD v st,tv t,iv q] s [] v st (dY st t q).1 true (B1 (dY st t q).2.1 (dY st t q).2.2):=by
 have h1:dv 100000 st:=h.mono ag;have hg:∀s,cK s v st->bP 200 [fD v st,tv t,iv q] s (iH v) (ve (jj st t q)):=λs hr=>AA s v st h1 t ht q ag hr
 have hla:∀s,cK s v st->bP 201 [fD v st,tv t,iv q] s (iH v) (iv (ra st t q)):=λs hr=>Pd s v st h1 t ht q hr
 have hD:=MC h ag ht q;have HE:dY st t q=match nH (dC o st) t q [] with
   |(st,t,false)=>(st,t,false)
   |(eL,t2,true)=>tp eL t2 (ra st t q):=by
  have J1:xl st ((jj st t q).getD bu).aS=o:=by unfold xl;rw[ho];rfl
  unfold dY;simp only[J1,uy];rfl
 have Pn:∀s,cK s v st->fa a8 bj 202 [fD v st,tv ((jj st t q).getD bu).aS] s (iH v) 83 o:=λs hr=>X1 s v st h1 ((jj st t q).getD bu).aS o ho hr
 generalize hDv:ra st t q=D at *
 refine aU f166 ?_;dsimp only[eO];(repeat' (first|refine' a7|((with_reducible apply WO.mj);exact aE;(first|exact λs hr=>hg s hr);exact eC;intro _ _ _ _)|((with_reducible apply WO.mj);exact aE;(first|exact λs hr=>hla s hr);exact eC;intro _ _ _ _)|((with_reducible apply WO.Ay);exact aE;(first|exact λs hr=>Pn s hr);exact eC;intro _ _ aiq air _ _)|refine' aw|fail))
 all_goals try refine cM
 refine W.bN (λk l L=>∃(i:Nat)(y:ar)(v':SA)(a1:aK)(c1 b3 b4 b6 b7:Nat),Le [(2,iv q),(11,iv D),(3,bc b3),(4,bc b4),(6,bc b6),(7,bc b7),(12,.slice a1 o.length c1),(13,iv i)] l/\cz [.aN (.slice a1 o.length c1) 83 5 (ai o),.box b3 (rP v' y) 81 false,.box b4 (hU t) 85 false,.box b6 [eW,eW,eW,cb,eW,cb,eW,.bool false] 81 false,.box b7 [cb,cb,cb,cb,cb,cb,cb] 85 false,.aN (.slice v'.r 64 v'.rc) 9 1 (ai y.er),.aN (.slice v'.f 64 v'.fc) 3 1 (ai y.aX),.aN (.slice v'.l 64 v'.lc) 3 1 (ai y.dm),.aN (.slice v'.g y.cI.length v'.gc) 83 5 (ai y.cI),.aN (.slice v'.d y.ej.length v'.dc) 83 5 (ai y.ej)] L/\k=o.length-i/\i<=o.length/\dv (50000+i) y/\dC o st=dC (o.drop i) y)
  (λl L=>∃(y:ar)(v':SA)(b3 b4 b6 b7:Nat),Le [(2,iv q),(11,iv D),(3,bc b3),(4,bc b4),(6,bc b6),(7,bc b7)] l/\cz [.box b3 (rP v' y) 81 false,.box b4 (hU t) 85 false,.box b6 [eW,eW,eW,cb,eW,cb,eW,.bool false] 81 false,.box b7 [cb,cb,cb,cb,cb,cb,cb] 85 false,.aN (.slice v'.r 64 v'.rc) 9 1 (ai y.er),.aN (.slice v'.f 64 v'.fc) 3 1 (ai y.aX),.aN (.slice v'.l 64 v'.lc) 3 1 (ai y.dm),.aN (.slice v'.g y.cI.length v'.gc) 83 5 (ai y.cI),.aN (.slice v'.d y.ej.length v'.dc) 83 5 (ai y.ej)] L/\dv 51000 y/\dC o st=y) o.length ⟨0,st,v,_,_,_,_,_,_,bk,au,ag,ag,by simpa using h,rfl⟩ ?_ ?_
 .rintro k l L ⟨i,y,v',a1,c1,b3,b4,b6,b7,hl,hL,rfl,hi,hy,hf⟩;refine W.le ?_ hl hL;clear hl hL;have UN:dv 100000 y:=hy.mono ag;by_cases ua:i<o.length
  .have J3:=mD _ (aJ ua ak.ah);rw[drop_cons ua] at hf;(repeat' (first|refine' a7|refine' Lr|refine' aw|fail))
   all_goals try exact pq
   refine⟨_,?_,i+1,_,WM,_,_,_,_,_,_,bk,au,rfl,ag,(hy.free J3).mono ag,hf⟩;omega
  .have fE:i=o.length:=by omega
   subst fE;rw[iD] at hf;(refine' cU)
   all_goals try exact pq
   exact⟨y,v',_,_,_,_,bk,au,hy.mono ag,hf⟩
 .rintro l L ⟨y,v',b3,b4,b6,b7,hl,hL,hy,hf⟩;refine aq ?_;refine W.le ?_ hl hL;clear hl hL;rw[hf] at HE;have hy8:dv 80000 y:=hy.mono ag;rcases uu:nH y t q [] with⟨y2,t2,ok⟩
  have bS:=nt (k:=q) (z:=[]) hy ht hq (by simp);rw[uu] at bS HE;have S3:∀(dI:SA) s,eQ a8 bj 151 [fD dI y,tv t,iv q,sv []] s [] dI y y2 ok (B1 t2 ok):=λdI s=>by
   have:=sF s dI y hy8 t ht q hq [] (by simp);rw[uu] at this;exact this
  cases ok with
  |false=>
   simp only at HE;rw[HE];(repeat' (first|refine' a7|refine' DG|refine' aw|fail))
   all_goals try refine cM
   (refine' dW)
   .rfl
   .intro hc;cases hc
  |true=>
   simp only at HE;have hy3:dv 80000 y2:=bS.1.mono ag;have ht2:=bS.2.1;rw[HE];(repeat' (first|refine' a7|refine' DG|refine' acu|refine' aw|fail))
   all_goals try refine cM
   (refine' dW)
   .rfl
   .intro hc;cases hc
theorem HF (st:ar)(n:iG):kX st n=(ez n&&decide (n.kind=1)&&fg st n.aS&&kX.go n 0 (iq st n.aS)):=rfl
theorem MD (s:St)(v:SA)(st:ar)(h:dv 100000 st)(n:iG)(hr:cK s v st):bP 121 [fD v st,nv n] s (iH v) (.bool (kX st n)):=by
 have tL:=Rd.Eg hr;have uj:=Rd.off hr;have uq:=Rd.Cr hr;cases hA:(ez n&&decide (n.kind=1)&&fg st n.aS) with
 |false=>
  rw[HF,hA,Kj];refine aU f121 ?_;(repeat' (first|refine' a7|refine' OB|refine' OE|refine' aw|fail))
  all_goals first|(exfalso;simp_all;done)|((refine' ax);rfl)
 |true=>
  rw[HF,hA,yf];obtain⟨⟨qE,hki⟩,fF⟩:(ez n=true/\n.kind=1)/\fg st n.aS=true:=by simpa using hA
  have hn:j5 n:=j5.of qE;have ht:=hn.tr;have iW:=hn.sz;obtain⟨hl,du⟩:=lj h ht;have hm:=ht.mn;have Qr:(!ez n)=false:=by rw[qE];rfl
  have GC:(!decide (n.kind=1))=false:=by simp[hki]
  have hn3:(!fg st n.aS)=false:=by rw[fF];rfl
  refine aU f121 ?_;(repeat' (first|refine' a7|refine' OB|refine' OE|refine' aeh|refine' aw|fail))
  all_goals first|(exfalso;simp_all;done)|skip
  generalize iq st n.aS=w at *
  refine W.bN (λk l L=>∃(i bs bt:Nat),Le [(2,bc bs),(3,bc bt),(5,.slice gx w.length gy),(6,iv i)] l/\cz [.aN (.slice gx w.length gy) 9 1 (ai w),.box bs (rP v st) 81 false,.box bt (xx n) 130 false] L/\k=w.length-i/\i<=w.length/\kX.go n 0 w=kX.go n i (w.drop i))
   (λl L=>kX.go n 0 w=true) w.length ⟨0,_,_,bk,au,ag,ag,rfl⟩ ?_ ?_
  .rintro k l L ⟨i,bs,bt,jG,hL,rfl,h1,h2⟩;refine W.le ?_ jG hL;clear jG hL;by_cases hi:i<w.length
   .have Q7:=du _ (aJ hi ak.ah);rw[drop_cons hi,kX.go] at h2;have hlo:gf n.size i<=12/\ -10000<=gf n.size i:=by unfold gf;omega
    (repeat' (first|refine' a7|refine' aho|((with_reducible apply WO.bI);exact aE;(first|exact λs=>G7 s _ ag);intro _ _ _ _)|refine' aw|fail))
    all_goals try exact pq
    .have hw:kX.go n 0 w=false:=by rw[h2,gS j3];simp
     rw[hw];(refine' ax);rfl
    .refine⟨_,?_,i+1,_,_,bk,au,rfl,ag,by rw[h2,dt j3,dt um];rfl⟩;omega
    .have hw:kX.go n 0 w=false:=by rw[h2,gS ag];rfl
     rw[hw];(refine' ax);rfl
   .have fE:i=w.length:=by omega
    subst fE;rw[iD,kX.go] at h2;(refine' cU)
    all_goals first|(exfalso;omega;done)|exact h2
  .rintro l L h1;refine aq ?_;refine W.le ?_ (Le.nil _) (cz.nil _);rw[h1];(refine' cU)
   (refine' ax);rfl
theorem FV (l:List aA)(h:l≠[]):l.getLastD []=l.getD (l.length-1) ak.ah:=by
 have hl:0<l.length:=oD.2 h;rw[aR,List.getLastD_eq_getLast?,List.getLast?_eq_getElem?,bd ag];rfl
theorem OH (s:St)(z:aA)(hz:z.length<=90000)(hp:aT z=true)(hn:aH z≠[]):bP 160 [sv z] s [] (sv (Fs.base z)):=by
 obtain⟨zS,ais⟩:=Cm hp;have hl:0<(aH z).length:=oD.2 hn;rw[show Fs.base z=(aH z).getD ((aH z).length-1) ak.ah from FV _ hn];have h4:(aH z).length<=4:=by
  unfold aT at hp;split at hp
  .rename_i h;exfalso;apply hn;unfold aH;rw[if_pos h]
  .split at hp
   .cases hp
   .simp only[bU,bQ] at hp;exact hp.2
 rw[show(aH z).length-1=(((aH z).length:Int)-1).toNat by omega];refine aU f160 ?_;(repeat' (first|refine' a7|refine' SO|refine' aw|fail))
 (refine' ax);rfl
abbrev fsC (v:SA)(f:Fs):aQ:=[.slice v.r 64 v.rc,.slice v.f 64 v.fc,.slice v.l 64 v.lc,iv f.st.fC,.slice v.g f.st.cI.length v.gc,iv f.st.oL,.slice v.d f.st.ej.length v.dc,.bool f.st.same,iv f.t.cy.row,iv f.t.cy.dg,iv f.t.cy.size,iv f.t.cy.sum,iv f.t.cy.level,iv f.t.depth,iv f.t.many,.bool f.cC]
abbrev kg (b:Nat)(v:SA)(f:Fs):bE:=.box b (fsC v f) 156 false::eO v f.st
abbrev mG (E:dA)(X:dM)(g:FuncId)(vs:aQ)(s:St)(b:Nat)(v:SA)(f f':Fs)(r:Value):Prop:=fH E X g vs s (kg b v f) [] λR L=>∃v':SA,R=r/\L=kg b v' f'
section
variable {E:dA}{X:dM}{Γ:ij}{l:Kn}{L R:bE}{K:KO}{g:FuncId}{xs:List Operand}{ts:Array TypeId}{vs:aQ}{v:SA}{f f':Fs}{b:Nat}{r:Value}
theorem WO.ait (hx:kL l xs vs)(h:∀s,mG E X g vs s b v f f' r)(hp:oO (kg b v f) L R)(k:∀m m' v',kq L m->m<=m'->K r (kg b v' f'++R) m m' (λi=>i∈([]:List Nat)\/i∈(kg b v f).flatMap It.aY\/(m<=i/\i<m')) (λi=>i∈(kg b v f).flatMap It.aY\/(m<=i/\i<m'))):WO E X Γ l (.call ⟨.value (.func g),⟨xs⟩,ts⟩) L K:=
 WO.call (Lm:=kg b v f) (R:=R) hx hp.cR (λs hi b hb=>by cases hb) (λs _=>h s) (by rintro r L' m m' ho hm ⟨v',rfl,rfl⟩;exact k m m' v' ho hm)
theorem mP {rs:List ResultVar}{x:Ex}{v':SA}{ws:aQ}(hx:x= .normal\/x= .ret)(hr:qi E l L rs ws)(hL:cz (kg b v' f') L)(hv:gB ws=r):
  uW E rs (λR L=>∃v':SA,R=r/\L=kg b v' f') x l L:=⟨hx,ws,_,hr,hL,v',hv,rfl⟩
end
theorem sG (s:St)(b:Nat)(v:SA)(f:Fs)(h:dv 80000 f.st)(ht:eb f.t)(k:Nat)(hk:k<16)(n:iG):mG a8 bj 157 [bc b,iv k,nv n] s b v f (f.put k n) (.tuple ⟨[]⟩):=by
 unfold Fs.put;rw[uy];refine aU f157 ?_;dsimp only[kg,eO];cases hf:f.cC with
 |true=>
  rw[if_pos rfl];(repeat' (first|refine' a7|refine' acw|refine' aw|fail))
  (refine' aci)
  rfl
 |false=>
  rw[if_neg (by decide)];(repeat' (first|refine' a7|refine' acw|refine' aw|fail))
  (refine' aci)
  rfl
structure lJ (s:St)(b:Nat)(v:SA)(f:Fs):Prop where
 b:bO s (jP b) 1 16 (fsC v f)
 st:cK s v f.st
structure La (Γ:ij)(L:bE)(b:Nat)(v:SA)(f:Fs):Prop where
 b:jY Γ L (jP b) 1 16 (fsC v f)
 st:re Γ L v f.st
abbrev tN (b:Nat)(v:SA):List Nat:=b::iH v
section
variable {E:dA}{X:dM}{Γ:ij}{l:Kn}{L R:bE}{K:KO}{g:FuncId}{xs:List Operand}{ts:Array TypeId}{vs:aQ}{v:SA}{f:Fs}{b:Nat}{r:Value}{s:St}
theorem La.row (h:La Γ L b v f)(hi:Inv Γ s L):lJ s b v f/\∀i∈tN b v,Fi Γ s i:=by
 refine⟨⟨(h.b.row hi).1,(h.st.row hi).1⟩,λi hb=>?_⟩;rcases bR.1 hb with rfl|hb
 .exact(h.b.row hi).2 _ (by simp[aj])
 .exact(h.st.row hi).2 i hb
theorem WO.I8 (hx:kL l xs vs)(hh:La Γ L b v f)(h:∀s,lJ s b v f->qj E X g vs s (tN b v) r)(k:∀m m',kq L m->m<=m'->K r L m m' (λi=>i∈tN b v\/i∈([]:bE).flatMap It.aY\/(m<=i/\i<m')) (λi=>i∈([]:bE).flatMap It.aY\/(m<=i/\i<m'))):WO E X Γ l (.call ⟨.value (.func g),⟨xs⟩,ts⟩) L K:=
 WO.ub hx (λs hi=>⟨(hh.row hi).2,h s (hh.row hi).1⟩) k
theorem WO.Rb {α:Type}{sz:Nat}{enc:ak α sz}{e:TypeId}{p:List α}(hx:kL l xs vs)(hh:La Γ L b v f)(h:∀s,lJ s b v f->fa E X g vs s (tN b v) e p)(k:∀m m' a c,kq L m->m<=m'->K (.slice a p.length c) (.aN (.slice a p.length c) e sz (ai (sz:=sz) p)::L) m m' (λi=>i∈tN b v\/i∈([]:bE).flatMap It.aY\/(m<=i/\i<m')) (λi=>i∈([]:bE).flatMap It.aY\/(m<=i/\i<m'))):WO E X Γ l (.call ⟨.value (.func g),⟨xs⟩,ts⟩) L K:=
 WO.K1 hx (λs hi=>⟨(hh.row hi).2,h s (hh.row hi).1⟩) k
theorem ED.bx (h:lJ s b v f):Rd ⟨s,([]:bE).flatMap It.aY,tN b v⟩ (jP b) 1 16 (fsC v f):=Rd.of h.b λ_ hb=>by simp[aj] at hb;subst hb;exact iV
theorem ED.rw (h:lJ s b v f):Rd ⟨s,([]:bE).flatMap It.aY,tN b v⟩ v.r 64 1 (ai f.st.er):=Rd.of h.st.r λ_ hb=>lu _ (Hk hb)
theorem ED.rf (h:lJ s b v f):Rd ⟨s,([]:bE).flatMap It.aY,tN b v⟩ v.f 64 1 (ai f.st.aX):=Rd.of h.st.f λ_ hb=>lu _ (Hl hb)
theorem ED.la (h:lJ s b v f):Rd ⟨s,([]:bE).flatMap It.aY,tN b v⟩ v.l 64 1 (ai f.st.dm):=Rd.of h.st.l λ_ hb=>lu _ (Hm hb)
end
theorem tF (s:St)(b:Nat)(v:SA)(f:Fs)(h:dv 100000 f.st)(ht:eb f.t)(k:Int)(hk: -1000<=k/\k<=1000)(hr:lJ s b v f):bP 162 [bc b,iv k] s (tN b v) (nv (f.node k)):=by
 have NL:=ED.bx hr;have tL:=ED.rw hr;have uj:=ED.rf hr;have uq:=ED.la hr;refine aU f162 ?_;(repeat' (first|refine' a7|refine' acv|refine' aw|fail))
 (refine' ax)
 rfl
theorem lK (s:St)(b:Nat)(v:SA)(f:Fs)(h:dv 100000 f.st)(ht:eb f.t)(k:Int)(hk: -1000<=k/\k<=1000)(hr:lJ s b v f):fa a8 bj 156 [bc b,iv k] s (tN b v) 200 (f.bH k):=by
 have NL:=ED.bx hr;have tL:=ED.rw hr;have uj:=ED.rf hr;have uq:=ED.la hr;unfold Fs.bH;refine aU f156 ?_;(repeat' (first|refine' a7|refine' WN|((with_reducible apply WO.tD);exact aE;(first|exact λs hr=>lZ s _ _ (by assumption) _ hr|exact λs hr=>lZ s _ _ (by assumption) ⟨_,_,_,⟨⟨_,_,_,_,_⟩,_,_⟩⟩ hr);exact eC;intro _ _ abr abt _ _)|refine' aw|fail))
 (refine' lN)
 rfl
section
variable {E:dA}{X:dM}{Γ:ij}{l:Kn}{L R:bE}{K:KO}{g:FuncId}{xs:List Operand}{ts:Array TypeId}{vs:aQ}{v:SA}{st:ar}{r:Value}{s:St}
theorem WO.Rc {a:aK}{n sz:Nat}{cs:aQ}(hx:kL l xs vs)(h:∀s,cK s v st->bO s a n sz cs->qj E X g vs s (iH v++aj a) r)(hh:re Γ L v st)(h2:jY Γ L a n sz cs)(k:∀m m',kq L m->m<=m'->K r L m m' (λi=>i∈iH v++aj a\/i∈([]:bE).flatMap It.aY\/(m<=i/\i<m')) (λi=>i∈([]:bE).flatMap It.aY\/(m<=i/\i<m'))):WO E X Γ l (.call ⟨.value (.func g),⟨xs⟩,ts⟩) L K:=
 WO.ub hx (λs hi=>⟨λi hb=>by
   rcases eX.1 hb with hb|hb
   .exact(hh.row hi).2 i hb
   .exact(h2.row hi).2 i hb,h s (hh.row hi).1 (h2.row hi).1⟩) k
end
theorem Bz {st:ar}{n:iG}{l:List aZ}(h:bK st n=some l):l.length<=12/\∀e∈l,0<=e.id/\e.id<=15:=by
 refine' zah
 unfold bz at fF;simp only[bU,gQ,bQ,fR] at fF;exact⟨fF.2,λe he=>by have:=(fF.1.1 e he).2;omega⟩
theorem EE (s:St)(v:SA)(st:ar)(h:dv 100000 st)(t:bX)(ht:eb t)(a:aK)(c:Nat)(p:List aA)(hp:p.length<=1000)(hr:cK s v st)(h2:bO s a p.length 1 (ai p)):
  bP 199 [fD v st,tv t,.slice a p.length c] s (iH v++aj a) (iv (oM (λi=>bK st ((jj st t i).getD bu)) p 0)):=by
 have tL:Rd ⟨s,([]:bE).flatMap It.aY,iH v++aj a⟩ v.r 64 1 (ai st.er):=Rd.of hr.r λ_ hb=>cP _ (Hk hb)
 have uj:Rd ⟨s,([]:bE).flatMap It.aY,iH v++aj a⟩ v.f 64 1 (ai st.aX):=Rd.of hr.f λ_ hb=>cP _ (Hl hb)
 have uq:Rd ⟨s,([]:bE).flatMap It.aY,iH v++aj a⟩ v.l 64 1 (ai st.dm):=Rd.of hr.l λ_ hb=>cP _ (Hm hb)
 have hdp:Rd ⟨s,([]:bE).flatMap It.aY,iH v++aj a⟩ a p.length 1 (ai p):=Rd.of h2 λ_ hb=>dz _ hb
 generalize hE:(λi=>bK st ((jj st t i).getD bu))=E at *
 have hEa:∀i,E i=bK st ((jj st t i).getD bu):=λi=>by rw[<-hE]
 refine aU f199 ?_;(refine' cU)
 refine W.bN (λk l L=>∃(i:Nat)(w:Int)(b3 b4:Nat),Le [(2,.slice a p.length c),(3,bc b3),(4,bc b4),(7,iv w),(8,iv i)] l/\cz [.box b3 (rP v st) 81 false,.box b4 (hU t) 85 false] L/\k=p.length-i/\i<=p.length/\(0<=w/\w<=15)/\oM E p 0=oM E (p.drop i) w)
  (λl L=>Le [(7,iv (oM E p 0))] l/\cz [] L) p.length ⟨0,0,_,_,bk,au,rfl,ag,ag,rfl⟩ ?_ ?_
 .rintro k l L ⟨i,w,b3,b4,jG,hL,rfl,h1,hw,h3⟩;refine W.le ?_ jG hL;clear jG hL;by_cases hi:i<p.length
  .rw[drop_cons hi,oM,hEa] at h3;cases he:bK st ((jj st t w).getD bu) with
   |none=>
    rw[he] at h3;simp only at h3;rw[h3];have ahx:∀s,cK s v st->kr a8 bj 171 [fD v st,nv ((jj st t w).getD bu)] s (iH v) 200 ([]:List aZ) false:=λs hr=>by
     have:=lZ s v st h ((jj st t w).getD bu) hr;rwa [he] at this
    (refine' Xq)
    all_goals try exact pq
    (refine' ax);rfl
   |some es=>
    rw[he] at h3;simp only at h3;have ahx:∀s,cK s v st->kr a8 bj 171 [fD v st,nv ((jj st t w).getD bu)] s (iH v) 200 es true:=λs hr=>by
     have:=lZ s v st h ((jj st t w).getD bu) hr;rwa [he] at this
    obtain⟨tg,hid⟩:=Bz he;cases nJ:eA es (p.getD i ak.ah) with
    |none=>
     have hav:Xv es (p.getD i ak.ah)= -1:=by unfold Xv;rw[nJ];rfl
     rw[nJ] at h3;simp only at h3;rw[h3];(refine' Xq)
     all_goals try exact pq
     (refine' ax);rfl
    |some q=>
     have hav:Xv es (p.getD i ak.ah)=(q:Int):=by unfold Xv;rw[nJ];rfl
     have hq:q<es.length:=by
      unfold eA at nJ;exact(oC.1 nJ).1
     rw[nJ] at h3;simp only at h3;(refine' Xq)
     all_goals try exact pq
     have hqd:=hid _ (aJ hq ak.ah);refine⟨_,?_,i+1,_,_,_,bk,au,rfl,ag,?_,?_⟩
     .omega
     .rw[hav];exact hqd
     .rw[hav,h3];rfl
  .have fE:i=p.length:=by omega
   subst fE;rw[iD,oM] at h3;(refine' cU)
   all_goals try exact pq
   exact⟨by rw[h3];exact bk,au⟩
 .rintro l L ⟨jG,hL⟩;refine aq ?_;refine W.le ?_ jG hL;clear jG hL;(refine' cU)
  (refine' ax);rfl
theorem ME {z:aA}(hp:aT z=true):(aH z).length<=4:=by
 unfold aT at hp;split at hp
 .rename_i h;unfold aH;rw[if_pos h];simp
 .split at hp
  .cases hp
  .simp only[bU,bQ] at hp;exact hp.2
theorem Re (st:ar)(g:Int->iG):∀(l:List aA)(w:Int),0<=w/\w<=15-> -1<=oM (λi=>bK st (g i)) l w/\oM (λi=>bK st (g i)) l w<=15
 |[],w,h=>by rw[oM];omega
 |s::l,w,h=>by
  rw[oM];cases he:bK st (g w) with
  |none=>simp only;omega
  |some es=>
   simp only;cases nJ:eA es s with
   |none=>simp only;omega
   |some q=>
    simp only;have hq:q<es.length:=by
     unfold eA at nJ;exact(oC.1 nJ).1
    exact Re st g l _ ((Bz he).2 _ (aJ hq _))
theorem pS (s:St)(b:Nat)(v:SA)(f:Fs)(h:dv 100000 f.st)(ht:eb f.t)(z:aA)(hz:z.length<=90000)(hp:aT z=true)(hr:lJ s b v f):bP 161 [bc b,sv z] s (tN b v) (iv (f.da z)):=by
 have NL:=ED.bx hr;have tL:=ED.rw hr;have uj:=ED.rf hr;have uq:=ED.la hr;obtain⟨zS,ais⟩:=Cm hp;have h4:=ME hp;refine aU f161 ?_;(repeat' (first|refine' a7|refine' SO|((with_reducible apply WO.Rc);exact aE;(first|exact λs hr h2=>EE s _ _ (by assumption) _ (by assumption) _ _ _ ag hr h2);exact eC;exact cg;intro _ _ _ _)|refine' aw|fail))
 (refine' ax)
 rfl
end Go.Pl
namespace Go.Lg
open Go Go.Ev
class Yc (E:dA)(t:TypeId)(i:Nat)(off:outParam Nat):Prop where
 h:∃fs f d,ja E t=some (.struct ⟨fs⟩)/\jb fs i=some f/\ja E f.type=some d/\z8 d=false/\f.offset=off
noncomputable def aiu (E:dA)(t:TypeId)(i:Nat):Option Nat:=ob (ja E t) λd=>match d with
 |.struct ⟨fs⟩=>ob (jb fs i) λf=>ob (ja E f.type) λd=>eg (!z8 d) (some f.offset)
 |_=>none
theorem abu {E:dA}{t:TypeId}{i off:Nat}(h:aiu E t i=some off):Yc E t i off:=by
 obtain⟨d,h1,h2⟩:=aC h;split at h2
 .rename_i fs;obtain⟨f,h3,h4⟩:=aC h2;obtain⟨d,h5,h6⟩:=aC h4;obtain⟨h7,h8⟩:=bp h6;exact⟨fs,f,d,h1,h3,h5,by simpa using h7,j6 h8⟩
 .cases h2
theorem Yd {x:It}{L:bE}(h:x∈L):yQ x x L L:=by
 induction L with
 |nil=>cases h
 |cons y L ih=>
  rcases bR.1 h with rfl|h
  .exact .here
  .exact .there (ih h)
section
variable {E:dA}{X:dM}{Γ:ij}{l:Kn}{L:bE}{K:KO}{x y:Operand}{t t2:TypeId}{a:aK}
theorem WO.ad8 {i off:Nat}{cs:aQ}{v:Value}[ht:Yc E t i off](hx:Ev l x (.agg ⟨cs⟩))(hv:cs[off]?=some v)(k:∀n,K v L n n Z Z):WO E X Γ l (.field t x i) L K:=WO.val (λtm s call hl=>by
 obtain⟨fs,f,d,h1,h2,h3,h4,h5⟩:=ht.h;show Im E s t (aM tm x) i=_;rw[hx.eval hl];unfold Im;rw[h1];show ob (jb fs i) _=_;rw[h2];show ob (ja E f.type) _=_;rw[h3];show eg (!z8 d) _=_;rw[h4,h5];show eg true (ob (jb cs off) _)=_;rw[eD,dR,hv];rfl) k
theorem WO.xor {m n:Nat}(hx:Ev l x (iv m))(hy:Ev l y (iv n))(hm:m<4611686018427387904)(hn:n<4611686018427387904)(h:∀i,K (iv ((m^^^ n:Nat):Int)) L i i Z Z):WO E X Γ l (.binOp .xor t x y t2) L K:=WO.bin hx hy (tw rfl (by
 show eg (Nat.ble (Nat.succ m) 4611686018427387904&&Nat.ble (Nat.succ n) 4611686018427387904) (some (Value.int .i64 (.ofNat (Nat.xor m n))))=_;rw[il hm,il hn];rfl)) h
theorem WO.ad9 {e:Nat}{p:List UInt8}{enc:ak UInt8 1}[h1:TT E t e 1 UInt8 enc][h3:xq E e .u8](hx:Ev l x (.slice a p.length p.length))(hm:It.aN (.slice a p.length p.length) e 1 (ai p)∈L)(hp:0<p.length)(hb:p.length<=1000000)
  (k:∀n,K (.slice a p.length p.length) L n n (λi=>i∈aj a) (λi=>i∈aj a)):WO E X Γ l (.convert t t x) L K:=λtm s hl hi=>by
 rcases hi.it _ hm with⟨h5,_⟩|⟨b,n',k',w,h5,h6,h7,h8⟩
 .exfalso
  injection h5 with h5 h6
  omega
 .cases h5
  have du:=(hi.may hm (b:=b) (by simp[It.aY,na]));have hr:=hi.aV du;obtain⟨z,R6,_⟩:=h1.h;obtain⟨hr1,i,v,nG,hr3,_⟩:=R6.h;have hs:size E e=some 1:=by unfold size;rw[nG];simp[hr3]
  refine fS.pure (v:=.slice (some ⟨b,0,none⟩) p.length p.length) (s':=(s.aV b).put b (some (.cells (ai p) e false))) (λcall=>?_) ⟨L,(λi=>i∈aj (some ⟨b,0,none⟩)),(λi=>i∈aj (some ⟨b,0,none⟩)),hr.put (Yd hm) rfl rfl ?_,(kJ.trans (cX du.1 (by simp[aj])) (jZ (by simpa using du.1) (by simp[aj]) (by simp[aj]))),by rw[dZ,cw];exact k _⟩
  .show wC E s t t (aM tm x)=_;rw[hx.eval hl];unfold wC;rw[hr1];show ob (ja E e) (λd=>eg (isByte d&&Nat.beq t t)<| s.row b λcs e' _ s=>ob (size E e') λsz=>ob (ja E e') λd'=>eg (isByte d'&&Nat.beq sz 1)<| aL (.slice (some ⟨b,0,none⟩) p.length p.length) (s.put b (some (.cells cs e' false))))=_;rw[h3.h];show eg (Nat.beq t t) _=_;rw[lL,eD];unfold St.row St.look;rw[h6];simp only[cr,hs,h3.h];rfl
  .exact .inr ⟨b,_,_,false,rfl,by rw[qU,if_pos rfl],h7,.inl ⟨rfl,Nat.lt_of_le_of_lt hb (by decide)⟩⟩
end
end Go.Lg
namespace Go.Pl
open Go Go.Ev Go.Lg Go.Proofs
instance:Yc a8 130 0 0:=abu cV
theorem tO (s:St)(b:Nat)(v:SA)(f:Fs)(h:dv 100000 f.st)(ht:eb f.t)(z:aA)(hz:z.length<=90000)(hp:aT z=true)(hr:lJ s b v f):bP 163 [bc b,sv z] s (tN b v) (.tuple ⟨[iv (f.bM z).1,iv (f.bM z).2]⟩):=by
 have NL:=ED.bx hr;have tL:=ED.rw hr;have uj:=ED.rf hr;have uq:=ED.la hr;obtain⟨zS,ais⟩:=Cm hp;have h4:=ME hp;have BR:=Re f.st (λi=>(jj f.st f.t i).getD bu) (aH z).dropLast 0 ag;have pz:(((aH z).length:Int)-1).toNat=(aH z).length-1:=by omega
 have rD:f.bM z=if aH z=[] then(0,3) else if oM (λi=>bK f.st ((jj f.st f.t i).getD bu)) (aH z).dropLast 0<0 then(0,2) else if(f.node (oM (λi=>bK f.st ((jj f.st f.t i).getD bu)) (aH z).dropLast 0)).kind≠2 then(0,4) else(oM (λi=>bK f.st ((jj f.st f.t i).getD bu)) (aH z).dropLast 0,0):=rfl
 by_cases hn:aH z=[]
 .rw[rD,if_pos hn];have hl0:(aH z).length=0:=by rw[hn];rfl
  refine aU f163 ?_;(repeat' (first|refine' a7|refine' SO|refine' aw|fail))
  all_goals try exact pq
  (refine' ax)
  rfl
 .rw[rD,if_neg hn];have hl0:0<(aH z).length:=oD.2 hn;generalize hE:oM (λi=>bK f.st ((jj f.st f.t i).getD bu)) (aH z).dropLast 0=w at *
  have WR:∀a c s,cK s v f.st->bO s a (List.take (((aH z).length:Int)-1).toNat (aH z)).length 1 (ai (List.take (((aH z).length:Int)-1).toNat (aH z)))->bP 199 [fD v f.st,tv f.t,.slice a (List.take (((aH z).length:Int)-1).toNat (aH z)).length c] s (iH v++aj a) (iv w):=λa c s hr h2=>by
   have:=EE s v f.st h f.t ht a c (List.take (((aH z).length:Int)-1).toNat (aH z)) (by rw[cZ];omega) hr h2;rw[show List.take (((aH z).length:Int)-1).toNat (aH z)=(aH z).dropLast by rw[pz,List.dropLast_eq_take],hE] at this
   rwa [show List.take (((aH z).length:Int)-1).toNat (aH z)=(aH z).dropLast by rw[pz,List.dropLast_eq_take]]
  refine aU f163 ?_;(repeat' (first|refine' a7|refine' SO|((with_reducible apply WO.Rc);exact aE;(first|exact λs hr h2=>WR _ _ s hr h2);exact eC;exact cg;intro _ _ _ _)|refine' WN|refine' aw|fail))
  all_goals try exact pq
  ·(refine' ax)
   rw[if_pos (by assumption)];rfl
  ·(refine' ax)
   rw[if_neg ag,if_pos (by assumption)];rfl
  ·(refine' ax)
   rw[if_neg ag,if_neg (by simpa using j3)];rfl
def EF (n:iG)(ok:Bool):Value->Value:=λV=>.tuple ⟨[V,nv n,.bool ok]⟩
theorem j5.aS {n:iG}(h:j5 n){t:bX}(ht:eb t):j5 {n with aS:=t}:=⟨ht,h.sz⟩
theorem Rf (s:aA):(nI s).length<=s.length:=by
 unfold nI;rw[Qb];have:=(List.dropWhile_sublist (l:=s.reverse) (λx=>decide (x=0))).length_le;rw[Qb] at this;exact this
theorem wR (z:aA):∀(m k n:Nat)(st:ar)(u:iG),dv n st->j5 u->k+m<=16->dv (n+30*m) (j9 z m k st u).1/\j5 (j9 z m k st u).2.1
 |0,k,n,st,u,h,hu,_=>⟨h,hu⟩
 |m+1,k,n,st,u,h,hu,hk=>by
  have hc:=Rf ((z.take (min z.length ((k+1)*12))).drop (k*12));have bS:=nt (k:=k) (z:=nI ((z.take (min z.length ((k+1)*12))).drop (k*12))) h hu.tr ag (by rw[gd,cZ] at hc;omega);rw[j9];rcases hp:nH st u.aS k (nI ((z.take (min z.length ((k+1)*12))).drop (k*12))) with⟨eL,t2,ok⟩
  rw[hp] at bS;cases ok with
  |true=>
   have:=wR z m (k+1) (n+30) eL {u with aS:=t2} bS.1 (hu.aS bS.2.1) ag;exact⟨this.1.mono ag,this.2⟩
  |false=>exact⟨bS.1.mono ag,hu⟩
theorem HG (s:St)(v:SA)(st:ar)(h:dv 50000 st)(n:iG)(hn:j5 n)(z:aA)(hz:z.length<=1000)(a b:Nat)(kK:a<=b+1)(hb:b<16)(hbz:b*12<=z.length):
  eQ a8 bj 204 [fD v st,nv n,sv z,iv a,iv b] s [] v st (gw st n z a b).1 true (EF (gw st n z a b).2.1 (gw st n z a b).2.2):=by
 have GC:j5 {n with size:=z.length}:=⟨hn.tr,⟨Kb _,by show(z.length:Int)<=10000;omega⟩⟩;refine aU f204 ?_;dsimp only[eO];(refine' cU)
 refine W.bN (λk l L=>∃(j:Nat)(y:ar)(u:iG)(v':SA)(b5 b6 Pj Pk:Nat),Le [(2,sv z),(5,bc b5),(6,bc b6),(10,bc Pj),(11,bc Pk),(4,iv b),(13,iv j)] l/\cz [.box b5 (rP v' y) 81 false,.box b6 (xx u) 130 false,.box Pj [eW,eW,eW,cb,eW,cb,eW,.bool false] 81 false,.box Pk [cb,cb,cb,cb,cb,cb,cb,cb,cb,cb] 130 false,.aN (.slice v'.r 64 v'.rc) 9 1 (ai y.er),.aN (.slice v'.f 64 v'.fc) 3 1 (ai y.aX),.aN (.slice v'.l 64 v'.lc) 3 1 (ai y.dm),.aN (.slice v'.g y.cI.length v'.gc) 83 5 (ai y.cI),.aN (.slice v'.d y.ej.length v'.dc) 83 5 (ai y.ej)] L/\k=b+1-j/\j<=b+1/\a<=j/\dv (50000+30*(j-a)) y/\j5 u/\gw st n z a b=j9 z (b+1-j) j y u)
  (λl L=>∃(y:ar)(u:iG)(v':SA)(b5 b6 Pj Pk:Nat),Le [(5,bc b5),(6,bc b6),(10,bc Pj),(11,bc Pk)] l/\cz [.box b5 (rP v' y) 81 false,.box b6 (xx u) 130 false,.box Pj [eW,eW,eW,cb,eW,cb,eW,.bool false] 81 false,.box Pk [cb,cb,cb,cb,cb,cb,cb,cb,cb,cb] 130 false,.aN (.slice v'.r 64 v'.rc) 9 1 (ai y.er),.aN (.slice v'.f 64 v'.fc) 3 1 (ai y.aX),.aN (.slice v'.l 64 v'.lc) 3 1 (ai y.dm),.aN (.slice v'.g y.cI.length v'.gc) 83 5 (ai y.cI),.aN (.slice v'.d y.ej.length v'.dc) 83 5 (ai y.ej)] L/\gw st n z a b=(y,u,true)) (b+1-a) ⟨a,st,{n with size:=z.length},v,_,_,_,_,bk,au,rfl,ag,cA _,by simpa using h,GC,rfl⟩ ?_ ?_
 .rintro k l L ⟨j,y,u,v',b5,b6,Pj,Pk,hl,hL,rfl,hj,haj,hy,hu,hp⟩;refine W.le ?_ hl hL;clear hl hL;have hy8:dv 80000 y:=hy.mono ag;have Dq:=hu.tr;by_cases Sf:j<=b
  .have hc:=Rf ((z.take (min z.length ((j+1)*12))).drop (j*12));have uG:(nI ((z.take (min z.length ((j+1)*12))).drop (j*12))).length<=12:=by rw[gd,cZ] at hc;omega
   have bS:=nt (k:=j) (z:=nI ((z.take (min z.length ((j+1)*12))).drop (j*12))) hy Dq ag ag;rw[show b+1-j=(b+1-(j+1))+1 by omega,j9] at hp;have jg:List.take ((min (↑(List.length z)) (((j:Int)+1)*12)).toNat-((j:Int)*12).toNat) (List.drop ((j:Int)*12).toNat z)=(z.take (min z.length ((j+1)*12))).drop (j*12):=by
    rw[List.drop_take]
    congr 1<;>first|omega|(congr 1;omega)
   generalize hw:nI ((z.take (min z.length ((j+1)*12))).drop (j*12))=w at hp bS uG;rcases uu:nH y u.aS j w with⟨y2,u2,ok⟩
   have S3:∀(dI:SA) s,eQ a8 bj 151 [fD dI y,tv u.aS,iv j,sv (nI (List.take ((min (↑(List.length z)) (((j:Int)+1)*12)).toNat-((j:Int)*12).toNat) (List.drop ((j:Int)*12).toNat z)))] s [] dI y y2 ok (B1 u2 ok):=λdI s=>by
    have:=sF s dI y hy8 u.aS Dq j ag w ag;rw[uu] at this;rw[jg,hw];exact this
   rw[uu] at hp bS;have hjz:j*12<=z.length:=by omega
   cases ok with
   |true=>
    simp only at hp bS;(repeat' (first|refine' a7|refine' acx|refine' DG|refine' aw|fail))
    all_goals try exact pq
    refine⟨_,?_,j+1,y2,{u with aS:=u2},_,_,_,_,_,bk,au,rfl,ag,ag,bS.1.mono ag,hu.aS bS.2.1,hp⟩;omega
   |false=>
    simp only at hp bS;have By:=bS.2.2 trivial;rw[hp];(repeat' (first|refine' a7|refine' acx|refine' DG|refine' aw|fail))
    all_goals try exact pq
    (refine' dW)
    .rw[show fD y3 y2=fD y3 y from By.fD _];rw[Ls rfl];rfl
    .intro hc;cases hc
  .have Zy:j=b+1:=by omega
   subst Zy;rw[Fm,j9] at hp;(refine' cU)
   all_goals try exact pq
   exact⟨y,u,v',_,_,_,_,bk,au,hp⟩
 .rintro l L ⟨y,u,v',b5,b6,Pj,Pk,hl,hL,hp⟩;refine aq ?_;refine W.le ?_ hl hL;clear hl hL;rw[hp];(refine' cU)
  (refine' dW)
  .rfl
  .intro hc;cases hc
end Go.Pl
namespace Go.Pg
open Go.Pl
section
variable {st cQ:ar}{t:bX}{l q R:cW}
def tx (st:ar)(l:cW)(j:Nat):aA:=aW st (l.getD j bq)
theorem xP (h:qM st t l q){j:Nat}(hj:t.many<=j):tx st l j=[]:=by
 unfold tx;rw[h.hl j hj,lH lG]
theorem Js (h:dM st cQ R)(hm:∀p∈cG l q,p∈R)(j:Nat):tx cQ l j=tx st l j:=
 nk λhh=>h.row _ (hm _ (dz _ (dx.2 ⟨jA hh,hh⟩)))
theorem oT (h:qM st t l q):iq st t=(List.range t.many.toNat).map (tx st l):=by
 unfold iq;rw[h.wide];have hl:=h.len.1;have hm:=h.mn;apply UU;intro i;by_cases hi:i<t.many.toNat
 .rw[BK,U0 hi,BK,RL hi,bd ag];simp only[wh,tx,aR,bd (show i<l.length by omega),pV]
 .rw[rT (by simp;omega),rT (by simp;omega)]
theorem Po (h:qM st t l q):aI t.cy=true\/t.cy.level=t.depth:=by
 obtain⟨a,h1,h2⟩:=h.lv;have hd:=fq t.many;have oR:0<=t.depth:=by rw[h.dp];exact hd.1
 cases hh:aI t.cy with
 |true=>exact .inl rfl
 |false=>
  right
  cases hc:t.depth.toNat with
  |zero=>
   rw[hc] at h1;cases h1
   rw[h.l0 t.cy (by rw[h2];simp) hh];omega
  |succ n=>
   rw[hc] at h1;obtain⟨l',q',h3,h4,rfl⟩:=gA h1;obtain⟨k,r',h7,h8,rfl⟩:=gh h3;obtain⟨_,_,⟨h1,_⟩|⟨_,h9,_⟩⟩:=iP h7
   .rw[hh] at h1;cases h1
   .rw[h9];omega
theorem HH {n:iG}(h:qM st n.aS l q)(hk:n.kind=1\/n.kind=2)(hs:0<=n.size/\n.size<=16*fh n.kind)(hm:n.aS.many=dn n.size (fh n.kind))(hl:1<=n.bF/\n.bF<=if n.kind=2 then 1 else 9):ez n=true:=by
 have he:fh n.kind≠0:=by rcases hk with hk|hk<;>rw[hk]<;>decide
 have hp:fj n.kind n.size=dn n.size (fh n.kind):=by
  unfold fj;rw[if_neg];simp[he,fR];omega
 have x9:=h.mn;have hr:=Po h;simp only[ez,hp,<-hm,bU,pU,CG,mb,CF,fR,bQ,mS];exact⟨⟨⟨⟨ag,by simp⟩,by rw[h.dp];simp⟩,h.rt⟩,hl,hr⟩
theorem sH (h:qM st t l q)(hs:mQ st (cG l q++R)):fg st t=true:=by
 obtain⟨a,h1,h2⟩:=h.lv;have hl:gO st t=some a:=by unfold gO;rw[rl,h1];rfl
 have x9:=h.mn;unfold fg;rw[hl];simp only[bU,bQ,fR];refine⟨⟨⟨x9,h.dp⟩,h.rt⟩,?_⟩;have key:∀(b:cW)(i:Nat),(∀j,j<b.length->l.getD (i+j) bq=b.getD j bq)->(∀p∈b,p∈l)->ky (kW st t.many) i b=true:=by
  intro b;induction b with
  |nil=>intros;rfl
  |cons p b ih=>
   intro i hi hm;unfold ky;rw[bU];refine⟨?_,ih (i+1) (λj hj=>?_) (λx hx=>hm x (by simp[hx]))⟩
   .unfold kW;cases hh:aI p with
    |true=>simp
    |false=>
     have hp:=hm p (by simp);have Ji:=hs.lv p (by simp only[cG,eX];exact .inl (.inr (dx.2 ⟨hp,hh⟩)));have hrd:jW st p=some (gk st p):=by unfold jW;rw[if_neg (by simp[hh]),if_pos Ji.1]
     have du:(i:Int)<t.many:=by
      by_cases hc:(i:Int)<t.many
      .exact hc
      .have:=h.hl i ag;have h0:=hi 0 (by simp);rw[wY,this] at h0;have:p=bq:=by simpa using h0.symm
       rw[this] at hh;cases hh
     simp[hrd,h.l0 p hp hh,Ji.2,du]
   .have:=hi (j+1) (by simp;omega);rw[show i+(j+1)=i+1+j by omega] at this;simpa using this
 refine key a 0 (λj hj=>?_) (λp hp=>by rw[h2];simp[hp]);rw[h2,nF,aR,wZ hj,aR]
theorem Pp {t t':bX}{s:aA}(h:qM st t l q)(hs:mQ st (cG l q++R))(c8:s.length<=128)(hp:kz st t s=(cQ,t',true)):
  ∃l' q',qM cQ t' l' q'/\mQ cQ (cG l' q'++R)/\dM st cQ R/\t'.many=(if s=[] then 0 else 1)/\tx cQ l' 0=s:=by
 have x9:=h.mn;unfold kz at hp;by_cases Q0:s=[]
 .subst Q0;have hb:dw (([]:aA).length+1) []=[]:=rfl;simp only[hb] at hp;rw[if_neg (by simp)] at hp;simp only[lC] at hp;obtain⟨l',q',h1,h2,h3,h4,h5⟩:=Cq h hs (by simp;omega) hp;exact⟨l',q',h1,h2,h3,by rw[h4];rfl,by unfold tx;rw[h5,if_neg (by simp)]⟩
 .have hb:dw (s.length+1) s=[s]:=by
   rw[dw,if_neg ag,if_neg Q0]
  simp only[hb] at hp;rw[if_neg (by simp)] at hp;simp only[lC] at hp;split at hp
  .cases hp
  .rename_i x st1 t1 hpe;split at hpe
   .rename_i eL t2 dK;cases hpe
    obtain⟨l1,q1,h1,h2,h3,h4,h5⟩:=zg h hs ag dK;obtain⟨l',q',k1,k2,k3,k4,k5⟩:=Cq h1 h2 (by rw[h4];simp;omega) hp;refine⟨l',q',k1,k2,h3.trans k3 (λr hr=>hr),by rw[k4,if_neg Q0];rfl,?_⟩;unfold tx;rw[k5,if_pos (by simp),h5,if_pos rfl]
   .cases hpe
theorem MF {s:aA}(h:qM st t l q)(hm:t.many=(if s=[] then 0 else 1))(ht:tx st l 0=s):oA st t=some s:=by
 unfold oA;rw[oT h,hm];by_cases Q0:s=[]
 .rw[if_pos Q0,Q0];rfl
 .rw[if_neg Q0];show pb 1 0 [tx st l 0] []=some s;rw[ht];simp[pb,Q0]
def Ye (T:Nat->aA)(size many:Int):Prop:=∀j:Nat,(j:Int)<many->nI (T j)=T j/\((T j).length:Int)<=gf size j
theorem Jt (s:aA):(s.dropWhile (·=0)).length<=s.length:=(List.dropWhile_sublist _).length_le
theorem Yf (s:aA):(nI s).length<=s.length:=by
 unfold nI;rw[Qb];have:=Jt s.reverse;rw[Qb] at this;exact this
theorem vh (p:UInt8->Bool):∀s:aA,(s.dropWhile p).dropWhile p=s.dropWhile p
 |[]=>rfl
 |x::s=>by
  rw[List.dropWhile_cons];split
  .exact vh p s
  .rename_i h;rw[List.dropWhile_cons,if_neg h]
theorem TH (s:aA):nI (nI s)=nI s:=by
 unfold nI;rw[List.reverse_reverse,vh]
theorem TI {n:iG}(h:qM st n.aS l q)(hs:mQ st (cG l q++R))(hn:ez n=true)(hk:n.kind=1)(hf:Ye (tx st l) n.size n.aS.many):kX st n=true:=by
 unfold kX;rw[hn,hk,sH h hs,oT h];simp only[decide_true,F5,yf];have key:∀(m k:Nat),((k+m:Nat):Int)<=n.aS.many->kX.go n k ((List.range' k m).map (tx st l))=true:=by
  intro m;induction m with
  |zero=>intros;rfl
  |succ m ih=>
   intro k hk;rw[wv,vp,kX.go,ih (k+1) ag];have:=hf k ag;simp[this.1,this.2]
 rw[List.range_eq_range'];exact key _ 0 (by have:=h.mn;omega)
theorem zt (size:Int)(h:0<=size):dn size 12*12<size+12/\size<=dn size 12*12/\0<=dn size 12:=by
 unfold dn;omega
theorem EG (size:Int):∀(L:List aA)(k:Nat)(out:aA),(∀i,i<L.length->((L.getD i []).length:Int)<=gf size (k+i))->(L≠[]->(((k+L.length:Nat):Int)-1)*12<=size)->
  ((qd size k L out).length:Int)=out.length+(min (((k+L.length:Nat):Int)*12) size-min ((k:Int)*12) size)
 |[],k,out,_,_=>by simp[qd]
 |s::L,k,out,h,h2=>by
  have h0:=h 0 (by simp);rw[Kk,wY] at h0;have h3:=h2 (by simp);rw[cY] at h3;rw[qd,EG size L (k+1) _ (λi hi=>?_) (λ_=>by omega)]
  .simp only[bJ,ir,ry,cY];have Yg:gf size k=min 12 (size-k*12):=rfl;generalize gf size k=g at *
   omega
  .have:=h (i+1) (by simp;omega);rw[AY] at this;rw[show k+1+i=k+(i+1) by omega];exact this
theorem nu {n:iG}(h:qM st n.aS l q)(h0:0<=n.size)(hm:n.aS.many=dn n.size 12)(hf:Ye (tx st l) n.size n.aS.many):((bA st n).length:Int)=n.size:=by
 have hp:=zt n.size h0;rw[<-hm] at hp;unfold bA;rw[oT h];have x9:=h.mn;by_cases hz:n.aS.many=0
 .rw[hz] at hp⊢;simp[qd];omega
 .rw[EG n.size _ 0 [] (λi hi=>?_) (λ_=>by simp;omega)]
  .simp;omega
  .simp at hi;have:=(hf i ag).2;rw[aR,BK,RL ag];simpa using this
theorem zu {s:aA}:∀(m k:Nat){st cQ:ar}{n n':iG}{l q R:cW},qM st n.aS l q->mQ st (cG l q++R)->k+m<=16->j9 s m k st n=(cQ,n',true)->
  ∃l' q',qM cQ n'.aS l' q'/\mQ cQ (cG l' q'++R)/\dM st cQ R/\n'={n with aS:=n'.aS}/\(m=0->n'=n)/\(0<m->n'.aS.many=max n.aS.many ((k+m:Nat):Int))/\∀j:Nat,tx cQ l' j=if k<=j/\j<k+m then nI ((s.take (min s.length ((j+1)*12))).drop (j*12)) else tx st l j
 |0,k,st,cQ,n,n',l,q,R,h,hs,hk,hp=>by
  cases hp
  exact⟨l,q,h,hs,dM.refl _ _,rfl,λ_=>rfl,λh=>by omega,λj=>by rw[if_neg ag]⟩
 |m+1,k,st,cQ,n,n',l,q,R,h,hs,hk,hp=>by
  rw[j9] at hp;split at hp
  .rename_i st1 t1 dK;obtain⟨l1,q1,h1,h2,h3,h4,h5⟩:=zg h hs ag dK;obtain⟨l',q',k1,k2,k3,k4,k5,k6,k7⟩:=zu m (k+1) (n:={n with aS:=t1}) h1 h2 ag hp;refine⟨l',q',k1,k2,h3.trans k3 (λr hr=>hr),k4,λh=>by omega,λ_=>?_,λj=>?_⟩
   .rcases wc m with hm|hm
    .rw[k5 hm];subst hm;exact h4
    .rw[k6 hm];have:({n with aS:=t1}:iG).aS.many=t1.many:=rfl;rw[this,h4];omega
   .rw[k7];by_cases hj:k+1<=j/\j<k+1+m
    .rw[if_pos hj,if_pos ag]
    .rw[if_neg hj];have:tx st1 l1 j=if j=k then _ else tx st l j:=h5 j
     rw[this];by_cases hjk:j=k
     .rw[if_pos hjk,if_pos ag,hjk]
     .rw[if_neg hjk,if_neg ag]
  .cases hp
theorem TJ {s:aA}{j:Nat}(hj:j*12<=s.length):(((s.take (min s.length ((j+1)*12))).drop (j*12)).length:Int)<=gf s.length j:=by
 rw[gd,cZ];unfold gf;omega
structure pf (st:ar)(n:iG)(l q:cW):Prop where
 tr:qM st n.aS l q
 kd:n.kind=1
 sz:0<=n.size/\n.size<=192
 mn:n.aS.many=dn n.size 12
 lk:1<=n.bF/\n.bF<=9
 ft:Ye (tx st l) n.size n.aS.many
theorem pf.ok {n:iG}(h:pf st n l q):ez n=true:=
 HH h.tr (.inl h.kd) (by rw[h.kd];exact h.sz) (by rw[h.kd];exact h.mn) (by rw[h.kd];exact h.lk)
theorem EH {n n':iG}{s:aA}{a b:Nat}(h:qM st n.aS l q)(hs:mQ st (cG l q++R))(hk:n.kind=1)(hl:1<=n.bF/\n.bF<=9)(kK:a<=b)(hb:b<16)(c8:s.length<=192)(hbs:b*12<s.length)
  (hm:max n.aS.many ((b:Int)+1)=dn s.length 12)(hf:∀j:Nat,(j:Int)<n.aS.many->(a<=j/\j<=b)\/(nI (tx st l j)=tx st l j/\((tx st l j).length:Int)<=gf s.length j))(hp:gw st n s a b=(cQ,n',true)):
  ∃l' q',pf cQ n' l' q'/\mQ cQ (cG l' q'++R)/\dM st cQ R/\n'.bF=n.bF/\n'.kind=n.kind:=by
 unfold gw at hp;obtain⟨l',q',h1,h2,h3,h4,h5,h6,h7⟩:=zu (b+1-a) a (n:={n with size:=(s.length:Int)}) h hs ag hp;have vc:n'.aS.many=max n.aS.many ((b:Int)+1):=by
  rw[h6 ag];show max n.aS.many _=_;omega
 refine⟨l',q',⟨h1,by rw[h4];exact hk,by rw[h4];show 0<=(s.length:Int)/\(s.length:Int)<=192;omega,?_,by rw[h4];exact hl,?_⟩,h2,h3,by rw[h4],by rw[h4]⟩
 .have:n'.size=s.length:=by rw[h4]
  rw[vc,hm,this]
 .have iW:n'.size=s.length:=by rw[h4]
  rw[iW];intro j hj;rw[h7];by_cases Sj:a<=j/\j<a+(b+1-a)
  .rw[if_pos Sj];refine⟨TH _,?_⟩;have:=Yf ((s.take (min s.length ((j+1)*12))).drop (j*12));have:=TJ (s:=s) (j:=j) ag;omega
  .rw[if_neg Sj];by_cases hjn:(j:Int)<n.aS.many
   .rcases hf j hjn with hc|hc
    .omega
    .exact hc
   .have aeO:tx st l j=[]:=xP h ag;rw[aeO];refine⟨rfl,?_⟩;rw[vc] at hj;unfold gf;simp;omega
theorem MG (all:aA)(at_:Nat)(s:aA):(ga all at_ s).length=max all.length (at_+s.length):=by
 unfold ga;simp only[bJ,cZ,gd,ir,ry];omega
theorem Ju {n n':iG}{at_:Nat}{s:aA}(h:pf st n l q)(hs:mQ st (cG l q++R))(ha:at_+s.length<=192)(hp:fy st n at_ s=(cQ,n',true)):
  ∃l' q',pf cQ n' l' q'/\mQ cQ (cG l' q'++R)/\dM st cQ R/\n'.bF=n.bF/\n'.kind=n.kind:=by
 unfold fy at hp;split at hp
 .cases hp;exact⟨l,q,h,hs,dM.refl _ _,rfl,rfl⟩
 .rename_i Q0;have Q7:0<s.length:=oD.2 Q0;have BR:=nu h.tr h.sz.1 h.mn h.ft;have KG:=MG (bA st n) at_ s;have iW:=h.sz;have x9:=h.mn;have Z9:=zt n.size h.sz.1;refine EH h.tr hs h.kd h.lk ?_ ?_ ?_ ?_ ?_ ?_ hp
  .omega
  .omega
  .omega
  .omega
  .rw[x9];unfold dn;rw[KG];omega
  .intro j hj
   right
   have:=h.ft j hj;refine⟨this.1,?_⟩;have h2:=this.2;unfold gf at h2⊢;rw[KG];omega
theorem Pq {n n':iG}{size:Nat}(h:pf st n l q)(hs:mQ st (cG l q++R))(ha:size<=192)(hp:fk st n size=(cQ,n',true)):
  ∃l' q',pf cQ n' l' q'/\mQ cQ (cG l' q'++R)/\dM st cQ R/\n'.bF=n.bF/\n'.kind=n.kind:=by
 unfold fk at hp;have iW:=h.sz;have x9:=h.mn;have Z9:=zt n.size h.sz.1;have hp2:=zt size ag;simp only at hp;split at hp
 .rename_i hle;have Yg:∀j:Nat,gf n.size j<=gf size j:=λj=>by unfold gf;omega
  split at hp
  .rename_i hmm;cases hp
   refine⟨l,q,⟨h.tr,h.kd,by show 0<=(size:Int)/\(size:Int)<=192;omega,hmm.symm,h.lk,λj hj=>?_⟩,hs,dM.refl _ _,rfl,rfl⟩;have:=h.ft j hj;exact⟨this.1,Int.le_trans this.2 (Yg j)⟩
  .rename_i hmm;rcases dK:nH st n.aS (dn (size:Int) 12-1).toNat [] with⟨st1,t1,ok⟩
   rw[dK] at hp;cases hp
   have hgt:n.aS.many<dn size 12:=by
    have:dn n.size 12<=dn size 12:=by unfold dn;omega
    omega
   have IA:dn size 12<=16:=by unfold dn;omega
   obtain⟨l',q',h1,h2,h3,h4,h5⟩:=zg h.tr hs ag dK;have hm2:t1.many=dn size 12:=by rw[h4];omega
   refine⟨l',q',⟨h1,h.kd,by show 0<=(size:Int)/\(size:Int)<=192;omega,hm2,h.lk,λj hj=>?_⟩,h2,h3,rfl,rfl⟩;have hj:(j:Int)<t1.many:=hj;have e:tx st1 l' j=if j=(dn size 12-1).toNat then [] else tx st l j:=h5 j
   rw[e];have h0:(0:Int)<=gf size j:=by unfold gf;omega
   split
   .exact⟨rfl,h0⟩
   .by_cases hjn:(j:Int)<n.aS.many
    .have:=h.ft j hjn;exact⟨this.1,Int.le_trans this.2 (Yg j)⟩
    .rw[xP h.tr ag];exact⟨rfl,h0⟩
 .rename_i hgt;have hle:dn size 12<=n.aS.many:=by rw[x9];unfold dn;omega
  split at hp
  .cases hp
  .rename_i st1 t1 ni;obtain⟨l1,q1,h1,h2,h3,h4,h5⟩:=Cq h.tr hs ag ni;split at hp
   .rename_i hz;cases hp
    refine⟨l1,q1,⟨h1,h.kd,by show 0<=(size:Int)/\(size:Int)<=192;omega,h4,h.lk,λj hj=>?_⟩,h2,h3,rfl,rfl⟩;have hj:(j:Int)<t1.many:=hj;rw[h4,hz] at hj;omega
   .rename_i hz;have BR:=nu h.tr h.sz.1 h.mn h.ft;have pz:((bA st n).take size).length=size:=by rw[cZ];omega
    obtain⟨l',q',k1,k2,k3,k4,k5⟩:=EH (n:={n with aS:=t1,size:=(size:Int)}) h1 h2 h.kd h.lk (cA _) ag ag (by rw[pz];omega) (by
     show max t1.many _=_;rw[pz,h4];omega) (λj hj=>by
     have hj:(j:Int)<t1.many:=hj;rw[h4] at hj;by_cases Zv:j=(dn size 12-1).toNat
     .left;omega
     .right
      have e:tx st1 l1 j=if(j:Int)<dn size 12 then tx st l j else []:=h5 j
      rw[e,if_pos hj];have:=h.ft j ag;refine⟨this.1,?_⟩;have h2:=this.2;rw[pz];unfold gf at h2⊢;omega) hp
    exact⟨l',q',k1,k2,h3.trans k3 (λr hr=>hr),k4,k5⟩
end
section
variable {id k:Nat}{st cQ:ar}{l q:cW}{t t':bX}
structure NE where
 n:iG
 es:List aZ
 Q:cW
abbrev Gr:=Nat->Option NE
def gq (G:Gr)(k:Nat):cW:=match G k with
 |none=>[]
 |some e=>e.Q
def MH (G:Gr):cW:=(List.range 16).flatMap (gq G)
def rL (G:Gr)(id:Nat):cW:=(List.range 16).flatMap λk=>if k=id then [] else gq G k
def gI (G:Gr)(id:Nat)(e:Option NE):Gr:=λk=>if k=id then e else G k
theorem HI (f:Nat->cW)(id:Nat):∀n:Nat,((List.range n).flatMap f).Perm ((if id<n then f id else [])++(List.range n).flatMap λk=>if k=id then [] else f k)
 |0=>by simp
 |n+1=>by
  have ih:=HI f id n;rw[AZ,CD,CD];simp only[mo,qQ,ix];by_cases h:n=id
  .subst h;rw[if_neg ag] at ih;rw[if_pos ag,if_pos rfl,ix];exact(CJ _ ih).trans (by rw[pT];exact List.perm_append_comm)
  .rw[if_neg h];by_cases h2:id<n
   .rw[if_pos h2] at ih;rw[if_pos ag];refine(CJ _ ih).trans ?_;rw[kG]
   .rw[if_neg h2] at ih;rw[if_neg ag];exact CJ _ ih
theorem sI (G:Gr)(h:id<16):(MH G).Perm (gq G id++rL G id):=by
 have:=HI (gq G) id 16;rw[if_pos h] at this;exact this
theorem MI (G:Gr)(id:Nat)(e:Option NE):rL (gI G id e) id=rL G id:=by
 unfold rL
 congr 1
 funext k
 split
 .rfl
 .rename_i h;unfold gq gI;rw[if_neg h]
theorem Yh (G:Gr)(id:Nat)(e:Option NE):gq (gI G id e) id=match e with
 |none=>[]
 |some e=>e.Q:=by unfold gq gI;rw[if_pos rfl]
theorem ae0 {G:Gr}(hk:k<16):∀p∈gq G k,p∈MH G:=λp hp=>ph.2 ⟨k,lS.2 hk,hp⟩
theorem Pr {G:Gr}(hk:k<16)(h:k≠id):∀p∈gq G k,p∈rL G id:=λp hp=>ph.2 ⟨k,lS.2 hk,by rw[if_neg h];exact hp⟩
structure Yi (st:ar)(n:iG)(es:List aZ)(l q:cW):Prop where
 tr:qM st n.aS l q
 kd:n.kind=2
 eo:bz es=true
 sz:n.size=(bg es).length
 lk:n.bF=1
 mn:n.aS.many=(if bg es=[] then 0 else 1)
 tx0:tx st l 0=bg es
def J5 (st:ar)(e:NE):Prop:=∃l q,e.Q=cG l q/\((e.es=[]/\pf st e.n l q)\/Yi st e.n e.es l q)
theorem Yi.ok {n:iG}{es:List aZ}(h:Yi st n es l q):ez n=true:=by
 have hl:=(lY h.eo).1;refine HH h.tr (.inr h.kd) ?_ ?_ ?_
 .rw[h.kd,h.sz,show fh 2=128 from rfl];omega
 .rw[h.kd,h.mn,h.sz,show fh 2=128 from rfl];unfold dn;by_cases he:bg es=[]
  .rw[if_pos he,he];rfl
  .rw[if_neg he];have:=oD.2 he;omega
 .rw[h.kd,h.lk];simp
theorem J5.ok {e:NE}(h:J5 st e):ez e.n=true:=by
 obtain⟨l,q,_,⟨_,h⟩|h⟩:=h
 .exact h.ok
 .exact h.ok
theorem J5.ext {e:NE}{R:cW}(h:J5 st e)(hx:dM st cQ R)(hm:∀p∈e.Q,p∈R):J5 cQ e:=by
 obtain⟨l,q,hq,h⟩:=h;rw[hq] at hm;have Dq:∀{t:bX},qM st t l q->qM cQ t l q:=λh=>h.ext (λp hp=>hx.row p (hm p (cP _ hp))) (by rw[hx.tx];omega)
 have Br:∀j,tx cQ l j=tx st l j:=λj=>Js hx hm j
 refine⟨l,q,hq,?_⟩;rcases h with⟨h0,h⟩|h
 .exact .inl ⟨h0,Dq h.tr,h.kd,h.sz,h.mn,h.lk,λj hj=>by rw[Br];exact h.ft j hj⟩
 .exact .inr ⟨Dq h.tr,h.kd,h.eo,h.sz,h.lk,h.mn,by rw[Br];exact h.tx0⟩
def At (st:ar)(l:cW)(G:Gr)(k:Nat):Prop:=match G k with
 |none=>tx st l k=[]
 |some e=>tx st l k=fZ e.n/\J5 st e
theorem At.some {G:Gr}{e:NE}(h:At st l G k)(he:G k=some e):tx st l k=fZ e.n/\J5 st e:=by
 unfold At at h;rw[he] at h;exact h
theorem At.none {G:Gr}(h:At st l G k)(he:G k=none):tx st l k=[]:=by
 unfold At at h;rw[he] at h;exact h
theorem At.ext {l l' R:cW}{G:Gr}(h:At st l G k)(hx:dM st cQ R)(ht:tx cQ l' k=tx st l k)(hm:∀p∈gq G k,p∈R):At cQ l' G k:=by
 unfold At at h⊢;unfold gq at hm;cases hg:G k with
 |none=>rw[hg] at h;simp only at h⊢;rw[ht,h]
 |some e=>
  rw[hg] at h hm;simp only at h hm⊢;exact⟨by rw[ht];exact h.1,h.2.ext hx hm⟩
structure FX (st:ar)(t:bX)(G:Gr)(id:Nat)(Q:cW)(l q:cW):Prop where
 tr:qM st t l q
 so:mQ st (cG l q++(Q++rL G id))
 at_:∀k,k≠id->At st l G k
 hi:∀k,16<=k->G k=none
structure rp (st:ar)(t:bX)(G:Gr)(l q:cW):Prop where
 tr:qM st t l q
 so:mQ st (cG l q++MH G)
 at_:∀k,At st l G k
 hi:∀k,16<=k->G k=none
theorem rp.fx {G:Gr}(h:rp st t G l q)(hid:id<16):FX st t G id (gq G id) l q:=
 ⟨h.tr,h.so.cR (pj _ (sI G hid)),λk _=>h.at_ k,h.hi⟩
theorem Ps {G:Gr}{e:Option NE}(h:∀k,16<=k->G k=none)(hid:id<16):∀k,16<=k->gI G id e k=none:=λk hk=>by
 unfold gI;rw[if_neg ag];exact h k hk
theorem FX.step {G:Gr}{Q Q' l q:cW}(h:FX st t G id Q l q)(hx:dM st cQ (cG l q++rL G id))(hs:mQ cQ (Q'++(cG l q++rL G id))):FX cQ t G id Q' l q:=by
 refine⟨h.tr.ext (λp hp=>hx.row p (by simp[cG,hp])) (by rw[hx.tx];omega),hs.cR (oE _ _ _),λk hk=>?_,h.hi⟩;by_cases Jv:k<16
 .exact(h.at_ k hk).ext hx (Js hx (λp hp=>cP _ hp) k) (λp hp=>dz _ (Pr Jv hk p hp))
 .have hn:=h.hi k ag;have:=(h.at_ k hk).none hn;unfold At;rw[hn];simp only;rw[Js hx (λp hp=>cP _ hp) k,this]
theorem Yj {G:Gr}{e:NE}(h:FX st t G id e.Q l q)(hid:id<16)(he:J5 st e)(hp:pr st t id e.n=(cQ,t',true)):∃l' q',rp cQ t' (gI G id (some e)) l' q':=by
 unfold pr at hp;obtain⟨l',q',h1,h2,h3,h4,h5⟩:=zg h.tr h.so hid hp;refine⟨l',q',h1,h2.cR ?_,λk=>?_,Ps h.hi hid⟩
 .refine pj _ ?_;have:=sI (gI G id (some e)) hid;rw[MI,Yh] at this;exact this.symm
 .by_cases hk:k=id
  .subst hk;unfold At gI;rw[if_pos rfl];simp only;refine⟨?_,he.ext h3 (λp hp=>cP _ hp)⟩;have:tx cQ l' k=if k=k then fZ e.n else tx st l k:=h5 k
   rw[this,if_pos rfl]
  .have e1:At st l (gI G id (some e)) k:=by
    have:=h.at_ k hk;unfold At gI at *
    rw[if_neg hk];exact this
   refine e1.ext h3 ?_ (λp hp=>?_)
   .have:tx cQ l' k=if k=id then fZ e.n else tx st l k:=h5 k
    rw[this,if_neg hk]
   .have hg:gq (gI G id (some e)) k=gq G k:=by unfold gq gI;rw[if_neg hk]
    rw[hg] at hp;by_cases Jv:k<16
    .exact dz _ (Pr Jv hk p hp)
    .unfold gq at hp;rw[h.hi k ag] at hp;cases hp
theorem rp.iq {G:Gr}(h:rp st t G l q)(k:Nat):(iq st t).getD k []=tx st l k:=by
 rw[oT h.tr];have x9:=h.tr.mn;by_cases hk:k<t.many.toNat
 .rw[aR,BK,RL hk];rfl
 .rw[aR,rT (by simp;omega),xP h.tr ag];rfl
theorem At.get {G:Gr}(h:At st l G k):eP (tx st l k)=(G k).map (·.n):=by
 cases hg:G k with
 |none=>rw[h.none hg,u7];rfl
 |some e=>rw[(h.some hg).1,LX (h.some hg).2.ok];rfl
theorem rp.jj {G:Gr}(h:rp st t G l q)(k:Nat):jj st t k=(G k).map (·.n):=by
 unfold Go.Pl.jj;have x9:=h.tr.mn;by_cases hk:(k:Int)<t.many
 .rw[if_neg (by simp[fR];omega)];unfold Sr;rw[h.tr.wide,uy];exact(h.at_ k).get
 .rw[if_pos (by simp[fR];omega)];have:=(h.at_ k).get;rw[xP h.tr ag,u7] at this;exact this
theorem rp.lt {G:Gr}(h:rp st t G l q){e:NE}(he:G k=some e):(k:Int)<t.many/\k<16:=by
 have x9:=h.tr.mn;have h1:k<16:=by
  by_cases hk:k<16
  .exact hk
  .rw[h.hi k ag] at he;cases he
 refine⟨?_,h1⟩;by_cases hk:(k:Int)<t.many
 .exact hk
 .have:=((h.at_ k).some he).1;rw[xP h.tr ag] at this;have h2:=(rj ((h.at_ k).some he).2.ok).1;rw[<-this] at h2;simp at h2
def nw (o:Option NE):Option (List aZ):=match o with
 |none=>none
 |some e=>if e.n.kind=2 then some e.es else none
theorem EI (st:ar):bK st bu=none:=by
 unfold bK;rw[if_pos];rw[show ez bu=false from by decide];rfl
theorem J5.bK {e:NE}{R:cW}(h:J5 st e)(hs:mQ st (e.Q++R)):bK st e.n=if e.n.kind=2 then some e.es else none:=by
 have fF:=h.ok;obtain⟨l,q,hq,⟨_,hf⟩|hd⟩:=h
 .rw[if_neg (by rw[hf.kd];decide)];unfold Go.Pl.bK;rw[if_pos];rw[hf.kd];simp
 .rw[if_pos hd.kd];rw[hq] at hs;unfold Go.Pl.bK;rw[if_neg (by rw[fF,hd.kd,sH hd.tr hs];simp),MF hd.tr hd.mn hd.tx0];simp only;rw[if_neg (by rw[hd.sz];simp),D5 hd.eo]
theorem rp.bK {G:Gr}(h:rp st t G l q)(k:Nat):bK st ((Go.Pl.jj st t k).getD bu)=nw (G k):=by
 rw[h.jj];cases hg:G k with
 |none=>exact EI st
 |some e=>
  have hk:=(h.lt hg).2;refine((h.at_ k).some hg).2.bK (R:=rL G k++cG l q) (h.so.cR ?_);refine(pj _ (sI G hk)).trans ?_;have e1:gq G k=e.Q:=by unfold gq;rw[hg]
  rw[e1];refine List.perm_append_comm.trans ?_;rw[kG]
theorem EJ {G:Gr}(h:rp st t G l q)(hf:uR st t=some id):id<16/\G id=none:=by
 unfold uR at hf;obtain⟨h1,h2,h3⟩:=lg hf;refine⟨ag,?_⟩;simp only[bQ] at h3;rw[h.iq] at h3;cases hg:G id with
 |none=>rfl
 |some e=>
  have h4:=((h.at_ id).some hg).1;rw[h3] at h4;have h5:=(rj ((h.at_ id).some hg).2.ok).1;rw[<-h4] at h5;simp at h5
theorem HJ (Be:Int):∀(L:List aA)(k n:Nat),n<=k->(n<=mg Be k n L/\mg Be k n L<=k+L.length)/\∀i,i<L.length->mg Be k n L<=k+i->((k+i:Nat):Int)≠Be->L.getD i []=[]
 |[],k,n,h=>by simp[mg];omega
 |s::L,k,n,h=>by
  unfold mg;have ih:=HJ Be L (k+1) (if(decide ((k:Int)≠Be)&&decide (s≠[]))=true then k+1 else n) (by split<;>omega);obtain⟨⟨h1,h2⟩,h3⟩:=ih;refine⟨⟨?_,by rw[cY];omega⟩,λi hi hle fK=>?_⟩
  .refine ik ?_ h1;split<;>omega
  .cases i with
   |zero=>
    rw[Kk];by_cases hs:s=[]
    .exact hs
    .exfalso;rw[if_pos (by simp[hs];simpa using fK)] at h1 hle;omega
   |succ i=>
    rw[AY];exact h3 i (by simp at hi;omega) (by rw[show k+1+i=k+(i+1) by omega];exact hle) (by rw[show k+1+i=k+(i+1) by omega];exact fK)
theorem Jw {G:Gr}{e:NE}(h:rp st t G l q)(he:G id=some e)(hp:dY st t id=(cQ,t',true)):∃l' q',rp cQ t' (gI G id none) l' q':=by
 obtain⟨du,hid⟩:=h.lt he;have x9:=h.tr.mn;have hn:=((h.at_ id).some he).2;unfold dY at hp;have hgn:(jj st t id).getD bu=e.n:=by rw[h.jj,he];rfl
 simp only[hgn,uy] at hp;have bS:(xl st e.n.aS).Perm e.Q:=by
  obtain⟨lx,qx,hq,hh⟩:=hn;rw[hq];rcases hh with⟨_,hf⟩|hd
  .exact Jk hf.tr
  .exact Jk hd.tr
 have NM:=h.fx hid;have Yk:gq G id=e.Q:=by unfold gq;rw[he]
 have tc:mQ st ((xl st e.n.aS).filter nh++(cG l q++rL G id)):=by
  have h1:mQ st (xl st e.n.aS++(cG l q++rL G id)):=NM.so.cR (by
   rw[Yk];refine(oE _ _ _).trans ?_;exact CJ _ bS.symm)
  exact h1.sub (Kf AX (F4 _))
 obtain⟨f1,f2⟩:=qt tc;have TK:FX (dC (xl st e.n.aS) st) t G id [] l q:=NM.step f2 f1;have HK:=HJ (id:Int) (iq st t) 0 0 (cA _);have pz:(iq st t).length=t.many.toNat:=by rw[oT h.tr];simp
 split at hp
 .cases hp
 .rename_i st1 t1 dK;obtain⟨l1,q1,h1,h2,h3,h4,h5⟩:=zg TK.tr TK.so hid dK;have hm1:t1.many=t.many:=by rw[h4];omega
  have hla:ra st t id<=t.many.toNat:=by
   have:=HK.1.2;rw[pz] at this;unfold ra;omega
  obtain⟨l',q',k1,k2,k3,k4,k5⟩:=Cq h1 h2 (by rw[hm1];omega) hp;have Br:∀k,k≠id->tx cQ l' k=tx st l k:=λk hk=>by
   have e1:tx cQ l' k=if(k:Int)<(ra st t id:Nat) then tx st1 l1 k else []:=k5 k
   have e2:tx st1 l1 k=if k=id then [] else tx (dC (xl st e.n.aS) st) l k:=h5 k
   have e3:tx (dC (xl st e.n.aS) st) l k=tx st l k:=Js f2 (λp hp=>cP _ hp) k;rw[e1,e2,if_neg hk,e3];split
   .rfl
   .rename_i ZW;by_cases hkm:k<t.many.toNat
    .have:=HK.2 k (by rw[pz];exact hkm) (by
      show ra st t id<=0+k;omega) ag
     rw[h.iq] at this;exact this.symm
    .rw[xP h.tr ag]
  refine⟨l',q',k1,k2.cR ?_,λk=>?_,Ps h.hi hid⟩
  .refine pj _ ?_;have:=sI (gI G id none) hid;rw[MI,Yh] at this;exact this.symm
  .by_cases hk:k=id
   .subst hk;unfold At gI;rw[if_pos rfl];simp only;have e1:tx cQ l' k=if(k:Int)<(ra st t k:Nat) then tx st1 l1 k else []:=k5 k
    have e2:tx st1 l1 k=if k=k then [] else tx (dC (xl st e.n.aS) st) l k:=h5 k
    rw[e1,e2,if_pos rfl];split<;>rfl
   .have hx:dM st cQ (rL G id):=(f2.mono (λp hp=>dz _ hp)).trans ((h3.mono (Q':=rL G id) (λp hp=>dz _ hp)).trans (k3.mono (Q':=rL G id) λp hp=>dz _ hp) (λp hp=>hp)) (λp hp=>hp);have e1:At st l (gI G id none) k:=by
     have:=h.at_ k;unfold At gI at *
     rw[if_neg hk];exact this
    refine e1.ext hx (Br k hk) (λp hp=>?_);have hg:gq (gI G id none) k=gq G k:=by unfold gq gI;rw[if_neg hk]
    rw[hg] at hp;by_cases Jv:k<16
    .exact Pr Jv hk p hp
    .unfold gq at hp;rw[h.hi k ag] at hp;cases hp
end
end Go.Pg
