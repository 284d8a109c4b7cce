/- Lemmas of the proof. No conditions. -/
import Derived.Test.YtjaeddbblleomaaGreatDoorAd9
set_option maxRecDepth 100000
set_option maxHeartbeats 4000000
set_option linter.unusedVariables false
set_option linter.unusedSimpArgs false
open Go.Proofs.Tryz
namespace Go.Pl
open Go Go.Ev Go.Lg Go.Proofs
theorem sh (s:St)(v:SA)(st:ak)(h:du 80000 st)(t:bX)(ht:dZ t)(k:Nat)(hk:k<16)(z:ay)(hz:z.length<=3000):
  eP aU aW 132 [fF v st,tv t,iv k,sv z] s [] v st (nj st t k z).1 (nj st t k z).2.2 (Bp (nj st t k z).2.1 (nj st t k z).2.2):=by
 have h1:du 100000 st:=h.mono af;have h9:du 90000 st:=h.mono af;have hrt:=ht.rt;obtain⟨_,hw,LF⟩:=qW (st:=st) ht;have xz:=ht.mn;have Jt:bw ((wide st t).getD k c9.lW)=true:=LF _ (aF af _);have dK:nj st t k z=if bh st ((wide st t).getD k c9.lW)=z/\(max t.many ((k:Int)+1))=t.many then(st,t,true) else
   match(if bh st ((wide st t).getD k c9.lW)=z then some (st,((wide st t).getD k c9.lW)) else Io st z) with
   |none=>(st,t,false)
   |some (st1,p)=>match gT st1 t ((wide st t).set k p) (max t.many ((k:Int)+1)) with
    |(eI,none)=>(eI,eX,false)
    |(eI,some t2)=>(if p=((wide st t).getD k c9.lW) then eI else free eI ((wide st t).getD k c9.lW),t2,true):=rfl
 by_cases hA:bh st ((wide st t).getD k c9.lW)=z
 .have hAd:decide ((jP st ((wide st t).getD k c9.lW)).getD []=z)=true:=dO hA;have hAn:(!decide ((jP st ((wide st t).getD k c9.lW)).getD []=z))=false:=by rw[hAd];rfl
  by_cases hB:(max t.many ((k:Int)+1))=t.many
  .have hBd:=dO hB;rw[dK,if_pos ⟨hA,hB⟩];refine aO f132 ?_;dsimp only[eM];(repeat' (first|refine' aX|refine' CV|refine' zS|refine' ar|fail))
   (refine' dV)
   .rfl
   .intro hc;cases hc
  .have hBd:=iO hB;rw[if_neg (λhx=>hB hx.2),if_pos hA] at dK;simp only at dK;have RY:=Jt;have hpd:(!decide (((wide st t).getD k c9.lW)=((wide st t).getD k c9.lW)))=false:=by simp
   have Xo:∀q∈((wide st t).set k ((wide st t).getD k c9.lW)),bw q=true:=λq hq=>by
    rcases oD hq with hq|rfl
    .exact LF q hq
    .exact RY
   have L6:((wide st t).set k ((wide st t).getD k c9.lW)).length=16:=by rw[gZ];exact hw
   have bP:=vw (t:=t) (lv:=((wide st t).set k ((wide st t).getD k c9.lW))) (many:=(max t.many ((k:Int)+1))) h9 hrt L6 Xo af;rcases oT:gT st t ((wide st t).set k ((wide st t).getD k c9.lW)) (max t.many ((k:Int)+1)) with⟨eI,o⟩
   have hlc:∀(v':SA) s a c,bM s a (wide st t).length 5 (ah ((wide st t).set k ((wide st t).getD k c9.lW)))->(∀b∈ai a,b∉(eM v' st).flatMap It.aS)->E0 s a (wide st t).length c 60 5->eP aU aW 173 [fF v' st,tv t,.slice a (wide st t).length c,iv (max t.many ((k:Int)+1))] s (ai a) v' st eI o.isSome (Xm o):=λv' s a c hr hm hv=>by
    have:=yV s v' st h9 t hrt a c ((wide st t).set k ((wide st t).getD k c9.lW)) L6 (max t.many ((k:Int)+1)) af (by rw[gZ];exact hr) hm (by rw[gZ];exact hv);rw[oT,gZ] at this;exact this
   rw[oT] at dK bP;cases o with
   |none=>
    simp only at dK;rw[dK];refine aO f132 ?_;dsimp only[eM];(refine' Wz)
    (refine' dV)
    .rfl
    .exact λ_=>uC rfl
   |some t2=>
    simp only at dK bP;rw[if_pos trivial] at dK;rw[dK];refine aO f132 ?_;dsimp only[eM];(refine' Wz)
    (refine' dV)
    .rfl
    .intro hc;cases hc
 .have hAd:decide ((jP st ((wide st t).getD k c9.lW)).getD []=z)=false:=iO hA;have hAn:(!decide ((jP st ((wide st t).getD k c9.lW)).getD []=z))=true:=by rw[hAd];rfl
  rw[if_neg (λhx=>hA hx.1),if_neg hA] at dK;by_cases FZ:z=[]
  .subst FZ;have hzd:(!decide (([]:ay)=[]))=false:=by simp
   have RY:bw bq=true:=by decide
   have gx:¬bq=((wide st t).getD k c9.lW):=λhx=>hA (by rw[<-hx];rfl)
   have hpd:(!decide (bq=((wide st t).getD k c9.lW)))=true:=by rw[iO gx];rfl
   have dK:nj st t k []=match gT st t ((wide st t).set k bq) (max t.many ((k:Int)+1)) with
    |(eI,none)=>(eI,eX,false)
    |(eI,some t2)=>(if bq=((wide st t).getD k c9.lW) then eI else free eI ((wide st t).getD k c9.lW),t2,true):=dK
   have Xo:∀q∈((wide st t).set k bq),bw q=true:=λq hq=>by
    rcases oD hq with hq|rfl
    .exact LF q hq
    .exact RY
   have L6:((wide st t).set k bq).length=16:=by rw[gZ];exact hw
   have bP:=vw (t:=t) (lv:=((wide st t).set k bq)) (many:=(max t.many ((k:Int)+1))) h9 hrt L6 Xo af;rcases oT:gT st t ((wide st t).set k bq) (max t.many ((k:Int)+1)) with⟨eI,o⟩
   have hlc:∀(v':SA) s a c,bM s a (wide st t).length 5 (ah ((wide st t).set k bq))->(∀b∈ai a,b∉(eM v' st).flatMap It.aS)->E0 s a (wide st t).length c 60 5->eP aU aW 173 [fF v' st,tv t,.slice a (wide st t).length c,iv (max t.many ((k:Int)+1))] s (ai a) v' st eI o.isSome (Xm o):=λv' s a c hr hm hv=>by
    have:=yV s v' st h9 t hrt a c ((wide st t).set k bq) L6 (max t.many ((k:Int)+1)) af (by rw[gZ];exact hr) hm (by rw[gZ];exact hv);rw[oT,gZ] at this;exact this
   rw[oT] at dK bP;cases o with
   |none=>
    simp only at dK;rw[dK];refine aO f132 ?_;dsimp only[eM];(refine' Wz)
    (refine' dV)
    .rfl
    .exact λ_=>uC rfl
   |some t2=>
    simp only at dK bP;rw[if_neg gx] at dK;have hst2:du 100000 eI:=bP.1.mono af;rw[dK];refine aO f132 ?_;dsimp only[eM];(repeat' (first|refine' aX|refine' CV|refine' zS|refine' C0|refine' KS|refine' ar|fail))
    (refine' dV)
    .rfl
    .intro hc;cases hc
  .have hzd:(!decide (z=([]:ay)))=true:=by simp[FZ]
   have hpP:Io st z=aZ st z 0:=by unfold Io;rw[if_neg FZ]
   rw[hpP] at dK;cases nG:aZ st z 0 with
   |none=>
    have hwc:∀s,eP aU aW 172 [fF v st,sv z,iv 0] s [] v st st false (wrV bq false):=λs=>by
     have:=wW s v st h1 z hz 0;rw[show wr st z 0=(st,bq,false) by unfold wr;rw[nG]] at this;exact this
    rw[nG] at dK;simp only at dK;rw[dK];refine aO f132 ?_;dsimp only[eM];(repeat' (first|refine' aX|refine' CV|refine' zS|refine' P7|refine' ar|fail))
    obtain rfl:=C2 rfl;(refine' dV)
    .rfl
    .exact λ_=>rfl
   |some r=>
    obtain⟨st1,p⟩:=r;have hwc:∀s,eP aU aW 172 [fF v st,sv z,iv 0] s [] v st st1 false (wrV p true):=λs=>by
     have:=wW s v st h1 z hz 0;rw[show wr st z 0=(st1,p,true) by unfold wr;rw[nG]] at this;exact this
    obtain⟨tP,RY,_⟩:=h.aZ hz nG;have hs9:du 90000 st1:=tP.mono af;rw[nG] at dK;simp only at dK;have Xo:∀q∈((wide st t).set k p),bw q=true:=λq hq=>by
     rcases oD hq with hq|rfl
     .exact LF q hq
     .exact RY
    have L6:((wide st t).set k p).length=16:=by rw[gZ];exact hw
    have bP:=vw (t:=t) (lv:=((wide st t).set k p)) (many:=(max t.many ((k:Int)+1))) hs9 hrt L6 Xo af;rcases oT:gT st1 t ((wide st t).set k p) (max t.many ((k:Int)+1)) with⟨eI,o⟩
    have hlc:∀(v':SA) s a c,bM s a (wide st t).length 5 (ah ((wide st t).set k p))->(∀b∈ai a,b∉(eM v' st1).flatMap It.aS)->E0 s a (wide st t).length c 60 5->eP aU aW 173 [fF v' st1,tv t,.slice a (wide st t).length c,iv (max t.many ((k:Int)+1))] s (ai a) v' st1 eI o.isSome (Xm o):=λv' s a c hr hm hv=>by
     have:=yV s v' st1 hs9 t hrt a c ((wide st t).set k p) L6 (max t.many ((k:Int)+1)) af (by rw[gZ];exact hr) hm (by rw[gZ];exact hv);rw[oT,gZ] at this;exact this
    rw[oT] at dK bP;cases o with
    |none=>
     simp only at dK;rw[dK];refine aO f132 ?_;dsimp only[eM];(repeat' (first|refine' aX|refine' CV|refine' zS|refine' P7|refine' C0|refine' ar|fail))
     (refine' dV)
     .rfl
     .exact λ_=>(uC rfl).trans (C2 rfl)
    |some t2=>
     simp only at dK bP;by_cases hpe:p=((wide st t).getD k c9.lW)
     .have hpd:(!decide (p=((wide st t).getD k c9.lW)))=false:=by rw[dO hpe];rfl
      rw[if_pos hpe] at dK;rw[dK];refine aO f132 ?_;dsimp only[eM];(repeat' (first|refine' aX|refine' CV|refine' zS|refine' P7|refine' C0|refine' ar|fail))
      (refine' dV)
      .rfl
      .intro hc;cases hc
     .have hpd:(!decide (p=((wide st t).getD k c9.lW)))=true:=by rw[iO hpe];rfl
      rw[if_neg hpe] at dK;have hst2:du 100000 eI:=bP.1.mono af;rw[dK];refine aO f132 ?_;dsimp only[eM];(repeat' (first|refine' aX|refine' CV|refine' zS|refine' P7|refine' C0|refine' KS|refine' ar|fail))
      (refine' dV)
      .rfl
      .intro hc;cases hc
def cutV (t:bX)(ok:Bool):Value->Value:=λV=>.tuple ⟨[V,tv t,.bool ok]⟩
theorem C4 (s:St)(v:SA)(st:ak)(h:du 80000 st)(t:bX)(ht:dZ t)(many:Int)(xz:0<=many/\many<=16):
  eP aU aW 184 [fF v st,tv t,iv many] s [] v st (sU st t many).1 (sU st t many).2.2 (cutV (sU st t many).2.1 (sU st t many).2.2):=by
 have h1:du 100000 st:=h.mono af;have h9:du 90000 st:=h.mono af;have hrt:=ht.rt;obtain⟨_,hw,LF⟩:=qW (st:=st) ht;have oS:sU st t many=if many=t.many then(st,t,true) else
   match gT st t (wide st t) many with
   |(eI,none)=>(eI,t,false)
   |(eI,some t2)=>(dB ((wide st t).drop many.toNat) eI,t2,true):=rfl
 by_cases hB:many=t.many
 .have hBd:=dO hB;rw[oS,if_pos hB];refine aO f184 ?_;dsimp only[eM];(refine' cO)
  (refine' dV)
  .rfl
  .intro hc;cases hc
 .have hBd:=iO hB;rw[if_neg hB] at oS;have bP:=vw (t:=t) (lv:=wide st t) (many:=many) h hrt hw LF xz;rcases oT:gT st t (wide st t) many with⟨eI,o⟩
  have hlc:∀(v':SA) s a c,bM s a (wide st t).length 5 (ah (wide st t))->(∀b∈ai a,b∉(eM v' st).flatMap It.aS)->E0 s a (wide st t).length c 60 5->eP aU aW 173 [fF v' st,tv t,.slice a (wide st t).length c,iv many] s (ai a) v' st eI o.isSome (Xm o):=λv' s a c hr hm hv=>by
   have:=yV s v' st h9 t hrt a c (wide st t) hw many xz hr hm hv;rw[oT] at this;exact this
  rw[oT] at oS bP;cases o with
  |none=>
   simp only at oS;rw[oS];have L7:=bP.2.1 rfl;refine aO f184 ?_;dsimp only[eM];(repeat' (first|refine' aX|refine' CV|refine' C0|refine' ar|fail))
   (refine' dV)
   .rw[show fF C1 eI=fF C1 st from L7.fF _];rw[uC rfl];rfl
   .exact λ_=>uC rfl
  |some t2=>
   simp only at oS bP;rw[oS];refine aO f184 ?_;dsimp only[eM];(repeat' (first|refine' aX|refine' CV|refine' C0|refine' ar|fail))
   generalize wide st t=w at *
   have hw16:w.length=16:=hw;have hmw:many.toNat<=w.length:=by omega
   refine W.bH (λk l L=>∃(i:Nat)(y:ak)(v':SA)(a1:aH)(c1 b6 b7 OC OD:Nat),Le [(6,aP b6),(7,aP b7),(9,.slice a1 w.length c1),(10,aP OC),(11,aP OD),(13,iv i)] l/\cr [.aJ (.slice a1 w.length c1) 60 5 (ah w),.box b6 [eW,eW,eW,cg,eW,cg,eW,.bool false] 58 false,.box b7 [cg,cg,cg,cg,cg,cg,cg] 62 false,.box OC (rz v' y) 58 false,.box OD (gU t2) 62 false,.aJ (.slice v'.r 64 v'.rc) 9 1 (ah y.ep),.aJ (.slice v'.f 64 v'.fc) 3 1 (ah y.aV),.aJ (.slice v'.l 64 v'.lc) 3 1 (ah y.dq),.aJ (.slice v'.g y.cG.length v'.gc) 60 5 (ah y.cG),.aJ (.slice v'.d y.eg.length v'.dc) 60 5 (ah y.eg)] L/\k=w.length-i/\i<=w.length/\du (80020+i) y/\dB (w.drop many.toNat) eI=dB (w.drop i) y)
    (λl L=>∃(y:ak)(v':SA)(b6 b7 OC OD:Nat),Le [(6,aP b6),(7,aP b7),(10,aP OC),(11,aP OD)] l/\cr [.box b6 [eW,eW,eW,cg,eW,cg,eW,.bool false] 58 false,.box b7 [cg,cg,cg,cg,cg,cg,cg] 62 false,.box OC (rz v' y) 58 false,.box OD (gU t2) 62 false,.aJ (.slice v'.r 64 v'.rc) 9 1 (ah y.ep),.aJ (.slice v'.f 64 v'.fc) 3 1 (ah y.aV),.aJ (.slice v'.l 64 v'.lc) 3 1 (ah y.dq),.aJ (.slice v'.g y.cG.length v'.gc) 60 5 (ah y.cG),.aJ (.slice v'.d y.eg.length v'.dc) 60 5 (ah y.eg)] L/\dB (w.drop many.toNat) eI=y) (w.length-many.toNat) ⟨many.toNat,eI,C1,_,_,_,_,_,_,(by rw[xG xz.1];exact bd),aq,rfl,hmw,bP.1.mono af,rfl⟩ ?_ ?_
   .rintro k l L ⟨i,y,v',a1,c1,b6,b7,OC,OD,hl,hL,rfl,hi,hy,hf⟩;refine W.le ?_ hl hL;clear hl hL;have hy1:du 100000 y:=hy.mono af;by_cases tG:i<w.length
    .have Jt:bw (w.getD i c9.lW)=true:=LF _ (aF tG _);rw[drop_cons tG] at hf;(repeat' (first|refine' aX|refine' KS|refine' ar|fail))
     all_goals try exact pb
     refine⟨_,?_,i+1,_,_,_,_,_,_,_,_,bd,aq,rfl,af,hy.free Jt,hf⟩;omega
    .have fG:i=w.length:=by omega
     subst fG;rw[ig] at hf;(refine' cO)
     all_goals try exact pb
     exact⟨y,v',_,_,_,_,bd,aq,hf⟩
   .rintro l L ⟨y,v',b6,b7,OC,OD,hl,hL,hf⟩;refine aj ?_;refine W.le ?_ hl hL;clear hl hL;rw[hf];(refine' cO)
    (refine' dV)
    .rfl
    .intro hc;cases hc
end Go.Pl
namespace Go.Pl
open Go Go.Ev Go.Lg Go.Proofs
variable {n:Nat}
theorem dZ.no:dZ eX:=⟨by decide,by decide,by decide⟩
theorem mV {st:ak}{t:bX}{k:Nat}{z:ay}(h:du n st)(ht:dZ t)(hk:k<16)(hz:z.length<=3000):du (n+30) (nj st t k z).1/\dZ (nj st t k z).2.1/\((nj st t k z).2.2=false->Kp st (nj st t k z).1):=by
 obtain⟨_,hw,LF⟩:=qW (st:=st) ht;have xz:=ht.mn;have Jt:bw ((wide st t).getD k bq)=true:=LF _ (aF af _);have dK:nj st t k z=if bh st ((wide st t).getD k bq)=z/\max t.many ((k:Int)+1)=t.many then(st,t,true) else
   match(if bh st ((wide st t).getD k bq)=z then some (st,(wide st t).getD k bq) else Io st z) with
   |none=>(st,t,false)
   |some (st1,p)=>match gT st1 t ((wide st t).set k p) (max t.many ((k:Int)+1)) with
    |(eI,none)=>(eI,eX,false)
    |(eI,some t2)=>(if p=(wide st t).getD k bq then eI else free eI ((wide st t).getD k bq),t2,true):=rfl
 rw[dK];split
 .exact⟨h.mono af,ht,λhc=>(by cases hc)⟩
 .have o7:∀r,(if bh st ((wide st t).getD k bq)=z then some (st,(wide st t).getD k bq) else Io st z)=some r->du (n+1) r.1/\Kp st r.1/\bw r.2=true:=by
   intro r hr;split at hr
   .cases hr;exact⟨h.mono af,Kp.refl _,Jt⟩
   .unfold Io at hr;split at hr
    .cases hr;exact⟨h.mono af,Kp.refl _,(by decide:bw bq=true)⟩
    .obtain⟨st1,p⟩:=r;have:=h.aZ hz hr;exact⟨this.1,L5 hr,this.2.1⟩
  generalize(if bh st ((wide st t).getD k bq)=z then some (st,(wide st t).getD k bq) else Io st z)=o at o7⊢;cases o with
  |none=>exact⟨h.mono af,ht,λ_=>Kp.refl _⟩
  |some r=>
   obtain⟨st1,p⟩:=r;obtain⟨h1,h2,h3⟩:=o7 _ rfl;simp only;have bP:=vw (t:=t) (lv:=(wide st t).set k p) (many:=max t.many ((k:Int)+1)) h1 ht.rt (by rw[gZ];exact hw) (λq hq=>by
    rcases oD hq with hq|rfl
    .exact LF q hq
    .exact h3) af
   rcases hl:gT st1 t ((wide st t).set k p) (max t.many ((k:Int)+1)) with⟨eI,_|t2⟩
   .rw[hl] at bP;exact⟨bP.1.mono af,dZ.no,λ_=>h2.trans (bP.2.1 rfl)⟩
   .rw[hl] at bP;simp only at bP⊢;refine⟨?_,(bP.2.2 _ rfl).1,λhc=>(by cases hc)⟩;split
    .exact bP.1.mono af
    .exact(bP.1.free Jt).mono af
theorem yW {st:ak}{t:bX}{many:Int}(h:du n st)(ht:dZ t)(hm:0<=many/\many<=16):du (n+40) (sU st t many).1/\dZ (sU st t many).2.1/\((sU st t many).2.2=false->Kp st (sU st t many).1):=by
 obtain⟨_,hw,LF⟩:=qW (st:=st) ht;have oS:sU st t many=if many=t.many then(st,t,true) else
   match gT st t (wide st t) many with
   |(eI,none)=>(eI,t,false)
   |(eI,some t2)=>(dB ((wide st t).drop many.toNat) eI,t2,true):=rfl
 rw[oS];split
 .exact⟨h.mono af,ht,λhc=>(by cases hc)⟩
 .have bP:=vw (t:=t) (lv:=wide st t) (many:=many) h ht.rt hw LF hm;rcases hl:gT st t (wide st t) many with⟨eI,_|t2⟩
  .rw[hl] at bP;exact⟨bP.1.mono af,ht,λ_=>bP.2.1 rfl⟩
  .rw[hl] at bP;simp only at bP⊢;have h4:=du.dB (st:=eI) ((wide st t).drop many.toNat) bP.1 (λp hp=>LF p (List.mem_of_mem_drop hp));exact⟨h4.mono (by rw[gp];omega),(bP.2.2 _ rfl).1,λhc=>(by cases hc)⟩
theorem xe:∀(f:Nat)(z:ay),(∀s∈dv f z,s.length<=128)
 |0,z=>by simp[dv]
 |f+1,z=>by
  rw[dv];split
  .intro s hs;rcases bV.1 hs with rfl|hs
   .rw[dg];omega
   .exact xe f _ s hs
  .split
   .simp
   .intro s hs;have:s=z:=by simpa using hs
    subst this;omega
theorem xf (n:Nde):(gf n).length<=128:=by
 cases h:ew n with
 |true=>exact(Pg.qT h).2
 |false=>unfold gf;rw[h];simp
theorem vh (s:St)(v:SA)(st:ak)(h:du 80000 st)(t:bX)(ht:dZ t)(k:Nat)(hk:k<16)(n:Nde):
  eP aU aW 91 [fF v st,tv t,iv k,nv n] s [] v st (pc st t k n).1 (pc st t k n).2.2 (Bp (pc st t k n).2.1 (pc st t k n).2.2):=by
 have hl:=xf n;unfold pc;refine aO f91 ?_;dsimp only[eM];(repeat' (first|refine' aX|refine' zc57|((with_reducible apply WO.mQ);exact aD;(first|exact λs=>sh s _ _ (by assumption) _ (by assumption) _ af _ af|exact λs=>sh s _ _ (by assumption) ⟨⟨_,_,_,_,_⟩,_,_⟩ (by assumption) _ af _ af);exact eu;intro _ _ v_l8Put _ _ k_l8Put)|refine' ar|fail))
 (refine' dV)
 .rfl
 .exact k_l8Put
theorem Xp (s:St)(v:SA)(st:ak)(h:du 70000 st)(t:bX)(ht:dZ t)(z:ay)(hz:z.length<=50000):
  eP aU aW 179 [fF v st,tv t,sv z] s [] v st (km st t z).1 true (Bp (km st t z).2.1 (km st t z).2.2):=by
 have ri:=xe (z.length+1) z;have S1:km st t z=if 16<(dv (z.length+1) z).length then(st,t,false) else match kZ (dv (z.length+1) z) 0 st t with
  |(st,t,false)=>(st,t,false)
  |(st,t,true)=>sU st t (dv (z.length+1) z).length:=rfl
 generalize hw:dv (z.length+1) z=w at *
 refine aO f179 ?_;dsimp only[eM];by_cases BD:16<w.length
 .rw[if_pos BD] at S1;rw[S1];have hR:∀s,fa aU aW 225 [sv z] s [] 9 w:=λs=>by have:=AW s z af;rwa [hw] at this
  (refine' zb124)
  all_goals try exact pb
  (refine' dV)
  .rfl
  .intro hc;cases hc
 .rw[if_neg BD] at S1;have hR:∀s,fa aU aW 225 [sv z] s [] 9 w:=λs=>by have:=AW s z af;rwa [hw] at this
  (refine' zb124)
  all_goals try exact pb
  refine W.bH (λk l L=>∃(i:Nat)(y:ak)(u:bX)(v':SA)(a1:aH)(c1 b3 b4 b6 b7:Nat),Le [(3,aP b3),(4,aP b4),(6,aP b6),(7,aP b7),(9,.slice a1 w.length c1),(10,iv i)] l/\cr [.aJ (.slice a1 w.length c1) 9 1 (ah w),.box b3 (rz v' y) 58 false,.box b4 (gU u) 62 false,.box b6 [eW,eW,eW,cg,eW,cg,eW,.bool false] 58 false,.box b7 [cg,cg,cg,cg,cg,cg,cg] 62 false,.aJ (.slice v'.r 64 v'.rc) 9 1 (ah y.ep),.aJ (.slice v'.f 64 v'.fc) 3 1 (ah y.aV),.aJ (.slice v'.l 64 v'.lc) 3 1 (ah y.dq),.aJ (.slice v'.g y.cG.length v'.gc) 60 5 (ah y.cG),.aJ (.slice v'.d y.eg.length v'.dc) 60 5 (ah y.eg)] L/\k=w.length-i/\i<=w.length/\du (70000+30*i) y/\dZ u/\kZ w 0 st t=kZ (w.drop i) i y u)
   (λl L=>∃(y:ak)(u:bX)(v':SA)(a1:aH)(c1 b3 b4 b6 b7:Nat),Le [(3,aP b3),(4,aP b4),(6,aP b6),(7,aP b7),(9,.slice a1 w.length c1)] l/\cr [.aJ (.slice a1 w.length c1) 9 1 (ah w),.box b3 (rz v' y) 58 false,.box b4 (gU u) 62 false,.box b6 [eW,eW,eW,cg,eW,cg,eW,.bool false] 58 false,.box b7 [cg,cg,cg,cg,cg,cg,cg] 62 false,.aJ (.slice v'.r 64 v'.rc) 9 1 (ah y.ep),.aJ (.slice v'.f 64 v'.fc) 3 1 (ah y.aV),.aJ (.slice v'.l 64 v'.lc) 3 1 (ah y.dq),.aJ (.slice v'.g y.cG.length v'.gc) 60 5 (ah y.cG),.aJ (.slice v'.d y.eg.length v'.dc) 60 5 (ah y.eg)] L/\du 80000 y/\dZ u/\kZ w 0 st t=(y,u,true)) w.length ⟨0,st,t,v,_,_,_,_,_,_,bd,aq,af,af,h,ht,rfl⟩ ?_ ?_
  .rintro k l L ⟨i,y,u,v',a1,c1,b3,b4,b6,b7,hl,hL,rfl,hi,hy,hu,hp⟩;refine W.le ?_ hl hL;clear hl hL;have hy8:du 80000 y:=hy.mono af;by_cases tG:i<w.length
   .have Qs:=ri _ (aF tG c9.lW);have bP:=mV (k:=i) (z:=w.getD i c9.lW) hy hu af af;rw[drop_cons tG,kZ] at hp;rcases tV:nj y u i (w.getD i c9.lW) with⟨y2,u2,ok⟩
    have Sk:∀(dI:SA) s,eP aU aW 132 [fF dI y,tv u,iv i,sv (w.getD i c9.lW)] s [] dI y y2 ok (Bp u2 ok):=λdI s=>by
     have:=sh s dI y hy8 u hu i af (w.getD i c9.lW) af;rw[tV] at this;exact this
    rw[tV] at hp bP;cases ok with
    |true=>
     simp only at hp bP;(repeat' (first|refine' aX|refine' C3|refine' ar|fail))
     all_goals try exact pb
     refine⟨_,?_,i+1,y2,u2,_,_,_,_,_,_,_,bd,aq,rfl,af,bP.1.mono af,bP.2.1,hp⟩;omega
    |false=>
     simp only at hp bP;have L7:=bP.2.2 trivial;rw[hp] at S1;simp only at S1;rw[S1];(repeat' (first|refine' aX|refine' C3|refine' ar|fail))
     all_goals try exact pb
     (refine' dV)
     .rw[show fF yz y2=fF yz y from L7.fF _];rw[KT rfl];rfl
     .intro hc;cases hc
   .have fG:i=w.length:=by omega
    subst fG;rw[ig] at hp;(refine' cO)
    all_goals try exact pb
    exact⟨y,u,v',_,_,_,_,_,_,bd,aq,hy8,hu,hp⟩
  .rintro l L ⟨y,u,v',a1,c1,b3,b4,b6,b7,hl,hL,hy,hu,hp⟩;refine aj ?_;refine W.le ?_ hl hL;clear hl hL;rw[hp] at S1;simp only at S1;rw[S1];(repeat' (first|refine' aX|refine' zc128|refine' ar|fail))
   (refine' dV)
   .rfl
   .intro hc;cases hc
end Go.Pl
namespace Go.Pl
open Go Go.Ev Go.Lg Go.Proofs
theorem Ae (AE:Int):∀(l:List ay)(k m:Nat),m<=k->lV AE k m l<=k+l.length
 |[],k,m,h=>by simpa[lV] using h
 |s::l,k,m,h=>by
  rw[lV,dh];split
  .exact ku (Ae AE l (k+1) _ af) af
  .exact ku (Ae AE l (k+1) _ af) af
theorem L8 {st:ak}{t:bX}{n:Nat}(h:du n st)(hn:n<=100000)(ht:dZ t)(AE:Int):qO st t AE<=16:=by
 have:=Ae AE (hU st t) 0 0 (cy _);have h2:=(kR (h.mono hn) ht).1;have h3:=ht.mn;unfold qO;omega
theorem OE (s:St)(v:SA)(st:ak)(h:du 50000 st)(t:bX)(ht:dZ t)(q:Nat)(hq:q<16)(o:cV)(ho:pP 200 st [((iY st t q).getD bu).aN.cC] []=some o)(J7:o.length<=1000)(mg:∀p∈o,bw p=true):
  eP aU aW 147 [fF v st,tv t,iv q] s [] v st (dX st t q).1 true (Bp (dX st t q).2.1 (dX st t q).2.2):=by
 have h1:du 100000 st:=h.mono af;have hg:∀s,cJ s v st->bO 181 [fF v st,tv t,iv q] s (im v) (uQ (iY st t q)):=λs hr=>zV s v st h1 t ht q af hr
 have hla:∀s,cJ s v st->bO 182 [fF v st,tv t,iv q] s (im v) (iv (qO st t q)):=λs hr=>Oy s v st h1 t ht q hr
 have hD:=L8 h af ht q;have He:dX st t q=match nj (dB o st) t q [] with
   |(st,t,false)=>(st,t,false)
   |(eI,t2,true)=>sU eI t2 (qO st t q):=by
  have Jr:wJ st ((iY st t q).getD bu).aN=o:=by unfold wJ;rw[ho];rfl
  unfold dX;simp only[Jr,tX];rfl
 have OF:∀s,cJ s v st->fa aU aW 183 [fF v st,tv ((iY st t q).getD bu).aN] s (im v) 60 o:=λs hr=>Xg s v st h1 ((iY st t q).getD bu).aN o ho hr
 generalize hDv:qO st t q=D at *
 refine aO f147 ?_;dsimp only[eM];(repeat' (first|refine' aX|((with_reducible apply WO.lY);exact aD;(first|exact λs hr=>hg s hr);exact ez;intro _ _ _ _)|((with_reducible apply WO.lY);exact aD;(first|exact λs hr=>hla s hr);exact ez;intro _ _ _ _)|((with_reducible apply WO.zT);exact aD;(first|exact λs hr=>OF s hr);exact ez;intro _ _ a_l8AllW c_l8AllW _ _)|refine' ar|fail))
 all_goals try refine cI
 refine W.bH (λk l L=>∃(i:Nat)(y:ak)(v':SA)(a1:aH)(c1 b3 b4 b6 b7:Nat),Le [(2,iv q),(11,iv D),(3,aP b3),(4,aP b4),(6,aP b6),(7,aP b7),(12,.slice a1 o.length c1),(13,iv i)] l/\cr [.aJ (.slice a1 o.length c1) 60 5 (ah o),.box b3 (rz v' y) 58 false,.box b4 (gU t) 62 false,.box b6 [eW,eW,eW,cg,eW,cg,eW,.bool false] 58 false,.box b7 [cg,cg,cg,cg,cg,cg,cg] 62 false,.aJ (.slice v'.r 64 v'.rc) 9 1 (ah y.ep),.aJ (.slice v'.f 64 v'.fc) 3 1 (ah y.aV),.aJ (.slice v'.l 64 v'.lc) 3 1 (ah y.dq),.aJ (.slice v'.g y.cG.length v'.gc) 60 5 (ah y.cG),.aJ (.slice v'.d y.eg.length v'.dc) 60 5 (ah y.eg)] L/\k=o.length-i/\i<=o.length/\du (50000+i) y/\dB o st=dB (o.drop i) y)
  (λl L=>∃(y:ak)(v':SA)(b3 b4 b6 b7:Nat),Le [(2,iv q),(11,iv D),(3,aP b3),(4,aP b4),(6,aP b6),(7,aP b7)] l/\cr [.box b3 (rz v' y) 58 false,.box b4 (gU t) 62 false,.box b6 [eW,eW,eW,cg,eW,cg,eW,.bool false] 58 false,.box b7 [cg,cg,cg,cg,cg,cg,cg] 62 false,.aJ (.slice v'.r 64 v'.rc) 9 1 (ah y.ep),.aJ (.slice v'.f 64 v'.fc) 3 1 (ah y.aV),.aJ (.slice v'.l 64 v'.lc) 3 1 (ah y.dq),.aJ (.slice v'.g y.cG.length v'.gc) 60 5 (ah y.cG),.aJ (.slice v'.d y.eg.length v'.dc) 60 5 (ah y.eg)] L/\du 51000 y/\dB o st=y) o.length ⟨0,st,v,_,_,_,_,_,_,bd,aq,af,af,by simpa using h,rfl⟩ ?_ ?_
 .rintro k l L ⟨i,y,v',a1,c1,b3,b4,b6,b7,hl,hL,rfl,hi,hy,hf⟩;refine W.le ?_ hl hL;clear hl hL;have hy1:du 100000 y:=hy.mono af;by_cases tG:i<o.length
  .have Jt:=mg _ (aF tG c9.lW);rw[drop_cons tG] at hf;(repeat' (first|refine' aX|refine' KS|refine' ar|fail))
   all_goals try exact pb
   refine⟨_,?_,i+1,_,V4,_,_,_,_,_,_,bd,aq,rfl,af,(hy.free Jt).mono af,hf⟩;omega
  .have fG:i=o.length:=by omega
   subst fG;rw[ig] at hf;(refine' cO)
   all_goals try exact pb
   exact⟨y,v',_,_,_,_,bd,aq,hy.mono af,hf⟩
 .rintro l L ⟨y,v',b3,b4,b6,b7,hl,hL,hy,hf⟩;refine aj ?_;refine W.le ?_ hl hL;clear hl hL;rw[hf] at He;have hy8:du 80000 y:=hy.mono af;rcases tV:nj y t q [] with⟨y2,t2,ok⟩
  have bP:=mV (k:=q) (z:=[]) hy ht hq (by simp);rw[tV] at bP He;have Sk:∀(dI:SA) s,eP aU aW 132 [fF dI y,tv t,iv q,sv []] s [] dI y y2 ok (Bp t2 ok):=λdI s=>by
   have:=sh s dI y hy8 t ht q hq [] (by simp);rw[tV] at this;exact this
  cases ok with
  |false=>
   simp only at He;rw[He];(repeat' (first|refine' aX|refine' C3|refine' ar|fail))
   all_goals try refine cI
   (refine' dV)
   .rfl
   .intro hc;cases hc
  |true=>
   simp only at He;have hy3:du 80000 y2:=bP.1.mono af;have ht2:=bP.2.1;rw[He];(repeat' (first|refine' aX|refine' C3|refine' zc128|refine' ar|fail))
   all_goals try refine cI
   (refine' dV)
   .rfl
   .intro hc;cases hc
theorem Hf (st:ak)(n:Nde):kJ st n=(ew n&&decide (n.kind=1)&&fg st n.aN&&kJ.go n 0 (hU st n.aN)):=rfl
theorem L9 (s:St)(v:SA)(st:ak)(h:du 100000 st)(n:Nde)(hr:cJ s v st):bO 102 [fF v st,nv n] s (im v) (.bool (kJ st n)):=by
 have tk:=Rd.DE hr;have tO:=Rd.off hr;have tT:=Rd.BO hr;cases hA:(ew n&&decide (n.kind=1)&&fg st n.aN) with
 |false=>
  rw[Hf,hA,JK];refine aO f102 ?_;(repeat' (first|refine' aX|refine' NR|refine' NU|refine' ar|fail))
  all_goals first|(exfalso;simp_all;done)|((refine' av);rfl)
 |true=>
  rw[Hf,hA,xE];obtain⟨⟨xZ,hki⟩,fZ⟩:(ew n=true/\n.kind=1)/\fg st n.aN=true:=by simpa using hA
  have hn:jW n:=jW.of xZ;have ht:=hn.tr;have iI:=hn.sz;obtain⟨hl,dA⟩:=kR h ht;have hm:=ht.mn;have PJ:(!ew n)=false:=by rw[xZ];rfl
  have F0:(!decide (n.kind=1))=false:=by simp[hki]
  have hn3:(!fg st n.aN)=false:=by rw[fZ];rfl
  refine aO f102 ?_;(repeat' (first|refine' aX|refine' NR|refine' NU|refine' zc58|refine' ar|fail))
  all_goals first|(exfalso;simp_all;done)|skip
  generalize hU st n.aN=w at *
  refine W.bH (λk l L=>∃(i bs bt:Nat),Le [(2,aP bs),(3,aP bt),(5,.slice gA w.length gB),(6,iv i)] l/\cr [.aJ (.slice gA w.length gB) 9 1 (ah w),.box bs (rz v st) 58 false,.box bt (wS n) 109 false] L/\k=w.length-i/\i<=w.length/\kJ.go n 0 w=kJ.go n i (w.drop i))
   (λl L=>kJ.go n 0 w=true) w.length ⟨0,_,_,bd,aq,af,af,rfl⟩ ?_ ?_
  .rintro k l L ⟨i,bs,bt,ju,hL,rfl,h1,h2⟩;refine W.le ?_ ju hL;clear ju hL;by_cases hi:i<w.length
   .have Qs:=dA _ (aF hi c9.lW);rw[drop_cons hi,kJ.go] at h2;have hlo:gi n.size i<=12/\ -10000<=gi n.size i:=by unfold gi;omega
    (repeat' (first|refine' aX|refine' zc86|((with_reducible apply WO.bG);exact aD;(first|exact λs=>GD s _ af);intro _ _ _ _)|refine' ar|fail))
    all_goals try exact pb
    .have hw:kJ.go n 0 w=false:=by rw[h2,iO jU];simp
     rw[hw];(refine' av);rfl
    .refine⟨_,?_,i+1,_,_,bd,aq,rfl,af,by rw[h2,dO jU,dO tR];rfl⟩;omega
    .have hw:kJ.go n 0 w=false:=by rw[h2,iO af];rfl
     rw[hw];(refine' av);rfl
   .have fG:i=w.length:=by omega
    subst fG;rw[ig,kJ.go] at h2;(refine' cO)
    all_goals first|(exfalso;omega;done)|exact h2
  .rintro l L h1;refine aj ?_;refine W.le ?_ (Le.nil _) (cr.nil _);rw[h1];(refine' cO)
   (refine' av);rfl
theorem Fh (l:List ay)(h:l≠[]):l.getLastD []=l.getD (l.length-1) c9.lW:=by
 have hl:0<l.length:=oX.2 h;rw[aY,List.getLastD_eq_getLast?,List.getLast?_eq_getElem?,bk af];rfl
end Go.Pl
