/- Lemmas of the proof. No conditions. -/
import Derived.Test.YtajgfdfbnhchcaaGreatDoorBd2
set_option maxRecDepth 100000
set_option maxHeartbeats 4000000
set_option linter.unusedVariables false
set_option linter.unusedSimpArgs false
open Go.Proofs.Tryz
namespace Go.Pl
open Go Go.Ev Go.Lg Go.Proofs
variable {i:Nat}{z:az}{E:ig}{X:fR}{Γ:qV}{L R:bZ}{K:KO}{xs:List Operand}{ts:Array TypeId}{vs:a6}{A:List Nat}{st:au}{L':bZ}{x y:Operand}{n c e:Nat}{p:List a7}{w:fg}{m:Int}{b:Bool}{q:dg}{v:SA}{Lm:bZ}{level:Int}{da:au}
theorem sR (s:St)(v:SA)(st:au)(h:dA 80000 st)(t:cB)(ht:ek t)(k:Nat)(hk:k<16)(z:az)(hz:z.length<=3000):
  eV bh bw 151 [fK v st,tv t,iv k,sv z] s [] v st (nH st t k z).1 (nH st t k z).2.2 (Co (nH st t k z).2.1 (nH st t k z).2.2):=by
 have h1:dA 100000 st:=h.mono ag;have h9:dA 90000 st:=h.mono ag;have hrt:=ht.rt;obtain⟨_,hw,MQ⟩:=rI (st:=st) ht;have yx:=ht.mn;have yA:bC ((wide st t).getD k ak.ah)=true:=MQ _ (aK ag _);have dM:nH st t k z=if bq st ((wide st t).getD k ak.ah)=z/\(max t.many ((k:Int)+1))=t.many then(st,t,true) else
   match(if bq st ((wide st t).getD k ak.ah)=z then some (st,((wide st t).getD k ak.ah)) else Jv st z) with
   |none=>(st,t,false)
   |some (st1,p)=>match ij st1 t ((wide st t).set k p) (max t.many ((k:Int)+1)) with
    |(eN,none)=>(eN,fh,false)
    |(eN,some t2)=>(if p=((wide st t).getD k ak.ah) then eN else free eN ((wide st t).getD k ak.ah),t2,true):=rfl
 by_cases hA:bq st ((wide st t).getD k ak.ah)=z
 .have hAd:decide ((j4 st ((wide st t).getD k ak.ah)).getD []=z)=true:=bY hA;have hAn:(!decide ((j4 st ((wide st t).getD k ak.ah)).getD []=z))=false:=by rw[hAd];rfl
  by_cases hB:(max t.many ((k:Int)+1))=t.many
  .have hBd:=bY hB;rw[dM,if_pos ⟨hA,hB⟩];refine aT f151 ?_;dsimp only[eQ];repeat' (first|refine' aW|refine' DX|refine' AP|refine' av|fail)
   refine' dX
   .rfl
   .intro hc;cases hc
  .have hBd:=eI hB;rw[if_neg (λhx=>hB hx.2),if_pos hA] at dM;simp only at dM;have Tu:=yA;have hpd:(!decide (((wide st t).getD k ak.ah)=((wide st t).getD k ak.ah)))=false:=by simp
   have YU:∀q∈((wide st t).set k ((wide st t).getD k ak.ah)),bC q=true:=λq hq=>by
    rcases o9 hq with hq|rfl
    .exact MQ q hq
    .exact Tu
   (have No:((wide st t).set k ((wide st t).getD k ak.ah)).length=16:=by rw[gN];exact hw);have bV:=wq (t:=t) (lv:=((wide st t).set k ((wide st t).getD k ak.ah))) (many:=(max t.many ((k:Int)+1))) h9 hrt No YU ag;rcases pz:ij st t ((wide st t).set k ((wide st t).getD k ak.ah)) (max t.many ((k:Int)+1)) with⟨eN,o⟩
   have hlc:∀(v':SA) s a c,bH s a (wide st t).length 5 (ai ((wide st t).set k ((wide st t).getD k ak.ah)))->(∀b∈aj a,b∉(eQ v' st).flatMap It.a8)->w9 s a (wide st t).length c 83 5->eV bh bw 192 [fK v' st,tv t,.slice a (wide st t).length c,iv (max t.many ((k:Int)+1))] s (aj a) v' st eN o.isSome (YS o):=λv' s a c hr hm hv=>by
    have:=zR s v' st h9 t hrt a c ((wide st t).set k ((wide st t).getD k ak.ah)) No (max t.many ((k:Int)+1)) ag (by rw[gN];exact hr) hm (by rw[gN];exact hv);rw[pz,gN] at this;exact this
   rw[pz] at dM bV;cases o with
   |none=>
    simp only at dM;rw[dM];refine aT f151 ?_;dsimp only[eQ];refine' X4;refine' dX
    .rfl
    .exact λ_=>vl rfl
   |some t2=>
    simp only at dM bV;rw[if_pos trivial] at dM;rw[dM];refine aT f151 ?_;dsimp only[eQ];refine' X4;refine' dX
    .rfl
    .intro hc;cases hc
 .have hAd:decide ((j4 st ((wide st t).getD k ak.ah)).getD []=z)=false:=eI hA;have hAn:(!decide ((j4 st ((wide st t).getD k ak.ah)).getD []=z))=true:=by rw[hAd];rfl
  rw[if_neg (λhx=>hA hx.1),if_neg hA] at dM;by_cases vO:z=[]
  .subst vO;have hzd:(!decide (([]:az)=[]))=false:=by simp
   (have Tu:bC bA=true:=by decide);(have fY:¬bA=((wide st t).getD k ak.ah):=λhx=>hA (by rw[<-hx];rfl));have hpd:(!decide (bA=((wide st t).getD k ak.ah)))=true:=by rw[eI fY];rfl
   have dM:nH st t k []=match ij st t ((wide st t).set k bA) (max t.many ((k:Int)+1)) with
    |(eN,none)=>(eN,fh,false)
    |(eN,some t2)=>(if bA=((wide st t).getD k ak.ah) then eN else free eN ((wide st t).getD k ak.ah),t2,true):=dM
   have YU:∀q∈((wide st t).set k bA),bC q=true:=λq hq=>by
    rcases o9 hq with hq|rfl
    .exact MQ q hq
    .exact Tu
   (have No:((wide st t).set k bA).length=16:=by rw[gN];exact hw);have bV:=wq (t:=t) (lv:=((wide st t).set k bA)) (many:=(max t.many ((k:Int)+1))) h9 hrt No YU ag;rcases pz:ij st t ((wide st t).set k bA) (max t.many ((k:Int)+1)) with⟨eN,o⟩
   have hlc:∀(v':SA) s a c,bH s a (wide st t).length 5 (ai ((wide st t).set k bA))->(∀b∈aj a,b∉(eQ v' st).flatMap It.a8)->w9 s a (wide st t).length c 83 5->eV bh bw 192 [fK v' st,tv t,.slice a (wide st t).length c,iv (max t.many ((k:Int)+1))] s (aj a) v' st eN o.isSome (YS o):=λv' s a c hr hm hv=>by
    have:=zR s v' st h9 t hrt a c ((wide st t).set k bA) No (max t.many ((k:Int)+1)) ag (by rw[gN];exact hr) hm (by rw[gN];exact hv);rw[pz,gN] at this;exact this
   rw[pz] at dM bV;cases o with
   |none=>
    simp only at dM;rw[dM];refine aT f151 ?_;dsimp only[eQ];refine' X4;refine' dX
    .rfl
    .exact λ_=>vl rfl
   |some t2=>
    simp only at dM bV;rw[if_neg fY] at dM;have aft:dA 100000 eN:=bV.1.mono ag;rw[dM];refine aT f151 ?_;dsimp only[eQ];(repeat' (first|refine' aW|refine' DX|refine' AP|refine' D5|refine' L8|refine' av|fail));refine' dX
    .rfl
    .intro hc;cases hc
  .have hzd:(!decide (z=([]:az)))=true:=by simp[vO]
   have hpP:Jv st z=bk st z 0:=by unfold Jv;rw[if_neg vO]
   rw[hpP] at dM;cases nY:bk st z 0 with
   |none=>
    have hwc:∀s,eV bh bw 191 [fK v st,sv z,iv 0] s [] v st st false (wrV bA false):=λs=>by
     have:=xV s v st h1 z hz 0;rw[show wr st z 0=(st,bA,false) by unfold wr;rw[nY]] at this;exact this
    rw[nY] at dM;simp only at dM;rw[dM];refine aT f151 ?_;dsimp only[eQ];(repeat' (first|refine' aW|refine' DX|refine' AP|refine' Rv|refine' av|fail));obtain rfl:=D7 rfl;refine' dX
    .rfl
    .exact λ_=>rfl
   |some r=>
    obtain⟨st1,p⟩:=r;have hwc:∀s,eV bh bw 191 [fK v st,sv z,iv 0] s [] v st st1 false (wrV p true):=λs=>by
     have:=xV s v st h1 z hz 0;rw[show wr st z 0=(st1,p,true) by unfold wr;rw[nY]] at this;exact this
    obtain⟨tz,Tu,_⟩:=h.bk hz nY;have hs9:dA 90000 st1:=tz.mono ag;rw[nY] at dM;simp only at dM;have YU:∀q∈((wide st t).set k p),bC q=true:=λq hq=>by
     rcases o9 hq with hq|rfl
     .exact MQ q hq
     .exact Tu
    (have No:((wide st t).set k p).length=16:=by rw[gN];exact hw);have bV:=wq (t:=t) (lv:=((wide st t).set k p)) (many:=(max t.many ((k:Int)+1))) hs9 hrt No YU ag;rcases pz:ij st1 t ((wide st t).set k p) (max t.many ((k:Int)+1)) with⟨eN,o⟩
    have hlc:∀(v':SA) s a c,bH s a (wide st t).length 5 (ai ((wide st t).set k p))->(∀b∈aj a,b∉(eQ v' st1).flatMap It.a8)->w9 s a (wide st t).length c 83 5->eV bh bw 192 [fK v' st1,tv t,.slice a (wide st t).length c,iv (max t.many ((k:Int)+1))] s (aj a) v' st1 eN o.isSome (YS o):=λv' s a c hr hm hv=>by
     have:=zR s v' st1 hs9 t hrt a c ((wide st t).set k p) No (max t.many ((k:Int)+1)) ag (by rw[gN];exact hr) hm (by rw[gN];exact hv);rw[pz,gN] at this;exact this
    rw[pz] at dM bV;cases o with
    |none=>
     simp only at dM;rw[dM];refine aT f151 ?_;dsimp only[eQ];(repeat' (first|refine' aW|refine' DX|refine' AP|refine' Rv|refine' D5|refine' av|fail));refine' dX
     .rfl
     .exact λ_=>(vl rfl).trans (D7 rfl)
    |some t2=>
     simp only at dM bV;by_cases hpe:p=((wide st t).getD k ak.ah)
     .have hpd:(!decide (p=((wide st t).getD k ak.ah)))=false:=by rw[bY hpe];rfl
      rw[if_pos hpe] at dM;rw[dM];refine aT f151 ?_;dsimp only[eQ];(repeat' (first|refine' aW|refine' DX|refine' AP|refine' Rv|refine' D5|refine' av|fail));refine' dX
      .rfl
      .intro hc;cases hc
     .have hpd:(!decide (p=((wide st t).getD k ak.ah)))=true:=by rw[eI hpe];rfl
      rw[if_neg hpe] at dM;have aft:dA 100000 eN:=bV.1.mono ag;rw[dM];refine aT f151 ?_;dsimp only[eQ];(repeat' (first|refine' aW|refine' DX|refine' AP|refine' Rv|refine' D5|refine' L8|refine' av|fail));refine' dX
      .rfl
      .intro hc;cases hc
def al8 (t:cB)(ok:Bool):Value->Value:=λV=>.tuple ⟨[V,tv t,.bool ok]⟩
theorem D9 (s:St)(v:SA)(st:au)(h:dA 80000 st)(t:cB)(ht:ek t)(many:Int)(yx:0<=many/\many<=16):
  eV bh bw 203 [fK v st,tv t,iv many] s [] v st (tJ st t many).1 (tJ st t many).2.2 (al8 (tJ st t many).2.1 (tJ st t many).2.2):=by
 have h1:dA 100000 st:=h.mono ag;have h9:dA 90000 st:=h.mono ag;have hrt:=ht.rt;obtain⟨_,hw,MQ⟩:=rI (st:=st) ht;have ni:tJ st t many=if many=t.many then(st,t,true) else
   match ij st t (wide st t) many with
   |(eN,none)=>(eN,t,false)
   |(eN,some t2)=>(dI ((wide st t).drop many.toNat) eN,t2,true):=rfl
 by_cases hB:many=t.many
 .have hBd:=bY hB;rw[ni,if_pos hB];refine aT f203 ?_;dsimp only[eQ];refine' cR
  refine' dX
  .rfl
  .intro hc;cases hc
 .have hBd:=eI hB;rw[if_neg hB] at ni;have bV:=wq (t:=t) (lv:=wide st t) (many:=many) h hrt hw MQ yx;rcases pz:ij st t (wide st t) many with⟨eN,o⟩
  have hlc:∀(v':SA) s a c,bH s a (wide st t).length 5 (ai (wide st t))->(∀b∈aj a,b∉(eQ v' st).flatMap It.a8)->w9 s a (wide st t).length c 83 5->eV bh bw 192 [fK v' st,tv t,.slice a (wide st t).length c,iv many] s (aj a) v' st eN o.isSome (YS o):=λv' s a c hr hm hv=>by
   have:=zR s v' st h9 t hrt a c (wide st t) hw many yx hr hm hv;rw[pz] at this;exact this
  rw[pz] at ni bV;cases o with
  |none=>
   simp only at ni;rw[ni];have wN:=bV.2.1 rfl;refine aT f203 ?_;dsimp only[eQ];(repeat' (first|refine' aW|refine' DX|refine' D5|refine' av|fail));refine' dX
   .rw[show fK D6 eN=fK D6 st from wN.fK _];rw[vl rfl];rfl
   .exact λ_=>vl rfl
  |some t2=>
   simp only at ni bV;rw[ni];refine aT f203 ?_;dsimp only[eQ];repeat' (first|refine' aW|refine' DX|refine' D5|refine' av|fail)
   generalize wide st t=w at *
   have aog:w.length=16:=hw;have hmw:many.toNat<=w.length:=by omega
   refine W.bN (λk l L=>∃(i:Nat)(y:au)(v':SA)(a1:aM)(c1 b6 b7 P8 P9:Nat),Le [(6,bg b6),(7,bg b7),(9,.slice a1 w.length c1),(10,bg P8),(11,bg P9),(13,iv i)] l/\cC [.aQ (.slice a1 w.length c1) 83 5 (ai w),.box b6 [eT,eT,eT,cr,eT,cr,eT,.bool false] 81 false,.box b7 [cr,cr,cr,cr,cr,cr,cr] 85 false,.box P8 (se v' y) 81 false,.box P9 (im t2) 85 false,.aQ (.slice v'.r 64 v'.rc) 9 1 (ai y.ez),.aQ (.slice v'.f 64 v'.fc) 3 1 (ai y.bc),.aQ (.slice v'.l 64 v'.lc) 3 1 (ai y.dw),.aQ (.slice v'.g y.cP.length v'.gc) 83 5 (ai y.cP),.aQ (.slice v'.d y.eu.length v'.dc) 83 5 (ai y.eu)] L/\k=w.length-i/\i<=w.length/\dA (80020+i) y/\dI (w.drop many.toNat) eN=dI (w.drop i) y)
    (λl L=>∃(y:au)(v':SA)(b6 b7 P8 P9:Nat),Le [(6,bg b6),(7,bg b7),(10,bg P8),(11,bg P9)] l/\cC [.box b6 [eT,eT,eT,cr,eT,cr,eT,.bool false] 81 false,.box b7 [cr,cr,cr,cr,cr,cr,cr] 85 false,.box P8 (se v' y) 81 false,.box P9 (im t2) 85 false,.aQ (.slice v'.r 64 v'.rc) 9 1 (ai y.ez),.aQ (.slice v'.f 64 v'.fc) 3 1 (ai y.bc),.aQ (.slice v'.l 64 v'.lc) 3 1 (ai y.dw),.aQ (.slice v'.g y.cP.length v'.gc) 83 5 (ai y.cP),.aQ (.slice v'.d y.eu.length v'.dc) 83 5 (ai y.eu)] L/\dI (w.drop many.toNat) eN=y) (w.length-many.toNat) ⟨many.toNat,eN,D6,_,_,_,_,_,_,(by rw[yF yx.1];exact bj),ar,rfl,hmw,bV.1.mono ag,rfl⟩ ?_ ?_
   .rintro k l L ⟨i,y,v',a1,c1,b6,b7,P8,P9,hl,hL,rfl,hi,hy,hf⟩;refine W.le ?_ hl hL;clear hl hL;have Vu:dA 100000 y:=hy.mono ag;by_cases tA:i<w.length
    .have yA:bC (w.getD i ak.ah)=true:=MQ _ (aK tA _);rw[drop_cons tA] at hf;repeat' (first|refine' aW|refine' L8|refine' av|fail)
     (all_goals try exact pJ);refine⟨_,?_,i+1,_,_,_,_,_,_,_,_,bj,ar,rfl,ag,hy.free yA,hf⟩;omega
    .have fF:i=w.length:=by omega
     subst fF;rw[iI] at hf;refine' cR;(all_goals try exact pJ);exact⟨y,v',_,_,_,_,bj,ar,hf⟩
   .rintro l L ⟨y,v',b6,b7,P8,P9,hl,hL,hf⟩;refine aq ?_;refine W.le ?_ hl hL;clear hl hL;rw[hf];refine' cR
    refine' dX
    .rfl
    .intro hc;cases hc
theorem ek.no:ek fh:=⟨bJ,bJ,bJ⟩
theorem nq {st:au}{t:cB}{k:Nat}{z:az}(h:dA n st)(ht:ek t)(hk:k<16)(hz:z.length<=3000):dA (n+30) (nH st t k z).1/\ek (nH st t k z).2.1/\((nH st t k z).2.2=false->Kp st (nH st t k z).1):=by
 obtain⟨_,hw,MQ⟩:=rI (st:=st) ht;have yx:=ht.mn;have yA:bC ((wide st t).getD k bA)=true:=MQ _ (aK ag _);have dM:nH st t k z=if bq st ((wide st t).getD k bA)=z/\max t.many ((k:Int)+1)=t.many then(st,t,true) else
   match(if bq st ((wide st t).getD k bA)=z then some (st,(wide st t).getD k bA) else Jv st z) with
   |none=>(st,t,false)
   |some (st1,p)=>match ij st1 t ((wide st t).set k p) (max t.many ((k:Int)+1)) with
    |(eN,none)=>(eN,fh,false)
    |(eN,some t2)=>(if p=(wide st t).getD k bA then eN else free eN ((wide st t).getD k bA),t2,true):=rfl
 rw[dM];split
 .exact⟨h.mono ag,ht,λhc=>(by cases hc)⟩
 .have pF:∀r,(if bq st ((wide st t).getD k bA)=z then some (st,(wide st t).getD k bA) else Jv st z)=some r->dA (n+1) r.1/\Kp st r.1/\bC r.2=true:=by
   intro r hr;split at hr
   .cases hr;exact⟨h.mono ag,Kp.refl _,yA⟩
   .unfold Jv at hr;split at hr
    .cases hr;exact⟨h.mono ag,Kp.refl _,(by decide:bC bA=true)⟩
    .obtain⟨st1,p⟩:=r;have:=h.bk hz hr;exact⟨this.1,Nn hr,this.2.1⟩
  generalize(if bq st ((wide st t).getD k bA)=z then some (st,(wide st t).getD k bA) else Jv st z)=o at pF⊢;cases o with
  |none=>exact⟨h.mono ag,ht,λ_=>Kp.refl _⟩
  |some r=>
   obtain⟨st1,p⟩:=r;obtain⟨h1,h2,h3⟩:=pF _ rfl;simp only;have bV:=wq (t:=t) (lv:=(wide st t).set k p) (many:=max t.many ((k:Int)+1)) h1 ht.rt (by rw[gN];exact hw) (λq hq=>by
    rcases o9 hq with hq|rfl
    .exact MQ q hq
    .exact h3) ag
   rcases hl:ij st1 t ((wide st t).set k p) (max t.many ((k:Int)+1)) with⟨eN,_|t2⟩
   .rw[hl] at bV;exact⟨bV.1.mono ag,ek.no,λ_=>h2.trans (bV.2.1 rfl)⟩
   .rw[hl] at bV;simp only at bV⊢;refine⟨?_,(bV.2.2 _ rfl).1,λhc=>(by cases hc)⟩;split
    .exact bV.1.mono ag
    .exact(bV.1.free yA).mono ag
theorem zS {st:au}{t:cB}{many:Int}(h:dA n st)(ht:ek t)(hm:0<=many/\many<=16):dA (n+40) (tJ st t many).1/\ek (tJ st t many).2.1/\((tJ st t many).2.2=false->Kp st (tJ st t many).1):=by
 obtain⟨_,hw,MQ⟩:=rI (st:=st) ht;have ni:tJ st t many=if many=t.many then(st,t,true) else
   match ij st t (wide st t) many with
   |(eN,none)=>(eN,t,false)
   |(eN,some t2)=>(dI ((wide st t).drop many.toNat) eN,t2,true):=rfl
 rw[ni];split
 .exact⟨h.mono ag,ht,λhc=>(by cases hc)⟩
 .have bV:=wq (t:=t) (lv:=wide st t) (many:=many) h ht.rt hw MQ hm;rcases hl:ij st t (wide st t) many with⟨eN,_|t2⟩
  .rw[hl] at bV;exact⟨bV.1.mono ag,ht,λ_=>bV.2.1 rfl⟩
  .rw[hl] at bV;simp only at bV⊢;have h4:=dA.dI (st:=eN) ((wide st t).drop many.toNat) bV.1 (λp hp=>MQ p (List.mem_of_mem_drop hp));exact⟨h4.mono (by rw[eW];omega),(bV.2.2 _ rfl).1,λhc=>(by cases hc)⟩
theorem yc:∀(f:Nat)(z:az),(∀s∈dB f z,s.length<=128)
 |0,z=>by simp[dB]
 |f+1,z=>by
  rw[dB];split
  .intro s hs;rcases bT.1 hs with rfl|hs
   .rw[cW];omega
   .exact yc f _ s hs
  .split
   .simp
   .intro s hs;have:s=z:=by simpa using hs
    subst this;omega
theorem yd (n:iM):(gj n).length<=128:=by
 cases h:eD n with
 |true=>exact(Pg.rF h).2
 |false=>unfold gj;rw[h];simp
theorem vV (s:St)(v:SA)(st:au)(h:dA 80000 st)(t:cB)(ht:ek t)(k:Nat)(hk:k<16)(n:iM):
  eV bh bw 110 [fK v st,tv t,iv k,nv n] s [] v st (pK st t k n).1 (pK st t k n).2.2 (Co (pK st t k n).2.1 (pK st t k n).2.2):=by
 have hl:=yd n;unfold pK;refine aT f110 ?_;dsimp only[eQ];(repeat' (first|refine' aW|refine' ahR|((with_reducible apply WO.nf);exact aC;(first|exact λs=>sR s _ _ aL _ aL _ ag _ ag|exact λs=>sR s _ _ aL ⟨⟨_,_,_,_,_⟩,_,_⟩ aL _ ag _ ag);exact eC;intro _ _ aks _ _ abV)|refine' av|fail));refine' dX
 .rfl
 .exact abV
theorem YV (s:St)(v:SA)(st:au)(h:dA 70000 st)(t:cB)(ht:ek t)(z:az)(hz:z.length<=50000):
  eV bh bw 198 [fK v st,tv t,sv z] s [] v st (kH st t z).1 true (Co (kH st t z).2.1 (kH st t z).2.2):=by
 have rS:=yc (z.length+1) z;have Us:kH st t z=if 16<(dB (z.length+1) z).length then(st,t,false) else match lE (dB (z.length+1) z) 0 st t with
  |(st,t,false)=>(st,t,false)
  |(st,t,true)=>tJ st t (dB (z.length+1) z).length:=rfl
 generalize hw:dB (z.length+1) z=w at *
 refine aT f198 ?_;dsimp only[eQ];by_cases Jd:16<w.length
 .rw[if_pos Jd] at Us;rw[Us];have hR:∀s,eU bh bw 245 [sv z] s [] 9 w:=λs=>by have:=BU s z ag;rwa [hw] at this
  refine' adf;all_goals try exact pJ
  refine' dX
  .rfl
  .intro hc;cases hc
 .rw[if_neg Jd] at Us;have hR:∀s,eU bh bw 245 [sv z] s [] 9 w:=λs=>by have:=BU s z ag;rwa [hw] at this
  refine' adf;all_goals try exact pJ
  refine W.bN (λk l L=>∃(i:Nat)(y:au)(u:cB)(v':SA)(a1:aM)(c1 b3 b4 b6 b7:Nat),Le [(3,bg b3),(4,bg b4),(6,bg b6),(7,bg b7),(9,.slice a1 w.length c1),(10,iv i)] l/\cC [.aQ (.slice a1 w.length c1) 9 1 (ai w),.box b3 (se v' y) 81 false,.box b4 (im u) 85 false,.box b6 [eT,eT,eT,cr,eT,cr,eT,.bool false] 81 false,.box b7 [cr,cr,cr,cr,cr,cr,cr] 85 false,.aQ (.slice v'.r 64 v'.rc) 9 1 (ai y.ez),.aQ (.slice v'.f 64 v'.fc) 3 1 (ai y.bc),.aQ (.slice v'.l 64 v'.lc) 3 1 (ai y.dw),.aQ (.slice v'.g y.cP.length v'.gc) 83 5 (ai y.cP),.aQ (.slice v'.d y.eu.length v'.dc) 83 5 (ai y.eu)] L/\k=w.length-i/\i<=w.length/\dA (70000+30*i) y/\ek u/\lE w 0 st t=lE (w.drop i) i y u)
   (λl L=>∃(y:au)(u:cB)(v':SA)(a1:aM)(c1 b3 b4 b6 b7:Nat),Le [(3,bg b3),(4,bg b4),(6,bg b6),(7,bg b7),(9,.slice a1 w.length c1)] l/\cC [.aQ (.slice a1 w.length c1) 9 1 (ai w),.box b3 (se v' y) 81 false,.box b4 (im u) 85 false,.box b6 [eT,eT,eT,cr,eT,cr,eT,.bool false] 81 false,.box b7 [cr,cr,cr,cr,cr,cr,cr] 85 false,.aQ (.slice v'.r 64 v'.rc) 9 1 (ai y.ez),.aQ (.slice v'.f 64 v'.fc) 3 1 (ai y.bc),.aQ (.slice v'.l 64 v'.lc) 3 1 (ai y.dw),.aQ (.slice v'.g y.cP.length v'.gc) 83 5 (ai y.cP),.aQ (.slice v'.d y.eu.length v'.dc) 83 5 (ai y.eu)] L/\dA 80000 y/\ek u/\lE w 0 st t=(y,u,true)) w.length ⟨0,st,t,v,_,_,_,_,_,_,bj,ar,ag,ag,h,ht,rfl⟩ ?_ ?_
  .rintro k l L ⟨i,y,u,v',a1,c1,b3,b4,b6,b7,hl,hL,rfl,hi,hy,hu,hp⟩;refine W.le ?_ hl hL;clear hl hL;have hy8:dA 80000 y:=hy.mono ag;by_cases tA:i<w.length
   .have RQ:=rS _ (aK tA ak.ah);have bV:=nq (k:=i) (z:=w.getD i ak.ah) hy hu ag ag;rw[drop_cons tA,lE] at hp;rcases uF:nH y u i (w.getD i ak.ah) with⟨y2,u2,ok⟩
    have TN:∀(dL:SA) s,eV bh bw 151 [fK dL y,tv u,iv i,sv (w.getD i ak.ah)] s [] dL y y2 ok (Co u2 ok):=λdL s=>by
     have:=sR s dL y hy8 u hu i ag (w.getD i ak.ah) ag;rw[uF] at this;exact this
    rw[uF] at hp bV;cases ok with
    |true=>
     simp only at hp bV;(repeat' (first|refine' aW|refine' D8|refine' av|fail));(all_goals try exact pJ);refine⟨_,?_,i+1,y2,u2,_,_,_,_,_,_,_,bj,ar,rfl,ag,bV.1.mono ag,bV.2.1,hp⟩;omega
    |false=>
     simp only at hp bV;have wN:=bV.2.2 trivial;rw[hp] at Us;simp only at Us;rw[Us];(repeat' (first|refine' aW|refine' D8|refine' av|fail));(all_goals try exact pJ);refine' dX
     .rw[show fK zo y2=fK zo y from wN.fK _];rw[L9 rfl];rfl
     .intro hc;cases hc
   .have fF:i=w.length:=by omega
    subst fF;rw[iI] at hp;refine' cR;(all_goals try exact pJ);exact⟨y,u,v',_,_,_,_,_,_,bj,ar,hy8,hu,hp⟩
  .rintro l L ⟨y,u,v',a1,c1,b3,b4,b6,b7,hl,hL,hy,hu,hp⟩;refine aq ?_;refine W.le ?_ hl hL;clear hl hL;rw[hp] at Us;simp only at Us;rw[Us];repeat' (first|refine' aW|refine' acX|refine' av|fail)
   refine' dX
   .rfl
   .intro hc;cases hc
theorem A8 (BD:Int):∀(l:List az)(k m:Nat),m<=k->mm BD k m l<=k+l.length
 |[],k,m,h=>by simpa[mm] using h
 |s::l,k,m,h=>by
  rw[mm,cY];split
  .exact gK (A8 BD l (k+1) _ ag) ag
  .exact gK (A8 BD l (k+1) _ ag) ag
theorem Np {st:au}{t:cB}{n:Nat}(h:dA n st)(hn:n<=100000)(ht:ek t)(BD:Int):rz st t BD<=16:=by have:=A8 BD (iy st t) 0 0 (cG _);have h2:=(lq (h.mono hn) ht).1;have h3:=ht.mn;unfold rz;omega
theorem Qb (s:St)(v:SA)(st:au)(h:dA 50000 st)(t:cB)(ht:ek t)(q:Nat)(hq:q<16)(o:dg)(ho:qw 200 st [((jr st t q).getD bB).aX.cI] []=some o)(Li:o.length<=1000)(mG:∀p∈o,bC p=true):
  eV bh bw 166 [fK v st,tv t,iv q] s [] v st (eb st t q).1 true (Co (eb st t q).2.1 (eb st t q).2.2):=by
 have h1:dA 100000 st:=h.mono ag;have hg:∀s,cS s v st->bF 200 [fK v st,tv t,iv q] s (iO v) (vx (jr st t q)):=λs hr=>AS s v st h1 t ht q ag hr
 have hla:∀s,cS s v st->bF 201 [fK v st,tv t,iv q] s (iO v) (iv (rz st t q)):=λs hr=>PY s v st h1 t ht q hr
 have hD:=Np h ag ht q;have Ih:eb st t q=match nH (dI o st) t q [] with
   |(st,t,false)=>(st,t,false)
   |(eN,t2,true)=>tJ eN t2 (rz st t q):=by
  have KD:xI st ((jr st t q).getD bB).aX=o:=by unfold xI;rw[ho];rfl
  unfold eb;simp only[KD,uK];rfl
 have Qc:∀s,cS s v st->eU bh bw 202 [fK v st,tv ((jr st t q).getD bB).aX] s (iO v) 83 o:=λs hr=>YM s v st h1 ((jr st t q).getD bB).aX o ho hr
 generalize hDv:rz st t q=D at *
 refine aT f166 ?_;dsimp only[eQ];(repeat' (first|refine' aW|((with_reducible apply WO.mq);exact aC;exact λs hr=>hg s hr;exact eF;intros)|((with_reducible apply WO.mq);exact aC;exact λs hr=>hla s hr;exact eF;intros)|((with_reducible apply WO.AQ);exact aC;exact λs hr=>Qc s hr;exact eF;intro _ _ ai9 aja _ _)|refine' av|fail));all_goals try refine cj
 refine W.bN (λk l L=>∃(i:Nat)(y:au)(v':SA)(a1:aM)(c1 b3 b4 b6 b7:Nat),Le [(2,iv q),(11,iv D),(3,bg b3),(4,bg b4),(6,bg b6),(7,bg b7),(12,.slice a1 o.length c1),(13,iv i)] l/\cC [.aQ (.slice a1 o.length c1) 83 5 (ai o),.box b3 (se v' y) 81 false,.box b4 (im t) 85 false,.box b6 [eT,eT,eT,cr,eT,cr,eT,.bool false] 81 false,.box b7 [cr,cr,cr,cr,cr,cr,cr] 85 false,.aQ (.slice v'.r 64 v'.rc) 9 1 (ai y.ez),.aQ (.slice v'.f 64 v'.fc) 3 1 (ai y.bc),.aQ (.slice v'.l 64 v'.lc) 3 1 (ai y.dw),.aQ (.slice v'.g y.cP.length v'.gc) 83 5 (ai y.cP),.aQ (.slice v'.d y.eu.length v'.dc) 83 5 (ai y.eu)] L/\k=o.length-i/\i<=o.length/\dA (50000+i) y/\dI o st=dI (o.drop i) y)
  (λl L=>∃(y:au)(v':SA)(b3 b4 b6 b7:Nat),Le [(2,iv q),(11,iv D),(3,bg b3),(4,bg b4),(6,bg b6),(7,bg b7)] l/\cC [.box b3 (se v' y) 81 false,.box b4 (im t) 85 false,.box b6 [eT,eT,eT,cr,eT,cr,eT,.bool false] 81 false,.box b7 [cr,cr,cr,cr,cr,cr,cr] 85 false,.aQ (.slice v'.r 64 v'.rc) 9 1 (ai y.ez),.aQ (.slice v'.f 64 v'.fc) 3 1 (ai y.bc),.aQ (.slice v'.l 64 v'.lc) 3 1 (ai y.dw),.aQ (.slice v'.g y.cP.length v'.gc) 83 5 (ai y.cP),.aQ (.slice v'.d y.eu.length v'.dc) 83 5 (ai y.eu)] L/\dA 51000 y/\dI o st=y) o.length ⟨0,st,v,_,_,_,_,_,_,bj,ar,ag,ag,by simpa using h,rfl⟩ ?_ ?_
 .rintro k l L ⟨i,y,v',a1,c1,b3,b4,b6,b7,hl,hL,rfl,hi,hy,hf⟩;refine W.le ?_ hl hL;clear hl hL;have Vu:dA 100000 y:=hy.mono ag;by_cases tA:i<o.length
  .have yA:=mG _ (aK tA ak.ah);rw[drop_cons tA] at hf;repeat' (first|refine' aW|refine' L8|refine' av|fail)
   (all_goals try exact pJ);refine⟨_,?_,i+1,_,Xv,_,_,_,_,_,_,bj,ar,rfl,ag,(hy.free yA).mono ag,hf⟩;omega
  .have fF:i=o.length:=by omega
   subst fF;rw[iI] at hf;refine' cR;(all_goals try exact pJ);exact⟨y,v',_,_,_,_,bj,ar,hy.mono ag,hf⟩
 .rintro l L ⟨y,v',b3,b4,b6,b7,hl,hL,hy,hf⟩;refine aq ?_;refine W.le ?_ hl hL;clear hl hL;rw[hf] at Ih;have hy8:dA 80000 y:=hy.mono ag;rcases uF:nH y t q [] with⟨y2,t2,ok⟩
  have bV:=nq (k:=q) (z:=[]) hy ht hq ay;rw[uF] at bV Ih;have TN:∀(dL:SA) s,eV bh bw 151 [fK dL y,tv t,iv q,sv []] s [] dL y y2 ok (Co t2 ok):=λdL s=>by
   have:=sR s dL y hy8 t ht q hq [] ay;rw[uF] at this;exact this
  cases ok with
  |false=>
   simp only at Ih;rw[Ih];(repeat' (first|refine' aW|refine' D8|refine' av|fail));(all_goals try refine cj);refine' dX
   .rfl
   .intro hc;cases hc
  |true=>
   simp only at Ih;have hy3:dA 80000 y2:=bV.1.mono ag;have ht2:=bV.2.1;rw[Ih];(repeat' (first|refine' aW|refine' D8|refine' acX|refine' av|fail));(all_goals try refine cj);refine' dX
   .rfl
   .intro hc;cases hc
theorem Ii (st:au)(n:iM):kY st n=(eD n&&decide (n.kind=1)&&fw st n.aX&&kY.go n 0 (iy st n.aX)):=rfl
theorem Nq (s:St)(v:SA)(st:au)(h:dA 100000 st)(n:iM)(hr:cS s v st):bF 121 [fK v st,nv n] s (iO v) (.bool (kY st n)):=by
 have tZ:=Rd.EH hr;have uy:=Rd.off hr;have uC:=Rd.CM hr;cases hA:(eD n&&decide (n.kind=1)&&fw st n.aX) with
 |false=>
  rw[Ii,hA,Bs];refine aT f121 ?_;repeat' (first|refine' aW|refine' Po|refine' Pr|refine' av|fail)
  all_goals first|(exfalso;simp_all;done)|((refine' ax);rfl)
 |true=>
  rw[Ii,hA,uL];obtain⟨⟨nN,hki⟩,fm⟩:(eD n=true/\n.kind=1)/\fw st n.aX=true:=by simpa using hA
  have hn:ka n:=ka.of nN;have ht:=hn.tr;have jd:=hn.sz;obtain⟨hl,dG⟩:=lq h ht;have hm:=ht.mn;have Q9:(!eD n)=false:=by rw[nN];rfl
  have G9:(!decide (n.kind=1))=false:=by simp[hki]
  have hn3:(!fw st n.aX)=false:=by rw[fm];rfl
  refine aT f121 ?_;repeat' (first|refine' aW|refine' Po|refine' Pr|refine' aeJ|refine' av|fail)
  all_goals first|(exfalso;simp_all;done)|skip
  generalize iy st n.aX=w at *
  refine W.bN (λk l L=>∃(i bs bt:Nat),Le [(2,bg bs),(3,bg bt),(5,.slice gF w.length gG),(6,iv i)] l/\cC [.aQ (.slice gF w.length gG) 9 1 (ai w),.box bs (se v st) 81 false,.box bt (xR n) 130 false] L/\k=w.length-i/\i<=w.length/\kY.go n 0 w=kY.go n i (w.drop i))
   (λl L=>kY.go n 0 w=true) w.length ⟨0,_,_,bj,ar,ag,ag,rfl⟩ ?_ ?_
  .rintro k l L ⟨i,bs,bt,jM,hL,rfl,h1,h2⟩;refine W.le ?_ jM hL;clear jM hL;by_cases hi:i<w.length
   .have RQ:=dG _ (aK hi ak.ah);rw[drop_cons hi,kY.go] at h2;have hlo:gu n.size i<=12/\ -10000<=gu n.size i:=by unfold gu;omega
    (repeat' (first|refine' aW|refine' ahW|((with_reducible apply WO.aV);exact aC;exact λs=>HC s _ ag;intros)|refine' av|fail));all_goals try exact pJ
    .have hw:kY.go n 0 w=false:=by rw[h2,eI j8];simp
     rw[hw];refine' ax;rfl
    .refine⟨_,?_,i+1,_,_,bj,ar,rfl,ag,by rw[h2,bY j8,bY ur];rfl⟩;omega
    .have hw:kY.go n 0 w=false:=by rw[h2,eI ag];rfl
     rw[hw];refine' ax;rfl
   .have fF:i=w.length:=by omega
    subst fF;rw[iI,kY.go] at h2;refine' cR;all_goals first|(exfalso;omega;done)|exact h2
  .rintro l L h1;refine aq ?_;refine W.le ?_ (Le.nil _) (cC.nil _);rw[h1];refine' cR
   refine' ax;rfl
theorem Gv (l:List az)(h:l≠[]):l.getLastD []=l.getD (l.length-1) ak.ah:=by have hl:0<l.length:=nL.2 h;rw[aZ,List.getLastD_eq_getLast?,List.getLast?_eq_getElem?,bd ag];rfl
theorem Pu (s:St)(z:az)(hz:z.length<=90000)(hp:aP z=true)(hn:aF z≠[]):bF 160 [sv z] s [] (sv (Fs.base z)):=by
 obtain⟨vO,ajb⟩:=CH hp;have hl:0<(aF z).length:=nL.2 hn;rw[show Fs.base z=(aF z).getD ((aF z).length-1) ak.ah from Gv _ hn];have h4:(aF z).length<=4:=by
  unfold aP at hp;split at hp
  .rename_i h;exfalso;apply hn;unfold aF;rw[if_pos h]
  .split at hp
   .cases hp
   .simp only[bO,bQ] at hp;exact hp.2
 rw[show(aF z).length-1=(((aF z).length:Int)-1).toNat by omega];refine aT f160 ?_;repeat' (first|refine' aW|refine' TA|refine' av|fail)
 refine' ax;rfl
def Fa (n:iM)(ok:Bool):Value->Value:=λV=>.tuple ⟨[V,nv n,.bool ok]⟩
theorem ka.aX {n:iM}(h:ka n){t:cB}(ht:ek t):ka {n with aX:=t}:=⟨ht,h.sz⟩
theorem RX (s:az):(nI s).length<=s.length:=by unfold nI;rw[QT];have:=(List.dropWhile_sublist (l:=s.reverse) (λx=>decide (x=0))).length_le;rw[QT] at this;exact this
theorem xi (z:az):∀(m k n:Nat)(st:au)(u:iM),dA n st->ka u->k+m<=16->dA (n+30*m) (ki z m k st u).1/\ka (ki z m k st u).2.1
 |0,k,n,st,u,h,hu,_=>⟨h,hu⟩
 |m+1,k,n,st,u,h,hu,hk=>by
  have hc:=RX ((z.take (min z.length ((k+1)*12))).drop (k*12));have bV:=nq (k:=k) (z:=nI ((z.take (min z.length ((k+1)*12))).drop (k*12))) h hu.tr ag (by rw[eW,cW] at hc;omega);rw[ki];rcases hp:nH st u.aX k (nI ((z.take (min z.length ((k+1)*12))).drop (k*12))) with⟨eN,t2,ok⟩
  rw[hp] at bV;cases ok with
  |true=>
   have:=xi z m (k+1) (n+30) eN {u with aX:=t2} bV.1 (hu.aX bV.2.1) ag;exact⟨this.1.mono ag,this.2⟩
  |false=>exact⟨bV.1.mono ag,hu⟩
theorem Ij (s:St)(v:SA)(st:au)(h:dA 50000 st)(n:iM)(hn:ka n)(z:az)(hz:z.length<=1000)(a b:Nat)(lV:a<=b+1)(hb:b<16)(hbz:b*12<=z.length):
  eV bh bw 204 [fK v st,nv n,sv z,iv a,iv b] s [] v st (gE st n z a b).1 true (Fa (gE st n z a b).2.1 (gE st n z a b).2.2):=by
 have G9:ka {n with size:=z.length}:=⟨hn.tr,⟨KL _,by show(z.length:Int)<=10000;omega⟩⟩;refine aT f204 ?_;dsimp only[eQ];refine' cR
 refine W.bN (λk l L=>∃(j:Nat)(y:au)(u:iM)(v':SA)(b5 b6 P8 P9:Nat),Le [(2,sv z),(5,bg b5),(6,bg b6),(10,bg P8),(11,bg P9),(4,iv b),(13,iv j)] l/\cC [.box b5 (se v' y) 81 false,.box b6 (xR u) 130 false,.box P8 [eT,eT,eT,cr,eT,cr,eT,.bool false] 81 false,.box P9 [cr,cr,cr,cr,cr,cr,cr,cr,cr,cr] 130 false,.aQ (.slice v'.r 64 v'.rc) 9 1 (ai y.ez),.aQ (.slice v'.f 64 v'.fc) 3 1 (ai y.bc),.aQ (.slice v'.l 64 v'.lc) 3 1 (ai y.dw),.aQ (.slice v'.g y.cP.length v'.gc) 83 5 (ai y.cP),.aQ (.slice v'.d y.eu.length v'.dc) 83 5 (ai y.eu)] L/\k=b+1-j/\j<=b+1/\a<=j/\dA (50000+30*(j-a)) y/\ka u/\gE st n z a b=ki z (b+1-j) j y u)
  (λl L=>∃(y:au)(u:iM)(v':SA)(b5 b6 P8 P9:Nat),Le [(5,bg b5),(6,bg b6),(10,bg P8),(11,bg P9)] l/\cC [.box b5 (se v' y) 81 false,.box b6 (xR u) 130 false,.box P8 [eT,eT,eT,cr,eT,cr,eT,.bool false] 81 false,.box P9 [cr,cr,cr,cr,cr,cr,cr,cr,cr,cr] 130 false,.aQ (.slice v'.r 64 v'.rc) 9 1 (ai y.ez),.aQ (.slice v'.f 64 v'.fc) 3 1 (ai y.bc),.aQ (.slice v'.l 64 v'.lc) 3 1 (ai y.dw),.aQ (.slice v'.g y.cP.length v'.gc) 83 5 (ai y.cP),.aQ (.slice v'.d y.eu.length v'.dc) 83 5 (ai y.eu)] L/\gE st n z a b=(y,u,true)) (b+1-a) ⟨a,st,{n with size:=z.length},v,_,_,_,_,bj,ar,rfl,ag,cG _,by simpa using h,G9,rfl⟩ ?_ ?_
 .rintro k l L ⟨j,y,u,v',b5,b6,P8,P9,hl,hL,rfl,hj,haj,hy,hu,hp⟩;refine W.le ?_ hl hL;clear hl hL;have hy8:dA 80000 y:=hy.mono ag;have DR:=hu.tr;by_cases S6:j<=b
  .have hc:=RX ((z.take (min z.length ((j+1)*12))).drop (j*12));have uV:(nI ((z.take (min z.length ((j+1)*12))).drop (j*12))).length<=12:=by rw[eW,cW] at hc;omega
   have bV:=nq (k:=j) (z:=nI ((z.take (min z.length ((j+1)*12))).drop (j*12))) hy DR ag ag;rw[show b+1-j=(b+1-(j+1))+1 by omega,ki] at hp;have jn:List.take ((min (↑(List.length z)) (((j:Int)+1)*12)).toNat-((j:Int)*12).toNat) (List.drop ((j:Int)*12).toNat z)=(z.take (min z.length ((j+1)*12))).drop (j*12):=by
    rw[List.drop_take]
    congr 1<;>first|omega|(congr 1;omega)
   generalize hw:nI ((z.take (min z.length ((j+1)*12))).drop (j*12))=w at hp bV uV;rcases uF:nH y u.aX j w with⟨y2,u2,ok⟩
   have TN:∀(dL:SA) s,eV bh bw 151 [fK dL y,tv u.aX,iv j,sv (nI (List.take ((min (↑(List.length z)) (((j:Int)+1)*12)).toNat-((j:Int)*12).toNat) (List.drop ((j:Int)*12).toNat z)))] s [] dL y y2 ok (Co u2 ok):=λdL s=>by
    have:=sR s dL y hy8 u.aX DR j ag w ag;rw[uF] at this;rw[jn,hw];exact this
   rw[uF] at hp bV;have hjz:j*12<=z.length:=by omega
   cases ok with
   |true=>
    simp only at hp bV;(repeat' (first|refine' aW|refine' ac0|refine' D8|refine' av|fail));(all_goals try exact pJ);refine⟨_,?_,j+1,y2,{u with aX:=u2},_,_,_,_,_,bj,ar,rfl,ag,ag,bV.1.mono ag,hu.aX bV.2.1,hp⟩;omega
   |false=>
    simp only at hp bV;have wN:=bV.2.2 trivial;rw[hp];(repeat' (first|refine' aW|refine' ac0|refine' D8|refine' av|fail));(all_goals try exact pJ);refine' dX
    .rw[show fK zo y2=fK zo y from wN.fK _];rw[L9 rfl];rfl
    .intro hc;cases hc
  .have hj':j=b+1:=by omega
   subst hj';rw[B9,ki] at hp;refine' cR;(all_goals try exact pJ);exact⟨y,u,v',_,_,_,_,bj,ar,hp⟩
 .rintro l L ⟨y,u,v',b5,b6,P8,P9,hl,hL,hp⟩;refine aq ?_;refine W.le ?_ hl hL;clear hl hL;rw[hp];refine' cR
  refine' dX
  .rfl
  .intro hc;cases hc
variable {s:St}{bc dw:List Int}
theorem Sa.r {s:St}{v:SA}{st:au}(h:zP s v st):Rd ⟨s,([]:bZ).flatMap It.a8,Gt v⟩ v.r 64 1 (ai st.ez):=Rd.of h.a.r λ_ hb=>cT _ (HS hb)
theorem Sa.f {s:St}{v:SA}{st:au}(h:zP s v st):Rd ⟨s,([]:bZ).flatMap It.a8,Gt v⟩ v.f 64 1 (ai st.bc):=Rd.of h.a.f λ_ hb=>cT _ (HT hb)
theorem Sa.l {s:St}{v:SA}{st:au}(h:zP s v st):Rd ⟨s,([]:bZ).flatMap It.a8,Gt v⟩ v.l 64 1 (ai st.dw):=Rd.of h.a.l λ_ hb=>cT _ (HU hb)
theorem Sa.g {s:St}{v:SA}{st:au}(h:zP s v st):Rd ⟨s,([]:bZ).flatMap It.a8,Gt v⟩ v.g st.cP.length 5 (ai st.cP):=Rd.of h.g λ_ hb=>dE _ (cT _ hb)
theorem Sa.d {s:St}{v:SA}{st:au}(h:zP s v st):Rd ⟨s,([]:bZ).flatMap It.a8,Gt v⟩ v.d st.eu.length 5 (ai st.eu):=Rd.of h.d λ_ hb=>dE _ (dE _ hb)
abbrev Sb (E:ig)(X:fR)(f:FuncId)(vs:a6)(s:St)(A:List Nat)(bc dw:List Int):Prop:=fM E X f vs s [] A λr L=>∃a c a2 c2,r= .agg ⟨[.slice a 64 c,.slice a2 64 c2]⟩/\L=[.aQ (.slice a2 64 c2) 3 1 (ai dw),.aQ (.slice a 64 c) 3 1 (ai bc)]
section
variable {l:Kn}{f:FuncId}
theorem WO.ajp (hx:kA l xs vs)(h:∀s,cS s v st->Sb E X f vs s (iO v) bc dw)(hh:rC Γ L v st)(k:∀m m' a c a2 c2,jX L m->m<=m'->K (.agg ⟨[.slice a 64 c,.slice a2 64 c2]⟩) (.aQ (.slice a2 64 c2) 3 1 (ai dw):: .aQ (.slice a 64 c) 3 1 (ai bc)::L) m m' (FtR (iO v) [] m m') (FtW [] m m')):WC E X Γ l f xs ts L K:=
 WO.call (Lm:=[]) (R:=L) hx (.refl _) (λs hi=>(hh.row hi).2) (λs hi=>h s (hh.row hi).1) (by rintro r L' m m' ho hm ⟨a,c,a2,c2,rfl,rfl⟩;exact k m m' a c a2 c2 ho hm)
theorem WO.afC (hx:kA l xs vs)(h:∀s,Sb E X f vs s [] bc dw)(k:∀m m' a c a2 c2,jX L m->m<=m'->K (.agg ⟨[.slice a 64 c,.slice a2 64 c2]⟩) (.aQ (.slice a2 64 c2) 3 1 (ai dw):: .aQ (.slice a 64 c) 3 1 (ai bc)::L) m m' (FtR [] [] m m') (FtW [] m m')):WC E X Γ l f xs ts L K:=
 WO.call (Lm:=[]) (R:=L) hx (.refl _) (λs hi b hb=>by cases hb) (λs hi=>h s) (by rintro r L' m m' ho hm ⟨a,c,a2,c2,rfl,rfl⟩;exact k m m' a c a2 c2 ho hm)
theorem ahG {rs:List ResultVar}{x:Ex}{da:au}{a1 a2 a3 a4 a5:aM}{c1 c2 c3 c4 c5:Nat}(hx:x= .normal\/x= .ret)(hr:qD E l L rs [.agg ⟨[.slice a1 64 c1,.slice a2 64 c2,.slice a3 64 c3,iv da.fJ,.slice a4 da.cP.length c4,iv da.oV,.slice a5 da.eu.length c5,.bool da.same]⟩])
  (hL:cC [.aQ (.slice a1 64 c1) 9 1 (ai da.ez),.aQ (.slice a2 64 c2) 3 1 (ai da.bc),.aQ (.slice a3 64 c3) 3 1 (ai da.dw),.aQ (.slice a4 da.cP.length c4) 83 5 (ai da.cP),.aQ (.slice a5 da.eu.length c5) 83 5 (ai da.eu)] L):
  vh E rs (λr L=>∃v':SA,r=id (fK v' da)/\L=eQ v' da) x l L:=⟨hx,_,_,hr,hL,⟨a1,c1,a2,c2,a3,c3,a4,c4,a5,c5⟩,rfl,rfl⟩
theorem alw {rs:List ResultVar}{x:Ex}{a a2:aM}{c c2:Nat}(hx:x= .normal\/x= .ret)(hr:qD E l L rs [.agg ⟨[.slice a 64 c,.slice a2 64 c2]⟩])(hL:cC [.aQ (.slice a2 64 c2) 3 1 (ai dw),.aQ (.slice a 64 c) 3 1 (ai bc)] L):
  vh E rs (λr L=>∃a c a2 c2,r= .agg ⟨[.slice a 64 c,.slice a2 64 c2]⟩/\L=[.aQ (.slice a2 64 c2) 3 1 (ai dw),.aQ (.slice a 64 c) 3 1 (ai bc)]) x l L:=⟨hx,_,_,hr,hL,a,c,a2,c2,rfl,rfl⟩
end
theorem UE (s:St)(v:SA)(st:au)(h:dA 100000 st)(hr:cS s v st):Sb bh bw 153 [.agg ⟨[.slice v.f 64 v.fc,.slice v.l 64 v.lc]⟩] s (iO v) st.bc st.dw:=by have uy:=Rd.off hr;have uC:=Rd.CM hr;have Ce:=h.lf;have hll:=h.ll;refine aT f153 ?_;refine' cR;refine' acO
theorem NI (s:St):Sb bh bw 112 [] s [] (List.replicate 64 (0:Int)) (List.replicate 64 (0:Int)):=by refine aT f112 ?_;refine' cR;refine' acO
theorem TO (s:St)(v:SA)(st:au)(h:dA 100000 st)(hr:zP s v st):M9 bh bw 111 [fK v st] s (Gt v) st id:=by have tZ:=Sa.r hr;have uy:=Sa.f hr;have uC:=Sa.l hr;have hdg:=Sa.g hr;have hdd:=Sa.d hr;have Lh:=h.lr;have gP:=h.gl;have aoj:=h.dl;refine aT f111 ?_;(repeat' (first|refine' aW|((with_reducible apply WO.ajp);exact aC;exact λs hr=>UE s _ _ aL hr;exact eF;intro _ _ ajq ajr ajs ajt _ _)|refine' av|fail));refine' Xb
theorem NJ (s:St)(b:Bool):M9 bh bw 74 [.bool b] s [] (bW b) id:=by refine aT f74 ?_;(repeat' (first|refine' aW|((with_reducible apply WO.afC);exact aC;exact λs=>NI s;intro _ _ afD afE afF afG _ _)|refine' av|fail));refine' Xb
theorem ab3 (st:au):next st={(st.cP.foldl (λst p=>drop st p.row) st) with cP:=[],fJ:=st.fJ+1}:=rfl
theorem Ix (s:St)(v:SA)(st:au)(h:dA 70000 st)(hn:st.cP.length<=30000):eV bh bw 77 [fK v st] s [] v st (next st) true id:=by
 rw[ab3];refine aT f77 ?_;dsimp only[eQ];refine' cR
 refine W.bN (λk l L=>∃(i:Nat)(y:au)(v':SA)(b1 b2:Nat),Le [(1,bg b1),(2,bg b2),(3,iv i)] l/\cC [.box b1 (se v' y) 81 false,.box b2 [eT,eT,eT,cr,eT,cr,eT,.bool false] 81 false,.aQ (.slice v'.r 64 v'.rc) 9 1 (ai y.ez),.aQ (.slice v'.f 64 v'.fc) 3 1 (ai y.bc),.aQ (.slice v'.l 64 v'.lc) 3 1 (ai y.dw),.aQ (.slice v'.g y.cP.length v'.gc) 83 5 (ai y.cP),.aQ (.slice v'.d y.eu.length v'.dc) 83 5 (ai y.eu)] L/\k=st.cP.length-i/\i<=st.cP.length/\dA (70000+i) y/\y.cP=st.cP/\y.fJ=st.fJ/\st.cP.foldl (λst p=>drop st p.row) st=(st.cP.drop i).foldl (λst p=>drop st p.row) y)
  (λl L=>∃(y:au)(v':SA)(b1 b2:Nat),Le [(1,bg b1),(2,bg b2)] l/\cC [.box b1 (se v' y) 81 false,.box b2 [eT,eT,eT,cr,eT,cr,eT,.bool false] 81 false,.aQ (.slice v'.r 64 v'.rc) 9 1 (ai y.ez),.aQ (.slice v'.f 64 v'.fc) 3 1 (ai y.bc),.aQ (.slice v'.l 64 v'.lc) 3 1 (ai y.dw),.aQ (.slice v'.d y.eu.length v'.dc) 83 5 (ai y.eu)] L/\dA 100000 y/\y.fJ=st.fJ/\st.cP.foldl (λst p=>drop st p.row) st=y) st.cP.length ⟨0,st,v,_,_,bj,ar,ag,ag,h,rfl,rfl,rfl⟩ ?_ ?_
 .rintro k l L ⟨i,y,v',b1,b2,hl,hL,rfl,hi,hy,hyg,hyt,hf⟩;refine W.le ?_ hl hL;clear hl hL;have Vu:dA 100000 y:=hy.mono ag;have gP:y.cP.length=st.cP.length:=by rw[hyg]
  by_cases tA:i<st.cP.length
  .have ze:0<=(y.cP.getD i ak.ah).row/\(y.cP.getD i ak.ah).row<64:=hy.gr _ (aK ag _);rw[drop_cons tA,wH] at hf;repeat' (first|refine' aW|refine' acV|refine' av|fail)
   (all_goals try exact pJ);refine⟨_,?_,i+1,_,Xs,_,_,bj,ar,rfl,ag,hy.drop,hyg,hyt,?_⟩
   .omega
   .rw[hf,hyg]
  .have fF:i=st.cP.length:=by omega
   subst fF;rw[iI] at hf;refine' cR;(all_goals try exact pJ);exact⟨y,v',_,_,bj,ar,Vu,hyt,hf⟩
 .rintro l L ⟨y,v',b1,b2,hl,hL,hy,hyt,hf⟩;refine aq ?_;refine W.le ?_ hl hL;clear hl hL;have yy:=hy.tx;rw[hf,<-hyt];refine' cR
  refine q8 (v':=⟨v'.r,v'.rc,v'.f,v'.fc,v'.l,v'.lc,some ⟨bl,0,none⟩,0,v'.d,v'.dc⟩) bG bu ar ?_ (λhc=>(by cases hc));rfl
theorem NN (s:St)(v:SA)(st:au)(h:dA 50000 st)(n:iM)(hn:ka n)(a:Nat)(z:az)(ha:a+z.length<=192)(hf:(bE st n).length<=192):
  eV bh bw 167 [fK v st,nv n,iv a,sv z] s [] v st (fH st n a z).1 true (Fa (fH st n a z).2.1 (fH st n a z).2.2):=by
 have h1:dA 100000 st:=h.mono ag;have hov:(gk (bE st n) a z).length<=192/\a+z.length<=(gk (bE st n) a z).length:=by
  unfold gk iz;simp only[bL,cW,eW,qX];omega
 refine aT f167 ?_;dsimp only[eQ];by_cases hz:z=[]
 .subst hz;have hw:fH st n a []=(st,n,true):=rfl;rw[hw];refine' cR
  refine' dX
  .rfl
  .intro hc;cases hc
 .have hw:fH st n a z=gE st n (gk (bE st n) a z) (a/ 12) ((a+z.length-1)/ 12):=by unfold fH;rw[if_neg hz]
  rw[hw];have hzl:0<z.length:=nL.2 hz;have hmt:((min ((bE st n++iz ((a:Int)-((bE st n).length:Int))).length:Int) ((a:Int)+(z.length:Int))).toNat)=min (bE st n++iz ((a:Int)-((bE st n).length:Int))).length (a+z.length):=by omega
  have hpc:=λ(dL:SA) s=>Ij s dL st h n hn (gk (bE st n) a z) ag (a/ 12) ((a+z.length-1)/ 12) ag ag ag
  have Yh:((a:Int)).tdiv 12=((a/ 12:Nat):Int):=by rw[VD ag];omega
  have hq2:((a:Int)+(z.length:Int)-1).tdiv 12=(((a+z.length-1)/ 12:Nat):Int):=by rw[VD ag];omega
  refine' zbn
  have TN:∀(dL:SA) s,eV bh bw 204 [fK dL st,nv n,sv (List.take a (bE st n++iz ((a:Int)-((bE st n).length:Int)))++z++List.drop (min ((bE st n++iz ((a:Int)-((bE st n).length:Int))).length:Int) ((a:Int)+(z.length:Int))).toNat (bE st n++iz ((a:Int)-((bE st n).length:Int)))),iv (((a:Int)).tdiv 12),iv (((a:Int)+(z.length:Int)-1).tdiv 12)] s [] dL st (gE st n (gk (bE st n) a z) (a/ 12) ((a+z.length-1)/ 12)).1 true (Fa (gE st n (gk (bE st n) a z) (a/ 12) ((a+z.length-1)/ 12)).2.1 (gE st n (gk (bE st n) a z) (a/ 12) ((a+z.length-1)/ 12)).2.2):=λdL s=>by
   rw[Yh,hq2,hmt];exact hpc dL s
  (repeat' (first|refine' aW|refine' zp|refine' L6|((with_reducible apply WO.nf);exact aC;exact λs=>TN _ s;exact eC;intro _ _ UI _ _ UJ)|refine' av|fail));all_goals try refine cj
  refine' dX
  .rfl
  .intro hc;cases hc
theorem UK (s:St)(v:SA)(st:au)(h:dA 40000 st)(n:iM)(hn:ka n)(a:Nat)(ha:a<=192)(hs:n.size<=192)(hf:((bE st n).length:Int)=n.size)(hm:n.aX.many=dx n.size 12):
  eV bh bw 168 [fK v st,nv n,iv a] s [] v st (fB st n a).1 true (Fa (fB st n a).2.1 (fB st n a).2.2):=by
 have h1:dA 100000 st:=h.mono ag;have h8:dA 80000 st:=h.mono ag;have DR:=hn.tr;have jd:=hn.sz;have Zj:dx a 12=((a+11)/ 12:Nat):=by unfold dx;omega
 refine' zbn;have hKv:12*((a+11)/ 12)<=a+11/\a+11<12*((a+11)/ 12)+12:=by omega
 generalize(a+11)/ 12=K at Zj hKv;have hpi:∀s,bF 205 [iv a,iv 12] s [] (iv K):=λs=>by have:=zt s a 12 ag ag;rwa [Zj] at this
 by_cases hsa:n.size<=a
 .by_cases hme:(K:Int)=n.aX.many
  .have hw:fB st n a=(st,{n with size:=(a:Int)},true):=by
    unfold fB;simp only[Zj];rw[if_pos hsa,if_pos hme]
   rw[hw];refine aT f168 ?_;dsimp only[eQ];(repeat' (first|refine' aW|refine' zp|refine' L6|refine' Mf|refine' av|fail));(all_goals try refine cj);refine' dX
   .rfl
   .intro hc;cases hc
  .have hK1:1<=K:=by unfold dx at hm;omega
   (have hKe:((K:Int)-1)=((K-1:Nat):Int):=by omega);rcases uF:nH st n.aX (K-1) [] with⟨eN,t2,ok⟩
   have hw:fB st n a=(eN,{n with size:=(a:Int),aX:=t2},ok):=by
    unfold fB;simp only[Zj];rw[if_pos hsa,if_neg hme,hKe,uK];simp only[uF]
   rw[hw];have TN:∀(dL:SA) s,eV bh bw 151 [fK dL st,tv n.aX,iv ((K:Int)-1),sv []] s [] dL st eN ok (Co t2 ok):=λdL s=>by
    have:=sR s dL st h8 n.aX DR (K-1) ag [] ay;rw[uF] at this;rw[hKe];exact this
   refine aT f168 ?_;dsimp only[eQ];(repeat' (first|refine' aW|refine' zp|refine' L6|refine' Mf|refine' D8|refine' av|fail));(all_goals try refine cj);refine' dX
   .rfl
   .intro hc;cases hc
 .rcases P3:tJ st n.aX K with⟨eN,t2,ok⟩
  have bV:=zS (many:=(K:Int)) h DR ag;rw[P3] at bV;have Vj:∀(dL:SA) s,eV bh bw 203 [fK dL st,tv n.aX,iv K] s [] dL st eN ok (Co t2 ok):=λdL s=>by
   have:=D9 s dL st h8 n.aX DR (K:Int) ag;rw[P3] at this;exact this
  cases ok with
  |false=>
   have hw:fB st n a=(eN,n,false):=by
    unfold fB;simp only[Zj];rw[if_neg hsa];simp only[P3]
   rw[hw];have wN:=bV.2.2 rfl;refine aT f168 ?_;dsimp only[eQ];(repeat' (first|refine' aW|refine' zp|refine' L6|refine' Mf|refine' XB|refine' av|fail));(all_goals try refine cj);refine' dX
   .rw[show fK Mg eN=fK Mg st from wN.fK _];rw[XC rfl];rfl
   .intro hc;cases hc
  |true=>
   by_cases hK0:K=0
   .have hw:fB st n a=(eN,{n with size:=(a:Int),aX:=t2},true):=by
     unfold fB;simp only[Zj];rw[if_neg hsa];simp only[P3];rw[if_pos ag]
    rw[hw];refine aT f168 ?_;dsimp only[eQ];(repeat' (first|refine' aW|refine' zp|refine' L6|refine' Mf|refine' XB|refine' av|fail));(all_goals try refine cj);refine' dX
    .rfl
    .intro hc;cases hc
   .have hw:fB st n a=gE eN {n with size:=(a:Int),aX:=t2} ((bE st n).take a) (K-1) (K-1):=by
     unfold fB;simp only[Zj];rw[if_neg hsa];simp only[P3];rw[if_neg ag,show((K:Int)-1).toNat=K-1 by omega]
    rw[hw];have hnn:ka {n with size:=(a:Int),aX:=t2}:=⟨bV.2.1,⟨KL _,by show(a:Int)<=10000;omega⟩⟩;have dG:((bE st n).take a).length=a:=by rw[cW];omega
    have Tu:∀(dL:SA) s,eV bh bw 204 [fK dL eN,nv {n with size:=(a:Int),aX:=t2},sv ((bE st n).take a),iv ((K:Int)-1),iv ((K:Int)-1)] s [] dL eN (gE eN {n with size:=(a:Int),aX:=t2} ((bE st n).take a) (K-1) (K-1)).1 true (Fa (gE eN {n with size:=(a:Int),aX:=t2} ((bE st n).take a) (K-1) (K-1)).2.1 (gE eN {n with size:=(a:Int),aX:=t2} ((bE st n).take a) (K-1) (K-1)).2.2):=λdL s=>by
     have:=Ij s dL eN (bV.1.mono ag) _ hnn ((bE st n).take a) ag (K-1) (K-1) ag ag ag;rw[show((K:Int)-1)=((K-1:Nat):Int) by omega];exact this
    refine aT f168 ?_;dsimp only[eQ];(repeat' (first|refine' aW|refine' zp|refine' L6|refine' Mf|refine' XB|((with_reducible apply WO.nf);exact aC;exact λs=>Tu _ s;exact eC;intro _ _ UI _ _ UJ)|refine' av|fail));(all_goals try refine cj);refine' dX
    .rfl
    .intro hc;cases hc
variable {l:Kn}{t t2:TypeId}
section
variable {n:Int}
theorem Ua {n:Int}(h:0<=n/\n<=1000000):IntKind.wrap .u64 n=n:=by refine' zaU
theorem WO.adm [h1:xM E t .i64][h2:xM E t2 .u64](hx:Ev l x (iv n))(hn:0<=n/\n<=1000000)(h:∀i,K (.int .u64 n) L i i Z Z):WO E X Γ l (.convert t t2 x) L K:=WO.conv (h1:=h1) (h2:=h2) (k:=.i64) hx (Ua hn) h
theorem WO.adn [h1:xM E t .u64][h2:xM E t2 .i64](hx:Ev l x (.int .u64 n))(hn:0<=n/\n<=1000000)(h:∀i,K (iv n) L i i Z Z):WO E X Γ l (.convert t t2 x) L K:=WO.conv (h1:=h1) (h2:=h2) (k:=.u64) hx (qC ⟨ag,ag⟩) h
theorem WO.aiX {m:Nat}(hx:Ev l x (.int .u64 n))(hy:Ev l y (.int .u64 1))(hq:n/ 2=(m:Int))(hn:0<=n)(h:∀i,K (.int .u64 (m:Int)) L i i Z Z):WO E X Γ l (.binOp .shr t x y t2) L K:=WO.bin hx hy (λcc=>by
 obtain⟨k,rfl⟩:=wT hn;show some (Value.int .u64 (.ofNat (Nat.shiftRight k (Da 1 (GU .u64)))))=_;have:Nat.shiftRight k (Da 1 (GU .u64))=m:=by
  show k>>> 1=m;rw[Nat.shiftRight_eq_div_pow];omega
 rw[this];rfl) h
end
theorem Ym (s:St)(n:Int):bF 101 [iv n] s [] (.bool false):=by
 refine aT f101 ?_;refine' cR;all_goals refine' ax
 all_goals(first|rfl|simp[gL])
theorem Ub (s:St)(a b:Int):bF 66 [iv a,iv b] s [] (iv (MG a b)):=by
 refine aT f66 ?_;(repeat' (first|refine' aW|((with_reducible apply WO.aV);exact aC;exact λs=>Ym s _;intros)|refine' av|fail));all_goals try refine cj
 all_goals refine' ax
 all_goals(simp only[gL];unfold MG)
 all_goals first|rfl|(rw[if_pos aL])|(rw[if_neg ag,if_pos ag])|(rw[if_neg ag,if_neg ag])
theorem HV (s:St)(x:bP)(k:Int):bF 65 [.agg ⟨ak.cells x⟩,iv k] s [] (iv (MG x.id k)):=by
 refine aT f65 ?_;(repeat' (first|refine' aW|((with_reducible apply WO.aV);exact aC;exact λs=>Ub s _ _;intros)|refine' av|fail));all_goals refine' ax
 all_goals rfl
theorem Uc (s:St)(a b:az):bF 81 [sv a,sv b] s [] (iv (Ev.AJ a b)):=λh1 h2 h3=>oY.aaF (fn:=f81) cV (s':=s) (v:=iv (Ev.AJ a b)) (λk=>rfl) ⟨[],⟨λ_ _ _=>rfl,cG _,λx hx=>(by cases hx),λx hx=>(by cases hx),yG,λb hb=>.inl hb,λb hb=>.inl hb,λb hb=>.inl hb,λb hb=>.inl hb⟩,rfl,rfl⟩
theorem PL (s:St)(a b:az):bF 44 [sv a,sv b] s [] (iv (Ev.AJ a b)):=by
 refine aT f44 ?_;(repeat' (first|refine' aW|((with_reducible apply WO.aV);exact aC;exact λs=>Uc s _ _;intros)|refine' av|fail));all_goals refine' ax
 all_goals rfl
theorem MH (s:St)(x:a7)(z:az):bF 43 [.agg ⟨ak.cells x⟩,sv z] s [] (iv (Ev.AJ x.af z)):=by
 refine aT f43 ?_;(repeat' (first|refine' aW|((with_reducible apply WO.aV);exact aC;exact λs=>PL s _ _;intros)|refine' av|fail));all_goals refine' ax
 all_goals rfl
theorem aeD (s:St)(a:aM)(c:Nat)(q:fg)(hs:gU q)(hq:q.length<=1000)(k:Int)(hr:bH s a q.length 3 (ai q)):bF 64 [.slice a q.length c,iv k,.func (.func 65) ⟨[]⟩ ⟨[]⟩] s (aj a) (.tuple ⟨[iv (Cl q k:Int),.bool (decide (Cl q k<q.length/\(q.getD (Cl q k) ak.ah).id=k))]⟩):=by
 have ru:=Rd.of (A:=aj a) hr λ_ hb=>hb
 have hle:=ae7 q k;refine aT f64 ?_;refine' cR
 refine W.bN (λm l L=>∃(i j:Nat),Le [(0,.slice a q.length c),(1,iv k),(2,.func (.func 65) ⟨[]⟩ ⟨[]⟩),(8,iv (q.length:Int)),(9,iv (i:Int)),(10,iv (j:Int))] l/\cC [] L/\m=j-i/\i<=Cl q k/\Cl q k<=j/\j<=q.length)
  (λl L=>Le [(0,.slice a q.length c),(1,iv k),(2,.func (.func 65) ⟨[]⟩ ⟨[]⟩),(8,iv (q.length:Int)),(9,iv (Cl q k:Int))] l/\cC [] L) _ ⟨0,q.length,bj,ar,rfl,ag,hle,cG _⟩ ?_ ?_
 .rintro m l L ⟨i,j,hl,hL,rfl,h1,h2,h3⟩;refine W.le ?_ hl hL;clear hl hL;by_cases nD:i<j
  .obtain⟨h,hq2,h4,h5⟩:∃h:Nat,((i:Int)+(j:Int))/ 2=(h:Int)/\i<=h/\h<j:=⟨(i+j)/ 2,ag,ag,ag⟩;have CP:=CN hs k ak.ah (h:=h) ag;have vN:=abv (a:=(q.getD h ak.ah).id) (b:=k);(repeat' (first|refine' aW|refine' uA|((with_reducible apply WO.aV);exact aC;exact λs=>HV s _ _;intros)|((with_reducible apply WO.adm);exact gT;exact mH;intro _)|((with_reducible apply WO.adn);exact gT;exact mH;intro _)|((with_reducible apply WO.aiX);exact gT;exact gT;assumption;exact mH;intro _)|refine' av|fail))
   all_goals try refine cj
   .exact⟨_,ag,h+1,j,bj,ar,rfl,ag,ag,ag⟩
   .exact⟨_,ag,i,h,bj,ar,rfl,ag,ag,ag⟩
  .have hi:i=Cl q k:=by omega
   subst hi;refine' cR;(all_goals try refine cj);all_goals exact⟨bj,ar⟩
 .rintro l L ⟨hl,hL⟩;refine aq ?_;refine W.le ?_ hl hL;clear hl hL;have vN:=abw (a:=(q.getD (Cl q k) ak.ah).id) (b:=k);(repeat' (first|refine' aW|refine' uA|((with_reducible apply WO.aV);exact aC;exact λs=>HV s _ _;intros)|refine' av|fail))
  ·(refine' ax)
   (have h1:Cl q k<q.length:=by omega);show Value.tuple ⟨[iv (Cl q k:Int),.bool (decide (MG (q.getD (Cl q k) ak.ah).id k=0))]⟩=_;refine ep (λb=>Value.tuple ⟨[_,.bool b]⟩) ?_;rw[C5];exact⟨λh=>⟨h1,vN.1 h⟩,λh=>vN.2 h.2⟩
  ·(refine' ax)
   (have h1:¬Cl q k<q.length:=by omega);exact ep (λb=>Value.tuple ⟨[_,.bool b]⟩) (eI (λh=>h1 h.1)).symm
theorem aeE (s:St)(a:aM)(c:Nat)(q:List a7)(hs:kM q)(hq:q.length<=1000)(k:az)(hr:bH s a q.length 2 (ai q)):bF 42 [.slice a q.length c,sv k,.func (.func 43) ⟨[]⟩ ⟨[]⟩] s (aj a) (.tuple ⟨[iv (Cm q k:Int),.bool (decide (Cm q k<q.length/\(q.getD (Cm q k) ak.ah).af=k))]⟩):=by
 have ru:=Rd.of (A:=aj a) hr λ_ hb=>hb
 have hle:=ae8 q k;refine aT f42 ?_;refine' cR
 refine W.bN (λm l L=>∃(i j:Nat),Le [(0,.slice a q.length c),(1,sv k),(2,.func (.func 43) ⟨[]⟩ ⟨[]⟩),(8,iv (q.length:Int)),(9,iv (i:Int)),(10,iv (j:Int))] l/\cC [] L/\m=j-i/\i<=Cm q k/\Cm q k<=j/\j<=q.length)
  (λl L=>Le [(0,.slice a q.length c),(1,sv k),(2,.func (.func 43) ⟨[]⟩ ⟨[]⟩),(8,iv (q.length:Int)),(9,iv (Cm q k:Int))] l/\cC [] L) _ ⟨0,q.length,bj,ar,rfl,ag,hle,cG _⟩ ?_ ?_
 .rintro m l L ⟨i,j,hl,hL,rfl,h1,h2,h3⟩;refine W.le ?_ hl hL;clear hl hL;by_cases nD:i<j
  .obtain⟨h,hq2,h4,h5⟩:∃h:Nat,((i:Int)+(j:Int))/ 2=(h:Int)/\i<=h/\h<j:=⟨(i+j)/ 2,ag,ag,ag⟩;have CP:=(abx (a:=(q.getD h ak.ah).af) (b:=k)).trans (CO hs k ak.ah (h:=h) ag);(repeat' (first|refine' aW|refine' uA|((with_reducible apply WO.aV);exact aC;exact λs=>MH s _ _;intros)|((with_reducible apply WO.adm);exact gT;exact mH;intro _)|((with_reducible apply WO.adn);exact gT;exact mH;intro _)|((with_reducible apply WO.aiX);exact gT;exact gT;assumption;exact mH;intro _)|refine' av|fail))
   all_goals try refine cj
   .exact⟨_,ag,h+1,j,bj,ar,rfl,ag,ag,ag⟩
   .exact⟨_,ag,i,h,bj,ar,rfl,ag,ag,ag⟩
  .have hi:i=Cm q k:=by omega
   subst hi;refine' cR;(all_goals try refine cj);all_goals exact⟨bj,ar⟩
 .rintro l L ⟨hl,hL⟩;refine aq ?_;refine W.le ?_ hl hL;clear hl hL;have vN:=aby (a:=(q.getD (Cm q k) ak.ah).af) (b:=k);(repeat' (first|refine' aW|refine' uA|((with_reducible apply WO.aV);exact aC;exact λs=>MH s _ _;intros)|refine' av|fail))
  ·(refine' ax)
   (have h1:Cm q k<q.length:=by omega);show Value.tuple ⟨[iv (Cm q k:Int),.bool (decide (Ev.AJ (q.getD (Cm q k) ak.ah).af k=0))]⟩=_;refine ep (λb=>Value.tuple ⟨[_,.bool b]⟩) ?_;rw[C5];exact⟨λh=>⟨h1,vN.1 h⟩,λh=>vN.2 h.2⟩
  ·(refine' ax)
   (have h1:¬Cm q k<q.length:=by omega);exact ep (λb=>Value.tuple ⟨[_,.bool b]⟩) (eI (λh=>h1 h.1)).symm
theorem TF (s:St)(a b c:Int):bF 29 [iv a,iv b,iv c] s [] (.bool (fV a b c)):=by
 refine aT f29 ?_;refine' cR;all_goals refine' ax
 .show Value.bool (decide (a<=c))= .bool (fV a b c);unfold fV;simp[ur]
 .show Value.bool false= .bool (fV a b c);unfold fV;simp;omega
def oI:Option Nat->Int
 |none=>-1
 |some k=>(k:Int)
def dQ:az->Option Nat
 |[]=>none
 |c::s=>match dQ s with
  |some i=>some (i+1)
  |none=>if c=47 then some 0 else none
theorem vt:∀z:az,(∀j,j<z.length->z.getD j 0≠47)->dQ z=none
 |[],_=>rfl
 |c::z,h=>by
  unfold dQ;rw[vt z λj hj=>by have:=h (j+1) (by simpa using hj);simpa using this];have:=h 0 ay;exact if_neg (by simpa using this)
theorem BQ:∀(z:az)(i:Nat),i<z.length->z.getD i 0=47->(∀j,i<j->j<z.length->z.getD j 0≠47)->dQ z=some i
 |[],i,h,_,_=>by simp at h
 |c::z,0,_,h1,h2=>by
  unfold dQ;rw[vt z λj hj=>by have:=h2 (j+1) ag (by simpa using hj);simpa using this];exact if_pos (by simpa using h1)
 |c::z,i+1,h,h1,h2=>by
  unfold dQ;rw[BQ z i (by simpa using h) (by simpa using h1) λj hj S6=>by have:=h2 (j+1) ag (by simpa using S6);simpa using this]
theorem qc:∀(z:az)(i:Nat),dQ z=some i->i<z.length
 |[],i,h=>by cases h
 |c::z,i,h=>by
  unfold dQ at h;split at h
  .rename_i j hj;have:=qc z j hj;cases h
   simpa using this
  .split at h
   .cases h;simp
   .cases h
theorem MI (s:St)(z:az)(hz:z.length<=100000):bF 102 [sv z,.int .u8 47] s [] (iv (oI (dQ z))):=by
 refine aT f102 ?_;refine' cR
 refine W.bN (λm l L=>∃(i:Int),Le [(0,sv z),(1,.int .u8 47),(5,iv i)] l/\cC [] L/\m=(i+1).toNat/\ -1<=i/\i<z.length/\∀j:Nat,i<j->j<z.length->z.getD j 0≠47)
  (λl L=>Le [] l/\cC [] L/\dQ z=none) _ ⟨(z.length:Int)-1,bj,ar,rfl,ag,ag,λj h1 h2=>by omega⟩ ?_ ?_
 .rintro m l L ⟨i,hl,hL,rfl,h1,h2,h3⟩;refine W.le ?_ hl hL;clear hl hL;refine' cR
  .have e:dQ z=some i.toNat:=BQ z i.toNat ag (uJ.1 (by show _=47;omega)) λj hj S6=>h3 j ag S6
   refine' ax;show iv i=_;rw[e];show iv i=iv ((i.toNat:Nat):Int);rw[yF ag]
  .refine⟨_,ag,i-1,bj,ar,rfl,ag,ag,λj hj S6=>?_⟩;by_cases uH:(j:Int)=i
   .have:i.toNat=j:=by omega
    rw[this] at j8;intro he;rw[he] at j8;exact j8 rfl
   .exact h3 j ag S6
  .exact⟨bj,ar,vt z λj hj=>h3 j ag hj⟩
 .rintro l L ⟨hl,hL,h3⟩;refine aq ?_;refine W.le ?_ hl hL;clear hl hL;rw[h3];refine' cR
  all_goals refine' ax
  all_goals rfl
theorem PM (s:St)(z:az)(hz:z.length<=100000):bF 67 [sv z,.int .u8 47] s [] (iv (oI (dQ z))):=by
 refine aT f67 ?_;(repeat' (first|refine' aW|((with_reducible apply WO.aV);exact aC;exact λs=>MI s _ ag;intros)|refine' av|fail));all_goals refine' ax
 all_goals rfl
def aw (z:az):az×az:=match dQ z with
 |none=>([],[])
 |some i=>(z.take (max i 1),z.drop (i+1))
theorem Xi (s:St)(z:az)(hz:z.length<=100000):bF 31 [sv z] s [] (.tuple ⟨[sv (aw z).1,sv (aw z).2]⟩):=by
 have Hy:∀s,bF 67 [sv z,.int .u8 47] s [] (iv (oI (dQ z))):=λs=>PM s z hz
 unfold aw;cases h:dQ z with
 |none=>
  rw[h] at Hy;have Hy:∀s,bF 67 [sv z,.int .u8 47] s [] (iv (-1)):=Hy;refine aT f31 ?_;(repeat' (first|refine' aW|((with_reducible apply WO.aV);exact aC;exact λs=>Hy s;intros)|refine' av|fail));all_goals try refine cj
  all_goals refine' ax
  all_goals rfl
 |some i=>
  rw[h] at Hy;have Hy:∀s,bF 67 [sv z,.int .u8 47] s [] (iv (i:Int)):=Hy;have dG:=qc z i h;refine aT f31 ?_;(repeat' (first|refine' aW|((with_reducible apply WO.aV);exact aC;exact λs=>Hy s;intros)|refine' av|fail));all_goals try refine cj
  all_goals refine' ax
  all_goals(show Value.tuple ⟨[sv (z.take (max (i:Int) 1).toNat),sv (z.drop ((i:Int)+1).toNat)]⟩=_;rw[show(max (i:Int) 1).toNat=max i 1 by omega,show((i:Int)+1).toNat=i+1 by omega])
end Go.Pl
namespace Go.Pl
open Go.Lg
abbrev cy:a7:=ak.ah (α:=a7)
abbrev eS:bP:=ak.ah (α:=bP)
structure Acc where
 li:List (Int×Int)
 nF:List (az×Int)
 fo:List (az×Bool)
def tB (q:fg)(i:Nat):Bool:=fV (q.getD i eS).id 0 15&&!(decide (0<i)&&decide ((q.getD i eS).id<=(q.getD (i-1) eS).id))&&!((q.getD i eS).aJ&&decide ((q.getD i eS).bq≠[]))&&!decide (192<(q.getD i eS).bq.length)
def vu (x:a7)(fo:Bool)(A:Acc):Option Acc:=
 if 9<(dz (eB A.li x.id ((dz A.li x.id).getD 0+1)) x.id).getD 0\/(fo=true/\1<(dz (eB A.li x.id ((dz A.li x.id).getD 0+1)) x.id).getD 0) then none else some ⟨eB A.li x.id ((dz A.li x.id).getD 0+1),A.nF,eB A.fo x.af fo⟩
def iIn (x:a7)(A:Acc):Option Acc:=
 if(dz A.fo (aw x.af).1).getD false=false\/aU (aw x.af).2=false then none else
 if 12<(dz (eB A.nF (aw x.af).1 ((dz A.nF (aw x.af).1).getD 0+1)) (aw x.af).1).getD 0 then none else some ⟨A.li,eB A.nF (aw x.af).1 ((dz A.nF (aw x.af).1).getD 0+1),A.fo⟩
def iA (p:List a7)(q:fg)(i:Nat)(A:Acc):Option Acc:=match ot q (p.getD i cy).id with
 |none=>none
 |some t=>
  if 0<i/\bS (p.getD (i-1) cy).af (p.getD i cy).af=false then none else
  match if 0<i then iIn (p.getD i cy) A else some A with
  |none=>none
  |some A=>vu (p.getD i cy) (q.getD t eS).aJ A
def Yn (p:List a7)(q:fg):Nat->Nat->Acc->Option Acc
 |0,_,A=>some A
 |n+1,i,A=>match iA p q i A with
  |none=>none
  |some A=>Yn p q n (i+1) A
def RL (f:Flat):Bool:=fV f.ae.length 1 16&&decide (f.ad.length≠0)&&decide (f.ad.getD 0 cy=⟨[47],0⟩)&&(List.range f.ae.length).all (tB f.ae)&&decide ((f.ae.getD 0 eS).id=0)&&(f.ae.getD 0 eS).aJ&&match Yn f.ad f.ae f.ad.length 0 ⟨[],[],[]⟩ with
 |none=>false
 |some A=>decide (A.li.length=f.ae.length)
theorem wb {q:fg}(h:∀i,i<q.length->tB q i=true):gU q:=by
 have h1:∀i,i+1<q.length->(q.getD i eS).id<(q.getD (i+1) eS).id:=λi hi=>by
  have:=h (i+1) hi;unfold tB at this;simp at this;have:=this.1.1.2;simp;omega
 have h2:∀n i,i+n+1<q.length->(q.getD i eS).id<(q.getD (i+n+1) eS).id:=λn=>by
  induction n with
  |zero=>exact h1
  |succ n ih=>exact λi hi=>Int.lt_trans (ih i ag) (h1 (i+n+1) hi)
 refine uj.2 λi j hi hj nD=>?_
 have:=h2 (j-i-1) i ag;rw[show i+(j-i-1)+1=j by omega,aZ,bd hi,aZ,bd hj] at this;exact this
theorem ga (z:az):∀c∈(aw z).2,c∈z:=λc hc=>by
 unfold aw at hc;split at hc
 .cases hc
 .exact List.mem_of_mem_drop hc
variable {κ ν:Type}
section
variable [DecidableEq κ]
theorem zF:∀(m:List (κ×ν))(k:κ),(dz m k).isSome=true↔k∈m.map Prod.fst
 |[],k=>by simp[dz]
 |p::m,k=>by
  unfold dz;rw[wO,bT];by_cases h:k=p.1
  .rw[if_pos h];simp[h]
  .rw[if_neg h,zF m k];simp[h]
theorem HW:∀(m:List (κ×ν))(k:κ)(v:ν),(eB m k v).map Prod.fst=if(dz m k).isSome then m.map Prod.fst else m.map Prod.fst++[k]
 |[],k,v=>rfl
 |p::m,k,v=>by
  unfold eB dz;by_cases h:k=p.1
  .rw[if_pos h,if_pos h];simp[h]
  .rw[if_neg h,if_neg h,wO,HW m k v];split<;>simp
theorem PN (m:List (κ×ν))(k:κ)(v:ν)(h:(m.map Prod.fst).Nodup):((eB m k v).map Prod.fst).Nodup:=by
 rw[HW];split
 .exact h
 .rename_i hk;rw[rh];refine⟨h,ay,λa ha b hb e=>?_⟩;rw[ix] at hb;subst hb;subst e;exact hk ((zF m a).2 ha)
end
def tV (p:List a7)(q:fg)(k:Nat):Bool:=match ot q (p.getD k cy).id with
 |none=>false
 |some t=>(q.getD t eS).aJ
def cN (p:List a7)(i:Nat)(z:az):Nat:=(List.range i).countP λj=>decide (1<=j)&&decide ((aw (p.getD j cy).af).1=z)
def cL (p:List a7)(i:Nat)(n:Int):Nat:=(List.range i).countP λj=>decide ((p.getD j cy).id=n)
theorem tW (p:List a7)(i:Nat)(n:Int):cL p (i+1) n=cL p i n+if(p.getD i cy).id=n then 1 else 0:=by unfold cL;rw[Bo,Bp,List.countP_singleton];simp
theorem zG (p:List a7)(i:Nat)(z:az):cN p (i+1) z=cN p i z+if 1<=i/\(aw (p.getD i cy).af).1=z then 1 else 0:=by unfold cN;rw[Bo,Bp,List.countP_singleton];simp
def Yo (p:List a7)(q:fg)(i:Nat):Prop:=
 (ot q (p.getD i cy).id).isSome=true/\(1<=i->bS (p.getD (i-1) cy).af (p.getD i cy).af=true/\(∃k,k<i/\(p.getD k cy).af=(aw (p.getD i cy).af).1/\tV p q k=true)/\aU (aw (p.getD i cy).af).2=true/\cN p (i+1) (aw (p.getD i cy).af).1<=12)/\cL p (i+1) (p.getD i cy).id<=9/\(tV p q i=true->cL p (i+1) (p.getD i cy).id<=1)
structure zH (p:List a7)(q:fg)(i:Nat)(A:Acc):Prop where
 li:∀n,(dz A.li n).getD 0=(cL p i n:Int)
 lk:∀n,n∈A.li.map Prod.fst↔∃j,j<i/\(p.getD j cy).id=n
 ln:(A.li.map Prod.fst).Nodup
 nF:∀z,(dz A.nF z).getD 0=(cN p i z:Int)
 fo:∀z,(dz A.fo z).getD false=true↔∃k,k<i/\(p.getD k cy).af=z/\tV p q k=true
 so:∀j,1<=j->j<i->bS (p.getD (j-1) cy).af (p.getD j cy).af=true
theorem Yp {p:List a7}{i:Nat}(h:∀j,1<=j->j<i->bS (p.getD (j-1) cy).af (p.getD j cy).af=true):∀(n a:Nat),a+n+1<i->bS (p.getD a cy).af (p.getD (a+n+1) cy).af=true
 |0,a,hl=>h (a+1) ag hl
 |n+1,a,hl=>fe _ _ _ (Yp h n a ag) (h (a+n+2) ag hl)
theorem ado {p:List a7}{i:Nat}(h:∀j,1<=j->j<i->bS (p.getD (j-1) cy).af (p.getD j cy).af=true){a b:Nat}(lV:a<b)(hb:b<i):(p.getD a cy).af≠(p.getD b cy).af:=by have:=Yp h (b-a-1) a ag;rw[show a+(b-a-1)+1=b by omega] at this;exact np this
theorem PO {p:List a7}{q:fg}{i:Nat}{A:Acc}{t:Nat}(ht:ot q (p.getD i cy).id=some t)(hli:∀n,(dz A.li n).getD 0=(cL p i n:Int)):
  vu (p.getD i cy) (q.getD t eS).aJ A=if cL p (i+1) (p.getD i cy).id<=9/\(tV p q i=true->cL p (i+1) (p.getD i cy).id<=1) then some ⟨eB A.li (p.getD i cy).id (cL p (i+1) (p.getD i cy).id:Int),A.nF,eB A.fo (p.getD i cy).af (tV p q i)⟩ else none:=by
 have hfb:tV p q i=(q.getD t eS).aJ:=by unfold tV;rw[ht]
 have hc:(dz A.li (p.getD i cy).id).getD 0+1=(cL p (i+1) (p.getD i cy).id:Int):=by rw[hli,tW,if_pos rfl];omega
 unfold vu;rw[hc,og,if_pos rfl,<-hfb];show(if 9<(cL p (i+1) (p.getD i cy).id:Int)\/_ then _ else _)=_;by_cases h:cL p (i+1) (p.getD i cy).id<=9/\(tV p q i=true->cL p (i+1) (p.getD i cy).id<=1)
 .rw[if_pos h,if_neg];rintro(h1|⟨h1,h2⟩)
  .have:=h.1;omega
  .have h2:(1:Int)<(cL p (i+1) (p.getD i cy).id:Int):=h2;have:=h.2 h1;omega
 .rw[if_neg h,if_pos];refine lP λhn=>h ⟨?_,λhf=>?_⟩
  .refine lP λh9=>hn (.inl ag)
  .refine lP λh9=>hn (.inr ⟨hf,?_⟩)
   show(1:Int)<(cL p (i+1) (p.getD i cy).id:Int);omega
theorem HX {p:List a7}{q:fg}{i:Nat}{A:Acc}{nF:List (az×Int)}(h:zH p q i A)(alT:∀z,(dz nF z).getD 0=(cN p (i+1) z:Int))(Xo:1<=i->bS (p.getD (i-1) cy).af (p.getD i cy).af=true):
  zH p q (i+1) ⟨eB A.li (p.getD i cy).id (cL p (i+1) (p.getD i cy).id:Int),nF,eB A.fo (p.getD i cy).af (tV p q i)⟩:=by
 have aiY:∀j,1<=j->j<i+1->bS (p.getD (j-1) cy).af (p.getD j cy).af=true:=λj h1 h2=>by
  by_cases hj:j=i
  .subst hj;exact Xo h1
  .exact h.so j h1 ag
 refine⟨λn=>?_,λn=>?_,PN _ _ _ h.ln,alT,λz=>?_,aiY⟩
 .show(dz (eB A.li _ _) n).getD 0=_;rw[og];by_cases hn:n=(p.getD i cy).id
  .rw[if_pos hn,hn];rfl
  .rw[if_neg hn,h.li,tW,if_neg (λe=>hn e.symm)];rfl
 .show n∈(eB A.li _ _).map Prod.fst↔_;rw[<-zF,og];by_cases hn:n=(p.getD i cy).id
  .rw[if_pos hn];exact⟨λ_=>⟨i,ag,hn.symm⟩,λ_=>rfl⟩
  .rw[if_neg hn,zF,h.lk];constructor
   .rintro⟨j,h1,h2⟩;exact⟨j,ag,h2⟩
   .rintro⟨j,h1,h2⟩;by_cases hj:j=i
    .subst hj;exact absurd h2.symm hn
    .exact⟨j,ag,h2⟩
 .show(dz (eB A.fo _ _) z).getD false=true↔_;rw[og];by_cases hz:z=(p.getD i cy).af
  .rw[if_pos hz];constructor
   .intro hf;exact⟨i,ag,hz.symm,hf⟩
   .rintro⟨k,h1,h2,h3⟩;by_cases hk:k=i
    .subst hk;exact h3
    .exact absurd (h2.trans hz) (ado aiY (show k<i by omega) ag)
  .rw[if_neg hz,h.fo];constructor
   .rintro⟨k,h1,h2⟩;exact⟨k,ag,h2⟩
   .rintro⟨k,h1,h2,h3⟩;by_cases hk:k=i
    .subst hk;exact absurd h2.symm hz
    .exact⟨k,ag,h2,h3⟩
theorem MJ {p:List a7}{q:fg}{i:Nat}{A:Acc}(h:zH p q i A):
  (Yo p q i->∃A',iA p q i A=some A'/\zH p q (i+1) A')/\(¬Yo p q i->iA p q i A=none):=by
 unfold iA;cases ht:ot q (p.getD i cy).id with
 |none=>exact⟨λhc=>(by have:=hc.1;rw[ht] at this;cases this),λ_=>rfl⟩
 |some t=>
  dsimp only;have MK:=λ(nF:List (az×Int))=>PO (A:=⟨A.li,nF,A.fo⟩) ht h.li
  by_cases hi:0<i
  .by_cases dG:bS (p.getD (i-1) cy).af (p.getD i cy).af=true
   .rw[if_neg (λe=>by rw[dG] at e;cases e.2),if_pos hi];unfold iIn;have hc:(dz A.nF (aw (p.getD i cy).af).1).getD 0+1=(cN p (i+1) (aw (p.getD i cy).af).1:Int):=by rw[h.nF,zG,if_pos ⟨hi,rfl⟩];omega
    rw[hc];by_cases h1:(dz A.fo (aw (p.getD i cy).af).1).getD false=false\/aU (aw (p.getD i cy).af).2=false
    .rw[if_pos h1];refine⟨λhn=>?_,λ_=>rfl⟩;obtain⟨_,hk,nN,_⟩:=hn.2.1 hi;rcases h1 with h1|h1
     .rw[(h.fo _).2 hk] at h1;cases h1
     .rw[nN] at h1;cases h1
    .rw[if_neg h1,og,if_pos rfl];have hk:=(h.fo (aw (p.getD i cy).af).1).1 (by cases hb:(dz A.fo (aw (p.getD i cy).af).1).getD false with|true=>rfl|false=>exact absurd (.inl hb) h1);have nN:aU (aw (p.getD i cy).af).2=true:=by cases hb:aU (aw (p.getD i cy).af).2 with|true=>rfl|false=>exact absurd (.inr hb) h1
     simp only[qj];by_cases AD:cN p (i+1) (aw (p.getD i cy).af).1<=12
     .rw[if_neg ag];dsimp only;rw[MK];by_cases hl:cL p (i+1) (p.getD i cy).id<=9/\(tV p q i=true->cL p (i+1) (p.getD i cy).id<=1)
      .rw[if_pos hl];refine⟨λ_=>⟨_,rfl,HX (A:=A) h (λz=>?_) λ_=>dG⟩,λhn=>absurd ⟨by rw[ht];rfl,λ_=>⟨dG,hk,nN,AD⟩,hl⟩ hn⟩;rw[og];by_cases hz:z=(aw (p.getD i cy).af).1
       .rw[if_pos hz,hz];rfl
       .rw[if_neg hz,h.nF,zG,if_neg (λe=>hz e.2.symm)];rfl
      .rw[if_neg hl];exact⟨λhn=>absurd hn.2.2 hl,λ_=>rfl⟩
     .rw[if_pos ag];exact⟨λhn=>absurd (hn.2.1 hi).2.2.2 AD,λ_=>rfl⟩
   .rw[if_pos ⟨hi,by simpa using dG⟩];exact⟨λhn=>absurd (hn.2.1 hi).1 dG,λ_=>rfl⟩
  .rw[if_neg (λe=>hi e.1),if_neg hi];dsimp only;rw[MK];by_cases hl:cL p (i+1) (p.getD i cy).id<=9/\(tV p q i=true->cL p (i+1) (p.getD i cy).id<=1)
   .rw[if_pos hl];refine⟨λ_=>⟨_,rfl,HX h (λz=>?_) λe=>absurd e hi⟩,λhn=>absurd ⟨by rw[ht];rfl,λe=>absurd e hi,hl⟩ hn⟩;rw[h.nF,zG,if_neg (λe=>hi e.1)];rfl
   .rw[if_neg hl];exact⟨λhn=>absurd hn.2.2 hl,λ_=>rfl⟩
theorem Yq {p:List a7}{q:fg}:∀(n i:Nat)(A:Acc),zH p q i A->
  ((∀j,i<=j->j<i+n->Yo p q j)->∃A',Yn p q n i A=some A'/\zH p q (i+n) A')/\((∃j,i<=j/\j<i+n/\¬Yo p q j)->Yn p q n i A=none)
 |0,i,A,h=>⟨λ_=>⟨A,rfl,h⟩,λ⟨j,h1,h2,_⟩=>by omega⟩
 |n+1,i,A,h=>by
  have hs:=MJ h;unfold Yn;by_cases hc:Yo p q i
  .obtain⟨A',h1,h2⟩:=hs.1 hc;rw[h1];have ih:=Yq n (i+1) A' h2;refine⟨λbV=>?_,λ⟨j,h3,h4,h5⟩=>ih.2 ⟨j,?_,ag,h5⟩⟩
   .obtain⟨A'',h3,h4⟩:=ih.1 λj h3 h4=>bV j ag ag
    exact⟨A'',h3,by rw[show i+(n+1)=i+1+n by omega];exact h4⟩
   .by_cases hj:j=i
    .subst hj;exact absurd hc h5
    .omega
  .rw[hs.2 hc];exact⟨λbV=>absurd (bV i (cG _) ag) hc,λ_=>rfl⟩
theorem Yr (p:List a7)(q:fg):zH p q 0 ⟨[],[],[]⟩:=
 ⟨λn=>rfl,λn=>⟨λh=>(by cases h),λ⟨j,h,_⟩=>ag⟩,yG,λz=>rfl,λz=>⟨λh=>(by cases h),λ⟨j,h,_⟩=>ag⟩,λj h1 h2=>by omega⟩
variable {s:az}{j i B t:Nat}{n:Int}{q:fg}{f:Flat}
def vv (z:az):Prop:=z.take 2=[47,47]->z.length=2
theorem EJ:∀(s:az)(i a:Nat),tK i a s=match dQ s with
  |none=>a
  |some j=>i+j
 |[],i,a=>rfl
 |c::s,i,a=>by
  unfold tK dQ;rw[EJ s];cases dQ s with
  |some j=>show i+1+j=i+(j+1);omega
  |none=>
   by_cases h:c=47
   .rw[if_pos h,if_pos h];rfl
   .rw[if_neg h,if_neg h]
theorem wc:∀(z:az)(i:Nat),dQ z=some i->z.getD i 0=47
 |[],i,h=>by cases h
 |c::z,i,h=>by
  unfold dQ at h;split at h
  .rename_i j hj;cases h
   rw[Bn];exact wc z j hj
  .split at h
   .rename_i hc;cases h;simpa using hc
   .cases h
theorem AZ:∀(z:az),dQ z=none->∀c∈z,c≠47
 |[],_,c,hc=>by cases hc
 |x::z,h,c,hc=>by
  unfold dQ at h;split at h
  .cases h
  .rename_i hz;split at h
   .cases h
   .rename_i hx;rcases bT.1 hc with rfl|hc
    .exact hx
    .exact AZ z hz c hc
theorem ML (h:dQ s=some j):aR s=aw s:=by
 have hl:=qc s j h;have hs:tL s=j:=by unfold tL;rw[EJ,h];simp
 have HP:=wc s j h;unfold aR aw;rw[hs,h];by_cases hj:j=0
 .subst hj;rw[if_pos rfl];cases s with
  |nil=>simp at hl
  |cons c s=>
   (have:c=47:=by simpa using HP);subst this;simp
 .rw[if_neg hj];simp[Nat.max_eq_left (show 1<=j by omega)]
def HY (r:az×az):az:=if r.1=[47] then 47::r.2 else r.1++47::r.2
theorem Ys (hn:vv s):(HY (aR s)=s/\aU (aR s).2=true)↔aU (aw s).2=true:=by
 cases h:dQ s with
 |none=>
  have ha:aw s=([],[]):=by unfold aw;rw[h]
  rw[ha];refine⟨λ⟨h1,_⟩=>?_,λh1=>by cases h1⟩;exfalso;have hm:(47:UInt8)∈s:=by
   rw[<-h1];unfold HY;split<;>simp
  exact AZ s h 47 hm rfl
 |some j=>
  rw[ML h];have hl:=qc s j h;have HP:=wc s j h;have ni:s.take j++47::s.drop (j+1)=s:=by
   rw[aZ,bd hl] at HP;have HP:s[j]=47:=HP;rw[<-HP,<-ui hl,yD]
  refine⟨λh1=>h1.2,λh1=>⟨?_,h1⟩⟩;by_cases hj:j=0
  .subst hj;have ha:aw s=([47],s.drop 1):=by
    unfold aw;rw[h];cases s with
    |nil=>simp at hl
    |cons c s=>
     (have:c=47:=by simpa using HP);subst this;rfl
   rw[ha];unfold HY;rw[if_pos rfl];simpa using ni
  .have ha:aw s=(s.take j,s.drop (j+1)):=by
    unfold aw;rw[h];show(s.take (max j 1),_)=_;rw[Nat.max_eq_left (show 1<=j by omega)]
   rw[ha] at h1⊢;unfold HY;dsimp only at h1⊢;by_cases hb:s.take j=[47]
   .exfalso;have hj1:j=1:=by
     have:=ep List.length hb;rw[cW] at this;simp at this;omega
    subst hj1;have h2:s.take 2=[47,47]:=by
     rw[<-ni,hb];rfl
    have cX:=hn h2;have:s.drop (1+1)=[]:=yE ag;rw[this] at h1;cases h1
   .rw[if_neg hb];exact ni
theorem pU (h:aU (aw s).2=true):aR s=aw s:=by
 cases hl:dQ s with
 |none=>unfold aw at h;rw[hl] at h;cases h
 |some j=>exact ML hl
theorem qd {α:Type}(P:α->Bool)(d:α):∀l:List α,(List.range l.length).countP (λj=>P (l.getD j d))=l.countP P
 |[]=>rfl
 |x::l=>by
  rw[cY,List.range_succ_eq_map,iH,List.countP_map,iH,<-qd P d l];rfl
theorem Yt {α:Type}(P:α->Bool)(d:α)(l:List α):(List.range l.length).countP (λj=>decide (1<=j)&&P (l.getD j d))=l.tail.countP P:=by
 cases l with
 |nil=>rfl
 |cons x l=>
  rw[cY,List.range_succ_eq_map,iH,List.countP_map,List.tail_cons,<-qd P d l];simp[Function.comp_def]
theorem PQ (f:Flat)(n:Int):cL f.ad f.ad.length n=f.many n:=qd (λx:a7=>decide (x.id=n)) cy f.ad
theorem Yu (p:List a7)(z:az):cN p p.length z=p.tail.countP λx=>decide ((aw x.af).1=z):=Yt (λx:a7=>decide ((aw x.af).1=z)) cy p
theorem CQ (p:List a7)(n:Int)(h:i<=j):cL p i n<=cL p j n:=by
 induction j with
 |zero=>rw[show i=0 by omega];exact cG _
 |succ j ih=>
  by_cases hi:i=j+1
  .rw[hi];exact cG _
  .have:=ih ag;rw[tW];omega
theorem RM (p:List a7)(z:az)(h:i<=j):cN p i z<=cN p j z:=by
 induction j with
 |zero=>rw[show i=0 by omega];exact cG _
 |succ j ih=>
  by_cases hi:i=j+1
  .rw[hi];exact cG _
  .have:=ih ag;rw[zG];omega
theorem EK {p:List a7}:∀i,(∀j,j<i->(p.getD j cy).id=n->cL p (j+1) n<=B)->cL p i n<=B
 |0,_=>iG _
 |i+1,h=>by
  by_cases hi:(p.getD i cy).id=n
  .exact h i ag hi
  .rw[tW,if_neg hi];exact EK i λj hj=>h j ag
theorem PS {p:List a7}{z:az}:∀i,(∀j,1<=j->j<i->(aw (p.getD j cy).af).1=z->cN p (j+1) z<=B)->cN p i z<=B
 |0,_=>iG _
 |i+1,h=>by
  by_cases hi:1<=i/\(aw (p.getD i cy).af).1=z
  .exact h i hi.1 ag hi.2
  .rw[zG,if_neg hi];exact PS i λj h1 hj=>h j h1 ag
theorem Yv {p:List a7}(hj:j<i)(h:(p.getD j cy).id=n):1<=cL p i n:=by have h1:=CQ p n (show j+1<=i by omega);rw[tW,if_pos h] at h1;omega
theorem adp {p:List a7}:∀i,1<=cL p i n->∃j,j<i/\(p.getD j cy).id=n
 |0,h=>absurd h (by unfold cL;simp)
 |i+1,h=>by
  by_cases hi:(p.getD i cy).id=n
  .exact⟨i,ag,hi⟩
  .rw[tW,if_neg hi] at h;obtain⟨j,h1,h2⟩:=adp i h;exact⟨j,ag,h2⟩
structure iC (f:Flat):Prop where
 tl:fV f.ae.length 1 16=true
 t0:(f.ae.getD 0 eS).id=0
 tf:(f.ae.getD 0 eS).aJ=true
 tb:∀i,i<f.ae.length->tB f.ae i=true
 n0:f.ad.length≠0
 nr:f.ad.getD 0 cy=⟨[47],0⟩
 nm:∀i,i<f.ad.length->Yo f.ad f.ae i
 al:∀i,i<f.ae.length->∃j,j<f.ad.length/\(f.ad.getD j cy).id=(f.ae.getD i eS).id
theorem qe {α:Type}[BEq α][LawfulBEq α]:∀(xs l:List α),xs.Nodup->(∀x∈xs,x∈l)->xs.length<=l.length
 |[],l,_,_=>iG _
 |x::xs,l,h,hs=>by
  have hx:=hs x gh;have hn:=uN.1 h;have:=qe xs (l.erase x) hn.2 λy hy=>(QP (show y≠x from λe=>hn.1 (by rw[<-e];exact hy))).2 (hs y (jA _ hy))
  have hp:=GQ hx;rw[QQ hx] at this;rw[cY];omega
theorem du {α:Type}{l:List α}(d:α)(h:i<l.length):l.getD i d∈l:=by rw[aZ,bd h];exact rj h
theorem x8 (h:ot q n=some t):t<q.length/\(q.getD t eS).id=n:=by obtain⟨h1,h2,_⟩:=oO.1 h;refine⟨h1,?_⟩;rw[aZ,bd h1];simpa using h2
theorem EL (hs:gU q)(h:t<q.length):ot q (q.getD t eS).id=some t:=by
 refine lL (d:=eS) h ay λj hj e=>?_
 have:=qM hs eS hj h;rw[bQ] at e;omega
theorem RN {A:Acc}(hA:zH f.ad f.ae f.ad.length A)(hs:gU f.ae)(hn:∀i,i<f.ad.length->(ot f.ae (f.ad.getD i cy).id).isSome=true):
  A.li.length=f.ae.length↔∀i,i<f.ae.length->∃j,j<f.ad.length/\(f.ad.getD j cy).id=(f.ae.getD i eS).id:=by
 have jn:∀n∈A.li.map Prod.fst,n∈f.ae.map bP.id:=λn hm=>by
  obtain⟨j,hj,rfl⟩:=(hA.lk n).1 hm;obtain⟨t,ht⟩:=jh.1 (hn j hj);obtain⟨h1,h2⟩:=x8 ht;exact jK.2 ⟨_,du eS h1,h2⟩
 have Ch:(f.ae.map bP.id).Nodup:=by
  rw[Bq,Br];exact hs.imp λ{a b} h e=>by omega
 have hle:=qe _ _ hA.ln jn;rw[td,td] at hle;constructor
 .intro he i hi;refine lP λnN=>?_
  have hm:(f.ae.getD i eS).id∈f.ae.map bP.id:=jK.2 ⟨_,du eS hi,rfl⟩;have h2:∀n∈A.li.map Prod.fst,n∈(f.ae.map bP.id).erase (f.ae.getD i eS).id:=λn G9=>by
   refine(QP λe=>nN ?_).2 (jn n G9);obtain⟨j,hj,h3⟩:=(hA.lk n).1 G9;exact⟨j,hj,h3.trans e⟩
  have h3:=qe _ _ hA.ln h2;rw[QQ hm,td,td] at h3;omega
 .intro bV;have h2:=qe (f.ae.map bP.id) (A.li.map Prod.fst) Ch λn G9=>by
   obtain⟨x,hx,rfl⟩:=jK.1 G9;obtain⟨i,hi,rfl⟩:=iY hx;obtain⟨j,hj,h3⟩:=bV i hi;refine(hA.lk _).2 ⟨j,hj,h3.trans ?_⟩;rw[aZ,bd hi];rfl
  rw[td,td] at h2;omega
theorem wg (f:Flat):RL f=true↔iC f:=by
 unfold RL;simp only[bO,bQ,gA,lX];have hg:=Yq f.ad.length 0 ⟨[],[],[]⟩ (Yr f.ad f.ae);rw[mU] at hg;constructor
 .rintro⟨⟨⟨⟨⟨⟨h1,h2⟩,h3⟩,h4⟩,h5⟩,h6⟩,h7⟩;have bV:∀j,j<f.ad.length->Yo f.ad f.ae j:=λj hj=>lP λhn=>by
   rw[hg.2 ⟨j,ag,hj,hn⟩] at h7;cases h7
  obtain⟨A,hA1,hA2⟩:=hg.1 λj _ hj=>bV j hj
  rw[hA1] at h7;have h7:A.li.length=f.ae.length:=by simpa using h7
  exact⟨h1,h5,h6,h4,h2,h3,bV,(RN hA2 (wb h4) λi hi=>(bV i hi).1).1 h7⟩
 .intro h;obtain⟨A,hA1,hA2⟩:=hg.1 λj _ hj=>h.nm j hj
  rw[hA1];refine⟨⟨⟨⟨⟨⟨h.tl,h.n0⟩,h.nr⟩,h.tb⟩,h.t0⟩,h.tf⟩,?_⟩;simpa using(RN hA2 (wb h.tb) λi hi=>(h.nm i hi).1).2 h.al
theorem JS (f:Flat)(k:Nat):tV f.ad f.ae k=f.iu (f.ad.getD k ⟨[],0⟩).id:=by unfold tV Flat.iu;show(match f.cO (f.ad.getD k ⟨[],0⟩).id with|none=>false|some t=>(f.ae.getD t ⟨0,false,[]⟩).aJ)=_;cases f.cO (f.ad.getD k ⟨[],0⟩).id<;>rfl
theorem tX (f:Flat)(i:Nat):f.tM i=true↔tB f.ae i=true/\fV (f.many (f.ae.getD i eS).id) 1 (if(f.ae.getD i eS).aJ then 1 else 9)=true:=by unfold Flat.tM tB;show(!(!fV (f.ae.getD i eS).id 0 15||(decide (0<i)&&decide ((f.ae.getD i eS).id<=(f.ae.getD (i-1) eS).id))||((f.ae.getD i eS).aJ&&decide ((f.ae.getD i eS).bq≠[]))||decide (192<(f.ae.getD i eS).bq.length)||!fV (f.many (f.ae.getD i eS).id) 1 (if(f.ae.getD i eS).aJ then 1 else 9)))=true↔_;generalize fV (f.ae.getD i eS).id 0 15=a;generalize(decide (0<i)&&decide ((f.ae.getD i eS).id<=(f.ae.getD (i-1) eS).id))=b;generalize((f.ae.getD i eS).aJ&&decide ((f.ae.getD i eS).bq≠[]))=c;generalize decide (192<(f.ae.getD i eS).bq.length)=d;generalize fV (f.many (f.ae.getD i eS).id) 1 (if(f.ae.getD i eS).aJ then 1 else 9)=e;cases a<;>cases b<;>cases c<;>cases d<;>cases e<;>simp
theorem MM (f:Flat)(i:Nat):f.vc i=true↔∃k,f.dy (aR (f.ad.getD i cy).af).1=some k/\bS (f.ad.getD (i-1) cy).af (f.ad.getD i cy).af=true/\k<i/\HY (aR (f.ad.getD i cy).af)=(f.ad.getD i cy).af/\aU (aR (f.ad.getD i cy).af).2=true/\(f.cO (f.ad.getD i cy).id).isSome=true/\f.iu (f.ad.getD k cy).id=true/\f.nE (f.ad.getD i cy).af<=12:=by
 have e:f.vc i=(match f.dy (aR (f.ad.getD i cy).af).1 with
  |none=>false
  |some k=>bS (f.ad.getD (i-1) cy).af (f.ad.getD i cy).af&&decide (k<i)&&decide (HY (aR (f.ad.getD i cy).af)=(f.ad.getD i cy).af)&&aU (aR (f.ad.getD i cy).af).2&&(f.cO (f.ad.getD i cy).id).isSome&&f.iu (f.ad.getD k cy).id&&decide (f.nE (f.ad.getD i cy).af<=12)):=rfl
 rw[e];cases f.dy (aR (f.ad.getD i cy).af).1 with
 |none=>simp
 |some k=>simp[and_assoc]
theorem JT (hP:∀x∈f.ad,vv x.af):f.ok=true↔iC f:=by
 have hP':∀i,i<f.ad.length->vv (f.ad.getD i cy).af:=λi hi=>hP _ (du cy hi)
 have fm:f.ok=true↔(fV f.ae.length 1 16=true/\(f.ae.getD 0 eS).id=0/\(f.ae.getD 0 eS).aJ=true/\∀i,i<f.ae.length->f.tM i=true)/\f.ad≠[]/\f.ad.getD 0 cy=⟨[47],0⟩/\(∀i,i<f.ad.length->i=0\/f.vc i=true)/\f.nE [47]<=12:=by
  have e:f.ok=((fV f.ae.length 1 16&&decide ((f.ae.getD 0 eS).id=0)&&(f.ae.getD 0 eS).aJ&&(List.range f.ae.length).all f.tM)&&decide (f.ad≠[])&&decide (f.ad.getD 0 cy=⟨[47],0⟩)&&(List.range f.ad.length).all (λi=>decide (i=0)||f.vc i)&&decide (f.nE [47]<=12)):=rfl;rw[e];simp only[bO,mf,bQ,gA,lX,and_assoc]
 rw[fm];have hcN:(∀i,1<=i->i<f.ad.length->aU (aw (f.ad.getD i cy).af).2=true)->∀z,f.nE z=cN f.ad f.ad.length z:=λh z=>by
  rw[Yu];unfold Flat.nE;refine C6 λx hx=>?_
  have fY:f.ad≠[]:=λe=>by rw[e] at hx;cases hx
  obtain⟨j,hj,rfl⟩:=iY hx;rw[List.length_tail] at hj;have:=pU (h (j+1) ag ag);rw[aZ,bd ag] at this;have e:f.ad.tail[j]=f.ad[j+1]:=List.getElem_tail _;rw[e];have this:aR f.ad[j+1].af=aw f.ad[j+1].af:=this;rw[this]
 constructor
 .rintro⟨⟨h1,h2,h3,h4⟩,h5,h6,h7,h8⟩;have htb:∀i,i<f.ae.length->tB f.ae i=true:=λi hi=>((tX f i).1 (h4 i hi)).1
  have hs:=wb htb;have cX:0<f.ad.length:=nL.2 h5;have adq:0<f.ae.length:=by unfold fV at h1;simp at h1;omega
  have zI:∀i,1<=i->i<f.ad.length->∃k,f.dy (aR (f.ad.getD i cy).af).1=some k/\bS (f.ad.getD (i-1) cy).af (f.ad.getD i cy).af=true/\k<i/\aU (aw (f.ad.getD i cy).af).2=true/\aR (f.ad.getD i cy).af=aw (f.ad.getD i cy).af/\(f.cO (f.ad.getD i cy).id).isSome=true/\f.iu (f.ad.getD k cy).id=true/\f.nE (f.ad.getD i cy).af<=12:=λi hi hl=>by
   obtain⟨k,g1,g2,g3,g4,g5,g6,g7,g8⟩:=(MM f i).1 ((h7 i hl).resolve_left ag);have g9:=(Ys (hP' i hl)).1 ⟨g4,g5⟩;exact⟨k,g1,g2,g3,g9,pU g9,g6,g7,g8⟩
  have afb:=hcN λi hi hl=>(zI i hi hl).choose_spec.2.2.2.1
  have kC:∀i,i<f.ad.length->(ot f.ae (f.ad.getD i cy).id).isSome=true:=λi hl=>by
   by_cases hi:i=0
   .subst hi;rw[h6];show(ot f.ae 0).isSome=true;rw[<-h2,EL hs adq];rfl
   .exact(zI i ag hl).choose_spec.2.2.2.2.2.1
  have vw:∀i,i<f.ad.length->∀t,ot f.ae (f.ad.getD i cy).id=some t->cL f.ad (i+1) (f.ad.getD i cy).id<=if(f.ae.getD t eS).aJ then 1 else 9:=λi hl t ht=>by
   obtain⟨g1,g2⟩:=x8 ht;have:=((tX f t).1 (h4 t g1)).2;rw[g2,<-PQ] at this;have hm:=CQ f.ad (f.ad.getD i cy).id (show i+1<=f.ad.length by omega);simp only[fV,bO,bQ] at this;split<;>rename_i uu
   .rw[if_pos uu] at this;omega
   .rw[if_neg uu] at this;omega
  refine⟨h1,h2,h3,htb,ag,h6,λi hl=>⟨kC i hl,λhi=>?_,?_,λhf=>?_⟩,λt ht=>?_⟩
  .obtain⟨k,g1,g2,g3,g4,g5,g6,g7,g8⟩:=zI i hi hl;obtain⟨q1,q2,_⟩:=oO.1 g1;have q3:(f.ad.getD k cy).af=(aw (f.ad.getD i cy).af).1:=by
    rw[aZ,bd q1,<-g5];simpa using q2
   refine⟨g2,⟨k,g3,q3,by rw[JS];exact g7⟩,g4,?_⟩;refine gK (RM f.ad _ (show i+1<=f.ad.length by omega)) ?_;rw[<-afb,<-q3];by_cases hk:k=0
   .subst hk;rw[h6];exact h8
   .exact(zI k ag ag).choose_spec.2.2.2.2.2.2.2
  .obtain⟨t,ht⟩:=jh.1 (kC i hl);have:=vw i hl t ht;split at this<;>omega
  .obtain⟨t,ht⟩:=jh.1 (kC i hl);have:=vw i hl t ht;unfold tV at hf;rw[ht] at hf;rw[if_pos hf] at this;exact this
  .have:=((tX f t).1 (h4 t ht)).2;rw[<-PQ] at this;simp only[fV,bO,bQ] at this;exact adp _ ag
 .intro h;have hs:=wb h.tb;have afb:=hcN λi hi hl=>((h.nm i hl).2.1 hi).2.2.1
  have AD:∀z,f.nE z<=12:=λz=>by
   rw[afb];exact PS _ λj h1 hj hz=>by rw[<-hz];exact((h.nm j hj).2.1 h1).2.2.2
  have Xo:∀j,1<=j->j<f.ad.length->bS (f.ad.getD (j-1) cy).af (f.ad.getD j cy).af=true:=λj h1 hj=>((h.nm j hj).2.1 h1).1
  refine⟨⟨h.tl,h.t0,h.tf,λt ht=>(tX f t).2 ⟨h.tb t ht,?_⟩⟩,λe=>h.n0 (by rw[e];rfl),h.nr,λi hl=>?_,AD _⟩
  .obtain⟨j,hj,hid⟩:=h.al t ht;rw[<-PQ];have h1:=Yv hj hid;have hti:=EL hs ht;have h9:cL f.ad f.ad.length (f.ae.getD t eS).id<=9:=EK _ λj hj hid=>by rw[<-hid];exact(h.nm j hj).2.2.1
   have hf:(f.ae.getD t eS).aJ=true->cL f.ad f.ad.length (f.ae.getD t eS).id<=1:=λuu=>EK _ λj hj hid=>by
    have:=(h.nm j hj).2.2.2 (by unfold tV;rw[hid,hti];exact uu);rw[<-hid];exact this
   simp only[fV,bO,bQ];cases uu:(f.ae.getD t eS).aJ with
   |true=>have:=hf uu;rw[if_pos rfl];omega
   |false=>rw[if_neg iZ];omega
  .by_cases hi:i=0
   .exact .inl hi
   .right
    obtain⟨g1,⟨k,g2,g3,g4⟩,g5,g6⟩:=(h.nm i hl).2.1 ag;have g7:=pU g5;obtain⟨g8,g9⟩:=(Ys (hP' i hl)).2 g5;refine(MM f i).2 ⟨k,?_,g1,g2,g8,g9,(h.nm i hl).1,by rw[JS] at g4;exact g4,AD _⟩;rw[g7];(refine lL (d:=cy) ag (by simpa using g3) λj hj e=>?_);rw[bQ] at e;exact ado Xo hj ag (e.trans g3.symm)
theorem afc (hP:∀x∈f.ad,vv x.af):RL f=f.ok:=by rw[po,wg,JT hP]
def iw (q:fg)(k:Int):Bool:=match ot q k with
 |none=>false
 |some t=>(q.getD t eS).aJ
def de (p:List a7)(z:az):Int:=match rZ p z with
 |none=>-1
 |some i=>(p.getD i cy).id
def inJ (p:List a7)(k:Int)(x:a7):Bool:=decide ((aw x.af).2≠[])&&decide (de p (aw x.af).1=k)
def Ox (p:List a7)(k:Int):Nat:=p.countP (inJ p k)
def sf (p:List a7)(k:Int):Nat:=p.countP λx=>decide (x.id=k)
def yz (q:fg):Nat->Nat->Int
 |0,_=>-1
 |n+1,k=>if(ot q (k:Int)).isNone then(k:Int) else yz q n (k+1)
def uI (p:List a7)(q:fg)(z:az)(cJ:Bool):Int:=
 if z=[47] then 3 else if de p (Ev.dn z)<0 then 2 else if iw q (de p (Ev.dn z))=false then 4 else if 0<=de p z then 3 else
 if cJ=true\/12<=Ox p (de p (Ev.dn z)) then 6 else 0
def lM (p:List a7)(q:fg)(o:Op):Int:=
 if o.kind=1\/o.kind=2 then uI p q o.af (decide (yz q 16 0<0)) else
 if de p o.af<0 then 2 else
 if o.kind=3\/o.kind=4 then(if iw q (de p o.af)=true then 4 else if 192<o.at_+o.bq.length then 6 else 0) else
 if o.kind=5 then(if de p o.af=0\/(iw q (de p o.af)=true/\0<Ox p (de p o.af)) then 5 else 0) else
 if o.kind=6 then(if iw q (de p o.af)=true then 4 else uI p q o.to (decide (9<=sf p (de p o.af)))) else
 if de p o.af=0 then 5 else if 0<=de p o.to then 3 else if under o.to o.af=true then 5 else if de p (Ev.dn o.to)<0 then 2 else if iw q (de p (Ev.dn o.to))=false then 4 else
 if de p (Ev.dn o.to)≠de p (Ev.dn o.af)/\12<=Ox p (de p (Ev.dn o.to)) then 6 else 0
def l7 (x z:az):Option az:=if z.length<=x.length/\x.take z.length=z then(if x.drop z.length=[]\/(x.drop z.length).getD 0 0=47 then some (x.drop z.length) else none) else none
def xf (z to:az)(x:a7):a7:=match l7 x.af z with
 |some r=>⟨to++r,x.id⟩
 |none=>x
def xg (p:List a7)(q:fg)(z:az)(k:Int):List a7×fg:=
 (p.filter λx=>!decide (x.af=z),if sf (p.filter λx=>!decide (x.af=z)) k=0 then q.filter λx=>!decide (x.id=k) else q)
def Oy (q:fg)(k:Int)(g:az->az):fg:=match ot q k with
 |none=>q
 |some t=>q.set t ⟨(q.getD t eS).id,(q.getD t eS).aJ,g (q.getD t eS).bq⟩
def Yw (t:az)(n:Int):az:=t++Ev.y8 [0] (max 0 (n-t.length)).toNat
def wrJ (a:Int)(x t:az):az:=(Yw t (a+x.length)).take a.toNat++x++(Yw t (a+x.length)).drop (a.toNat+x.length)
def ctJ (a:Int)(t:az):az:=(Yw t a).take a.toNat
def oN (p:List a7)(q:fg)(o:Op):List a7×fg:=
 if o.kind=1\/o.kind=2 then(p++[⟨o.af,yz q 16 0⟩],q++[⟨yz q 16 0,decide (o.kind=2),[]⟩]) else
 if o.kind=3 then(p,if o.bq=[] then q else Oy q (de p o.af) (wrJ o.at_ o.bq)) else
 if o.kind=4 then(p,Oy q (de p o.af) (ctJ o.at_)) else
 if o.kind=5 then xg p q o.af (de p o.af) else
 if o.kind=6 then(p++[⟨o.to,de p o.af⟩],q) else(p.map (xf o.af o.to),q)
def Gq (p:List a7)(q:fg)(o:Op):Flat:=⟨Ev.gS (oN p q o).1,Ev.il (oN p q o).2⟩
variable {l:fg}
theorem qN:∀(a b:List a7),kM a->kM b->(∀x,x∈a↔x∈b)->a=b
 |[],[],_,_,_=>rfl
 |[],y::b,_,_,h=>by have:=(h y).2 gh;cases this
 |x::a,[],_,_,h=>by have:=(h x).1 gh;cases this
 |x::a,y::b,ha,hb,h=>by
  obtain⟨ha1,ha2⟩:=jZ.1 ha;obtain⟨FQ,Vo⟩:=jZ.1 hb;have Vt:x=y:=by
   rcases bT.1 ((h x).1 gh) with e|e
   .exact e
   .rcases bT.1 ((h y).2 gh) with e2|e2
    .exact e2.symm
    .have h1:=FQ x e;have h2:=ha1 y e2;have:=fe _ _ _ h1 h2;rw[kq] at this;cases this
  subst Vt
  congr 1
  refine qN a b ha2 Vo λz=>⟨λhz=>?_,λhz=>?_⟩
  .rcases bT.1 ((h z).1 (jA _ hz)) with e|e
   .subst e;have:=ha1 z hz;rw[kq] at this;cases this
   .exact e
  .rcases bT.1 ((h z).2 (jA _ hz)) with e|e
   .subst e;have:=FQ z hz;rw[kq] at this;cases this
   .exact e
theorem tY:∀(a b:fg),gU a->gU b->(∀x,x∈a↔x∈b)->a=b
 |[],[],_,_,_=>rfl
 |[],y::b,_,_,h=>by have:=(h y).2 gh;cases this
 |x::a,[],_,_,h=>by have:=(h x).1 gh;cases this
 |x::a,y::b,ha,hb,h=>by
  obtain⟨ha1,ha2⟩:=jZ.1 ha;obtain⟨FQ,Vo⟩:=jZ.1 hb;have Vt:x=y:=by
   rcases bT.1 ((h x).1 gh) with e|e
   .exact e
   .rcases bT.1 ((h y).2 gh) with e2|e2
    .exact e2.symm
    .have h1:=FQ x e;have h2:=ha1 y e2;omega
  subst Vt
  congr 1
  refine tY a b ha2 Vo λz=>⟨λhz=>?_,λhz=>?_⟩
  .rcases bT.1 ((h z).1 (jA _ hz)) with e|e
   .subst e;have:=ha1 z hz;omega
   .exact e
  .rcases bT.1 ((h z).2 (jA _ hz)) with e|e
   .subst e;have:=FQ z hz;omega
   .exact e
theorem EM (x:a7):∀(l:List a7)(y:a7),y∈Ev.wI x l↔y=x\/y∈l
 |[],y=>by simp[Ev.wI]
 |z::l,y=>by
  unfold Ev.wI;split
  .simp
  .rw[bT,EM x l,bT];constructor
   .rintro(h|h|h)
    .exact .inr (.inl h)
    .exact .inl h
    .exact .inr (.inr h)
   .rintro(h|h|h)
    .exact .inr (.inl h)
    .exact .inl h
    .exact .inr (.inr h)
theorem EN (x:bP):∀(l:fg)(y:bP),y∈Ev.wJ x l↔y=x\/y∈l
 |[],y=>by simp[Ev.wJ]
 |z::l,y=>by
  unfold Ev.wJ;split
  .simp
  .rw[bT,EN x l,bT];constructor
   .rintro(h|h|h)
    .exact .inr (.inl h)
    .exact .inl h
    .exact .inr (.inr h)
   .rintro(h|h|h)
    .exact .inr (.inl h)
    .exact .inl h
    .exact .inr (.inr h)
theorem HZ (x:a7):∀(l:List a7),kM l->(∀y∈l,y.af≠x.af)->kM (Ev.wI x l)
 |[],_,_=>QR _ _
 |z::l,h,hn=>by
  obtain⟨h1,h2⟩:=jZ.1 h;unfold Ev.wI;split
  .rename_i dG;exact jZ.2 ⟨λy hy=>by
    rcases bT.1 hy with rfl|hy
    .exact dG
    .exact fe _ _ _ dG (h1 y hy),h⟩
  .rename_i dG;have hzx:bS z.af x.af=true:=by
    refine' zbm
   refine jZ.2 ⟨λy hy=>?_,HZ x l h2 λy hy=>hn y (jA _ hy)⟩;rcases(EM x l y).1 hy with rfl|hy
   .exact hzx
   .exact h1 y hy
theorem H0 (x:bP):∀(l:fg),gU l->(∀y∈l,y.id≠x.id)->gU (Ev.wJ x l)
 |[],_,_=>QR _ _
 |z::l,h,hn=>by
  obtain⟨h1,h2⟩:=jZ.1 h;unfold Ev.wJ;split
  .rename_i dG;exact jZ.2 ⟨λy hy=>by
    rcases bT.1 hy with rfl|hy
    .exact dG
    .have:=h1 y hy;omega,h⟩
  .rename_i dG;have fY:=hn z gh;refine jZ.2 ⟨λy hy=>?_,H0 x l h2 λy hy=>hn y (jA _ hy)⟩;rcases(EN x l y).1 hy with rfl|hy
   .omega
   .exact h1 y hy
theorem ib:∀(l:List a7)(y:a7),y∈Ev.gS l↔y∈l
 |[],y=>Iff.rfl
 |x::l,y=>by
  show y∈Ev.wI x (Ev.gS l)↔_;rw[EM,ib l,bT]
theorem jw:∀(l:fg)(y:bP),y∈Ev.il l↔y∈l
 |[],y=>Iff.rfl
 |x::l,y=>by
  show y∈Ev.wJ x (Ev.il l)↔_;rw[EN,jw l,bT]
theorem ou:∀(l:List a7),(l.map a7.af).Nodup->kM (Ev.gS l)
 |[],_=>QS
 |x::l,h=>by
  rw[wO,uN] at h;exact HZ x _ (ou l h.2) λy hy e=>h.1 (jK.2 ⟨y,(ib l y).1 hy,e⟩)
theorem qO:∀(l:fg),(l.map bP.id).Nodup->gU (Ev.il l)
 |[],_=>QS
 |x::l,h=>by
  rw[wO,uN] at h;exact H0 x _ (qO l h.2) λy hy e=>h.1 (jK.2 ⟨y,(jw l y).1 hy,e⟩)
theorem kM.nodup {l:List a7}(h:kM l):(l.map a7.af).Nodup:=by rw[Bq,Br];exact h.imp λ{a b} h=>np h
theorem gU.nodup (h:gU l):(l.map bP.id).Nodup:=by rw[Bq,Br];exact h.imp λ{a b} h e=>by omega
theorem zJ {l:List a7}(h:kM l):Ev.gS l=l:=qN _ _ (ou l h.nodup) h λx=>ib l x
theorem qP (h:gU l):Ev.il l=l:=tY _ _ (qO l h.nodup) h λx=>jw l x
theorem ic:∀(l:List a7)(e x:a7),x∈Flat.gm l e↔x=e\/x∈l
 |[],e,x=>by simp[Flat.gm]
 |y::l,e,x=>by
  unfold Flat.gm;split
  .simp
  .rw[bT,ic l,bT];constructor
   .rintro(h|h|h)
    .exact .inr (.inl h)
    .exact .inl h
    .exact .inr (.inr h)
   .rintro(h|h|h)
    .exact .inr (.inl h)
    .exact .inl h
    .exact .inr (.inr h)
theorem wh:∀(l:List a7)(e:a7),kM l->(∀y∈l,y.af≠e.af)->kM (Flat.gm l e)
 |[],_,_,_=>QR _ _
 |z::l,x,h,hn=>by
  obtain⟨h1,h2⟩:=jZ.1 h;unfold Flat.gm;split
  .rename_i dG;exact jZ.2 ⟨λy hy=>by
    rcases bT.1 hy with rfl|hy
    .exact dG
    .exact fe _ _ _ dG (h1 y hy),h⟩
  .rename_i dG;have hzx:bS z.af x.af=true:=by
    refine' zbm
   refine jZ.2 ⟨λy hy=>?_,wh l x h2 λy hy=>hn y (jA _ hy)⟩;rcases(ic l x y).1 hy with rfl|hy
   .exact hzx
   .exact h1 y hy
theorem kr:∀(l:fg)(e x:bP),x∈Flat.oX l e↔x=e\/x∈l
 |[],e,x=>by simp[Flat.oX]
 |y::l,e,x=>by
  unfold Flat.oX;split
  .rw[bT,kr l,bT];constructor
   .rintro(h|h|h)
    .exact .inr (.inl h)
    .exact .inl h
    .exact .inr (.inr h)
   .rintro(h|h|h)
    .exact .inr (.inl h)
    .exact .inl h
    .exact .inr (.inr h)
  .simp
theorem A1:∀(l:fg)(e:bP),gU l->(∀y∈l,y.id≠e.id)->gU (Flat.oX l e)
 |[],_,_,_=>QR _ _
 |z::l,x,h,hn=>by
  obtain⟨h1,h2⟩:=jZ.1 h;have fY:=hn z gh;unfold Flat.oX;split
  .rename_i dG;refine jZ.2 ⟨λy hy=>?_,A1 l x h2 λy hy=>hn y (jA _ hy)⟩;rcases(kr l x y).1 hy with rfl|hy
   .omega
   .exact h1 y hy
  .rename_i dG;exact jZ.2 ⟨λy hy=>by
    rcases bT.1 hy with rfl|hy
    .omega
    .have:=h1 y hy;omega,h⟩
theorem oz {α β:Type}(g:α->β){l:List α}{e:α}(h:(l.map g).Nodup)(hn:∀y∈l,g y≠g e):((l++[e]).map g).Nodup:=by rw[KI,rh];refine⟨h,ay,λa ha b hb=>?_⟩;obtain⟨y,hy,rfl⟩:=jK.1 ha;rw[wO,C2,ix] at hb;subst hb;exact hn y hy
theorem x9 {l:List a7}{e:a7}(h:kM l)(hn:∀y∈l,y.af≠e.af):Ev.gS (l++[e])=Flat.gm l e:=
 qN _ _ (ou _ (oz a7.af h.nodup hn)) (wh l e h hn) λx=>by
  rw[ib,ic,eZ,ix,or_comm]
theorem EO {e:bP}(h:gU l)(hn:∀y∈l,y.id≠e.id):Ev.il (l++[e])=Flat.oX l e:=
 tY _ _ (qO _ (oz bP.id h.nodup hn)) (A1 l e h hn) λx=>by
  rw[jw,kr,eZ,ix,or_comm]
theorem RO:∀(l cU:List a7),kM cU->((cU++l).map a7.af).Nodup->kM (l.foldl Flat.gm cU)/\∀x,x∈l.foldl Flat.gm cU↔x∈cU++l
 |[],cU,h,_=>⟨h,λx=>by simp⟩
 |e::l,cU,h,hn=>by
  have fY:∀y∈cU,y.af≠e.af:=λy hy he=>by
   rw[KI,wO,rh] at hn;exact hn.2.2 _ (jK.2 ⟨y,hy,rfl⟩) _ gh he
  have hs:=wh cU e h fY;have Ch:((Flat.gm cU e++l).map a7.af).Nodup:=by
   rw[KI,rh];rw[KI,wO,rh,uN] at hn;refine⟨hs.nodup,hn.2.1.2,λa ha b hb=>?_⟩;obtain⟨y,hy,rfl⟩:=jK.1 ha;rcases(ic _ _ _).1 hy with rfl|hy
   .intro e;subst e;exact hn.2.1.1 hb
   .exact hn.2.2 _ (jK.2 ⟨y,hy,rfl⟩) _ (jA _ hb)
  obtain⟨h1,h2⟩:=RO l (Flat.gm cU e) hs Ch;refine⟨h1,λx=>(h2 x).trans ?_⟩;rw[eZ,ic,eZ,bT];constructor
  .rintro((h|h)|h)
   .exact .inr (.inl h)
   .exact .inl h
   .exact .inr (.inr h)
  .rintro(h|h|h)
   .exact .inl (.inr h)
   .exact .inl (.inl h)
   .exact .inr h
theorem PT {l:List a7}(h:(l.map a7.af).Nodup):Ev.gS l=l.foldl Flat.gm []:=by obtain⟨h1,h2⟩:=RO l [] QS (by simpa using h);exact qN _ _ (ou l h) h1 λx=>by rw[ib,h2];simp
end Go.Pl
namespace Go.Pl
open Go Go.Ev Go.Lg Go.Proofs
variable {E:ig}{X:fR}{Γ:qV}{l:Kn}{L R:bZ}{K:KO}
abbrev ie (a:aM)(c:Nat)(p:List a7)(a':aM)(c':Nat)(q:fg):a6:=[.slice a p.length c,.slice a' q.length c']
theorem WO.aez {E:ig}{X:fR}{Γ:qV}{l:Kn}{L:bZ}{K:KO}{x:Operand}{t:TypeId}{b off m n sz:Nat}{cs r:a6}[ht:wK E t m](hx:Ev l x (.pointer (some ⟨b,off,none⟩)))(hh:Rd Γ (jz b) n sz cs)(hv:ja m (Go.Ev.eb off cs)=some r)(k:∀n,K (.agg ⟨r⟩) L n n (λi=>i∈aj (jz b)) Z):WO E X Γ l (.load t x) L K:=λtm s h1 h2=>by
 refine' zbc
 .cases hc
 .cases hc
 .cases hc
  refine fW.pure (v:=.agg ⟨r⟩) (s':=s.aY b) (λcall=>?_) ⟨L,(λi=>i∈aj (jz b)),Z,h2.aY (hm b (by simp[aj])),db h3 (by simp[aj]),by rw[cz];exact k _⟩;show(FJ (aO tm x) λb o=>mw E s t b o)=_;rw[hx.eval h1];have:=w8 h5 hv;rw[mU] at this;exact vS h4 this
theorem WO.Xe {E:ig}{X:fR}{Γ:qV}{l:Kn}{L:bZ}{K:KO}{x:Operand}{t:TypeId}{b off n sz:Nat}{cs:a6}{v:Value}[ht:nP E t](hx:Ev l x (.pointer (some ⟨b,off,none⟩)))(hh:Rd Γ (jz b) n sz cs)(hv:cs[off]?=some v)(k:∀n,K v L n n (λi=>i∈aj (jz b)) Z):WO E X Γ l (.load t x) L K:=λtm s h1 h2=>by
 refine' zbc
 .cases hc
 .cases hc
 .cases hc
  refine fW.pure (v:=v) (s':=s.aY b) (λcall=>?_) ⟨L,(λi=>i∈aj (jz b)),Z,h2.aY (hm b (by simp[aj])),db h3 (by simp[aj]),by rw[cz];exact k _⟩;show(FJ (aO tm x) λb o=>mw E s t b o)=_;rw[hx.eval h1];have:=BE h5 hv;rw[mU] at this;exact tO h4 this
theorem WO.nilCheck {x:Operand}{a:Addr}(hx:Ev l x (.pointer (some a)))(k:∀n,K (.pointer (some a)) L n n Z Z):WO E X Γ l (.nilCheck x) L K:=WO.val (λtm s call hl=>by
 show GW E (aO tm x) s=_;rw[hx.eval hl];rfl) k
variable {g:FuncId}{xs:List Operand}{ts:Array TypeId}{vs:a6}{v:SA}{f f':Fs}{r:Value}
abbrev fsC (v:SA)(f:Fs):a6:=[.slice v.r 64 v.rc,.slice v.f 64 v.fc,.slice v.l 64 v.lc,iv f.st.fJ,.slice v.g f.st.cP.length v.gc,iv f.st.oV,.slice v.d f.st.eu.length v.dc,.bool f.st.same,iv f.t.cI.row,iv f.t.cI.dt,iv f.t.cI.size,iv f.t.cI.sum,iv f.t.cI.level,iv f.t.depth,iv f.t.many,.bool f.cJ]
abbrev ko (b:Nat)(v:SA)(f:Fs):bZ:=.box b (fsC v f) 156 false::eQ v f.st
abbrev mJ (E:ig)(X:fR)(g:FuncId)(vs:a6)(s:St)(b:Nat)(v:SA)(f f':Fs)(r:Value):Prop:=fM E X g vs s (ko b v f) [] λR L=>∃v':SA,R=r/\L=ko b v' f'
section
variable {b:Nat}
theorem WO.ajc (hx:kA l xs vs)(h:∀s,mJ E X g vs s b v f f' r)(hp:oZ (ko b v f) L R)(k:∀m m' v',jX L m->m<=m'->K r (ko b v' f'++R) m m' (FtR [] (ko b v f) m m') (FtW (ko b v f) m m')):WC E X Γ l g xs ts L K:=
 WO.call (Lm:=ko b v f) (R:=R) hx hp.cZ (λs hi b hb=>by cases hb) (λs _=>h s) (by rintro r L' m m' ho hm ⟨v',rfl,rfl⟩;exact k m m' v' ho hm)
theorem mR {rs:List ResultVar}{x:Ex}{v':SA}{ws:a6}(hx:x= .normal\/x= .ret)(hr:qD E l L rs ws)(hL:cC (ko b v' f') L)(hv:gL ws=r):
  vh E rs (λR L=>∃v':SA,R=r/\L=ko b v' f') x l L:=⟨hx,ws,_,hr,hL,v',hv,rfl⟩
end
theorem sS (s:St)(b:Nat)(v:SA)(f:Fs)(h:dA 80000 f.st)(ht:ek f.t)(k:Nat)(hk:k<16)(n:iM):mJ bh bw 157 [bg b,iv k,nv n] s b v f (f.put k n) (.tuple ⟨[]⟩):=by
 unfold Fs.put;rw[uK];refine aT f157 ?_;dsimp only[ko,eQ];cases hf:f.cJ with
 |true=>
  rw[if_pos rfl];repeat' (first|refine' aW|refine' acZ|refine' av|fail)
  refine' acN;rfl
 |false=>
  rw[if_neg bJ];repeat' (first|refine' aW|refine' acZ|refine' av|fail)
  refine' acN;rfl
variable {s:St}
structure lN (s:St)(b:Nat)(v:SA)(f:Fs):Prop where
 b:bH s (jz b) 1 16 (fsC v f)
 st:cS s v f.st
structure LP (Γ:qV)(L:bZ)(b:Nat)(v:SA)(f:Fs):Prop where
 b:jB Γ L (jz b) 1 16 (fsC v f)
 st:rC Γ L v f.st
abbrev ub (b:Nat)(v:SA):List Nat:=b::iO v
section
variable {b:Nat}
theorem LP.row (h:LP Γ L b v f)(hi:Inv Γ s L):lN s b v f/\∀i∈ub b v,FT Γ s i:=by
 refine⟨⟨(h.b.row hi).1,(h.st.row hi).1⟩,λi hb=>?_⟩;rcases bT.1 hb with rfl|hb
 .exact(h.b.row hi).2 _ (by simp[aj])
 .exact(h.st.row hi).2 i hb
theorem WO.JF (hx:kA l xs vs)(hh:LP Γ L b v f)(h:∀s,lN s b v f->nQ E X g vs s (ub b v) r)(k:∀m m',jX L m->m<=m'->K r L m m' (FtR (ub b v) [] m m') (FtW [] m m')):WC E X Γ l g xs ts L K:=
 WO.qE hx (λs hi=>⟨(hh.row hi).2,h s (hh.row hi).1⟩) k
theorem WO.RU {α:Type}{sz:Nat}{enc:ak α sz}{e:TypeId}{p:List α}(hx:kA l xs vs)(hh:LP Γ L b v f)(h:∀s,lN s b v f->eU E X g vs s (ub b v) e p)(k:∀m m' a c,jX L m->m<=m'->K (.slice a p.length c) (.aQ (.slice a p.length c) e sz (ai (sz:=sz) p)::L) m m' (FtR (ub b v) [] m m') (FtW [] m m')):WC E X Γ l g xs ts L K:=
 WO.LG hx (λs hi=>⟨(hh.row hi).2,h s (hh.row hi).1⟩) k
theorem E8.bx (h:lN s b v f):Rd ⟨s,([]:bZ).flatMap It.a8,ub b v⟩ (jz b) 1 16 (fsC v f):=Rd.of h.b λ_ hb=>by simp[aj] at hb;subst hb;exact gh
theorem E8.rw (h:lN s b v f):Rd ⟨s,([]:bZ).flatMap It.a8,ub b v⟩ v.r 64 1 (ai f.st.ez):=Rd.of h.st.r λ_ hb=>jA _ (HS hb)
theorem E8.rf (h:lN s b v f):Rd ⟨s,([]:bZ).flatMap It.a8,ub b v⟩ v.f 64 1 (ai f.st.bc):=Rd.of h.st.f λ_ hb=>jA _ (HT hb)
theorem E8.la (h:lN s b v f):Rd ⟨s,([]:bZ).flatMap It.a8,ub b v⟩ v.l 64 1 (ai f.st.dw):=Rd.of h.st.l λ_ hb=>jA _ (HU hb)
end
theorem tT (s:St)(b:Nat)(v:SA)(f:Fs)(h:dA 100000 f.st)(ht:ek f.t)(k:Int)(hk: -1000<=k/\k<=1000)(hr:lN s b v f):bF 162 [bg b,iv k] s (ub b v) (nv (f.node k)):=by
 have Oz:=E8.bx hr;have tZ:=E8.rw hr;have uy:=E8.rf hr;have uC:=E8.la hr;refine aT f162 ?_;repeat' (first|refine' aW|refine' acY|refine' av|fail)
 refine' ax;rfl
theorem lO (s:St)(b:Nat)(v:SA)(f:Fs)(h:dA 100000 f.st)(ht:ek f.t)(k:Int)(hk: -1000<=k/\k<=1000)(hr:lN s b v f):eU bh bw 156 [bg b,iv k] s (ub b v) 200 (f.bM k):=by have Oz:=E8.bx hr;have tZ:=E8.rw hr;have uy:=E8.rf hr;have uC:=E8.la hr;unfold Fs.bM;refine aT f156 ?_;(repeat' (first|refine' aW|refine' Xw|((with_reducible apply WO.tS);exact aC;(first|exact λs hr=>l8 s _ _ aL _ hr|exact λs hr=>l8 s _ _ aL ⟨_,_,_,⟨⟨_,_,_,_,_⟩,_,_⟩⟩ hr);exact eF;intro _ _ abW abX _ _)|refine' av|fail));refine' kL;rfl
variable {st:au}
theorem WO.RV {a:aM}{n sz:Nat}{cs:a6}(hx:kA l xs vs)(h:∀s,cS s v st->bH s a n sz cs->nQ E X g vs s (iO v++aj a) r)(hh:rC Γ L v st)(h2:jB Γ L a n sz cs)(k:∀m m',jX L m->m<=m'->K r L m m' (FtR (iO v++aj a) [] m m') (FtW [] m m')):WC E X Γ l g xs ts L K:=
 WO.qE hx (λs hi=>⟨λi hb=>by
   rcases eZ.1 hb with hb|hb
   .exact(hh.row hi).2 i hb
   .exact(h2.row hi).2 i hb,h s (hh.row hi).1 (h2.row hi).1⟩) k
theorem BX {st:au}{n:iM}{l:List bf}(h:bR st n=some l):l.length<=12/\∀e∈l,0<=e.id/\e.id<=15:=by refine' zai;unfold bD at fm;simp only[bO,gA,bQ,fV] at fm;exact⟨fm.2,λe he=>by have:=(fm.1.1 e he).2;omega⟩
theorem E9 (s:St)(v:SA)(st:au)(h:dA 100000 st)(t:cB)(ht:ek t)(a:aM)(c:Nat)(p:List az)(hp:p.length<=1000)(hr:cS s v st)(h2:bH s a p.length 1 (ai p)):
  bF 199 [fK v st,tv t,.slice a p.length c] s (iO v++aj a) (iv (oW (λi=>bR st ((jr st t i).getD bB)) p 0)):=by
 have tZ:Rd ⟨s,([]:bZ).flatMap It.a8,iO v++aj a⟩ v.r 64 1 (ai st.ez):=Rd.of hr.r λ_ hb=>cT _ (HS hb)
 have uy:Rd ⟨s,([]:bZ).flatMap It.a8,iO v++aj a⟩ v.f 64 1 (ai st.bc):=Rd.of hr.f λ_ hb=>cT _ (HT hb)
 have uC:Rd ⟨s,([]:bZ).flatMap It.a8,iO v++aj a⟩ v.l 64 1 (ai st.dw):=Rd.of hr.l λ_ hb=>cT _ (HU hb)
 have hdp:Rd ⟨s,([]:bZ).flatMap It.a8,iO v++aj a⟩ a p.length 1 (ai p):=Rd.of h2 λ_ hb=>dE _ hb
 generalize hE:(λi=>bR st ((jr st t i).getD bB))=E at *
 have hEa:∀i,E i=bR st ((jr st t i).getD bB):=λi=>by rw[<-hE]
 refine aT f199 ?_;refine' cR
 refine W.bN (λk l L=>∃(i:Nat)(w:Int)(b3 b4:Nat),Le [(2,.slice a p.length c),(3,bg b3),(4,bg b4),(7,iv w),(8,iv i)] l/\cC [.box b3 (se v st) 81 false,.box b4 (im t) 85 false] L/\k=p.length-i/\i<=p.length/\(0<=w/\w<=15)/\oW E p 0=oW E (p.drop i) w)
  (λl L=>Le [(7,iv (oW E p 0))] l/\cC [] L) p.length ⟨0,0,_,_,bj,ar,rfl,ag,ag,rfl⟩ ?_ ?_
 .rintro k l L ⟨i,w,b3,b4,jM,hL,rfl,h1,hw,h3⟩;refine W.le ?_ jM hL;clear jM hL;by_cases hi:i<p.length
  .rw[drop_cons hi,oW,hEa] at h3;cases he:bR st ((jr st t w).getD bB) with
   |none=>
    rw[he] at h3;simp only at h3;rw[h3];have ah5:∀s,cS s v st->jQ bh bw 171 [fK v st,nv ((jr st t w).getD bB)] s (iO v) 200 ([]:List bf) false:=λs hr=>by
     have:=l8 s v st h ((jr st t w).getD bB) hr;rwa [he] at this
    refine' X5;(all_goals try exact pJ);refine' ax;rfl
   |some es=>
    rw[he] at h3;simp only at h3;have ah5:∀s,cS s v st->jQ bh bw 171 [fK v st,nv ((jr st t w).getD bB)] s (iO v) 200 es true:=λs hr=>by
     have:=l8 s v st h ((jr st t w).getD bB) hr;rwa [he] at this
    obtain⟨tE,hid⟩:=BX he;cases nJ:eE es (p.getD i ak.ah) with
    |none=>
     (have hav:X9 es (p.getD i ak.ah)= -1:=by unfold X9;rw[nJ];rfl);rw[nJ] at h3;simp only at h3;rw[h3];refine' X5;(all_goals try exact pJ);refine' ax;rfl
    |some q=>
     have hav:X9 es (p.getD i ak.ah)=(q:Int):=by unfold X9;rw[nJ];rfl
     have hq:q<es.length:=by
      unfold eE at nJ;exact(oO.1 nJ).1
     rw[nJ] at h3;simp only at h3;refine' X5;(all_goals try exact pJ);have hqd:=hid _ (aK hq ak.ah);refine⟨_,?_,i+1,_,_,_,bj,ar,rfl,ag,?_,?_⟩
     .omega
     .rw[hav];exact hqd
     .rw[hav,h3];rfl
  .have fF:i=p.length:=by omega
   subst fF;rw[iI,oW] at h3;refine' cR;(all_goals try exact pJ);exact⟨by rw[h3];exact bj,ar⟩
 .rintro l L ⟨jM,hL⟩;refine aq ?_;refine W.le ?_ jM hL;clear jM hL;refine' cR
  refine' ax;rfl
theorem Nr {z:az}(hp:aP z=true):(aF z).length<=4:=by
 unfold aP at hp;split at hp
 .rename_i h;unfold aF;rw[if_pos h];simp
 .split at hp
  .cases hp
  .simp only[bO,bQ] at hp;exact hp.2
theorem RW (st:au)(g:Int->iM):∀(l:List az)(w:Int),0<=w/\w<=15-> -1<=oW (λi=>bR st (g i)) l w/\oW (λi=>bR st (g i)) l w<=15
 |[],w,h=>by rw[oW];omega
 |s::l,w,h=>by
  rw[oW];cases he:bR st (g w) with
  |none=>simp only;omega
  |some es=>
   simp only;cases nJ:eE es s with
   |none=>simp only;omega
   |some q=>
    simp only;have hq:q<es.length:=by
     unfold eE at nJ;exact(oO.1 nJ).1
    exact RW st g l _ ((BX he).2 _ (aK hq _))
theorem qg (s:St)(b:Nat)(v:SA)(f:Fs)(h:dA 100000 f.st)(ht:ek f.t)(z:az)(hz:z.length<=90000)(hp:aP z=true)(hr:lN s b v f):bF 161 [bg b,sv z] s (ub b v) (iv (f.di z)):=by have Oz:=E8.bx hr;have tZ:=E8.rw hr;have uy:=E8.rf hr;have uC:=E8.la hr;obtain⟨vO,ajb⟩:=CH hp;have h4:=Nr hp;refine aT f161 ?_;(repeat' (first|refine' aW|refine' TA|((with_reducible apply WO.RV);exact aC;exact λs hr h2=>E9 s _ _ aL _ aL _ _ _ ag hr h2;exact eF;exact cb;intros)|refine' av|fail));refine' ax;rfl
instance:YW bh 130 0 0:=abY cV
end Go.Pl
