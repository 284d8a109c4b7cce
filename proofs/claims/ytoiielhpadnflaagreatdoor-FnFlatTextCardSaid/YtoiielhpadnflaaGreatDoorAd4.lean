/- Lemmas of the proof. No conditions. -/
import Derived.Test.YtoiielhpadnflaaGreatDoorAd3
set_option maxRecDepth 100000
set_option maxHeartbeats 4000000
set_option linter.unusedVariables false
set_option linter.unusedSimpArgs false
open Go.Proofs.Tryz
namespace Go.Pl
open Go Go.Ev Go.Lg Go.Proofs
variable {i:Nat}{z:aC}{E:iq}{X:fY}{Γ:qN}{L L' R:dy}{K:KO}{x y:Operand}{c b:Nat}{w:aC}{xs:List Operand}{ts:Array TypeId}{vs:aY}{A:List Nat}{st:ar}{n:Nat}{p:List bE}{m:Int}{q:c9}{v:SA}{Lm:dy}{cZ:ar}
theorem sI (s:St)(v:SA)(st:ar)(h:dv 80000 st)(t:cB)(ht:dZ t)(k:Nat)(hk:k<16)(z:aC)(hz:z.length<=3000):
  eO bf bw 144 [fI v st,tv t,iv k,sv z] s [] v st (nK st t k z).1 (nK st t k z).2.2 (Ch (nK st t k z).2.1 (nK st t k z).2.2):=by
 have h1:dv 100000 st:=h.mono af;have h9:dv 90000 st:=h.mono af;have hrt:=ht.rt;obtain⟨_,hw,ML⟩:=rA (st:=st) ht;have yr:=ht.mn;have FD:bB ((wide st t).getD k aq.ah)=true:=ML _ (aL af _);have dD:nK st t k z=if a8 st ((wide st t).getD k aq.ah)=z/\(max t.many ((k:Int)+1))=t.many then(st,t,true) else
   match(if a8 st ((wide st t).getD k aq.ah)=z then some (st,((wide st t).getD k aq.ah)) else Jg st z) with
   |none=>(st,t,false)
   |some (st1,p)=>match gY st1 t ((wide st t).set k p) (max t.many ((k:Int)+1)) with
    |(eI,none)=>(eI,eY,false)
    |(eI,some t2)=>(if p=((wide st t).getD k aq.ah) then eI else free eI ((wide st t).getD k aq.ah),t2,true):=rfl
 by_cases hA:a8 st ((wide st t).getD k aq.ah)=z
 .have hAd:decide ((jT st ((wide st t).getD k aq.ah)).getD []=z)=true:=du hA;have hAn:(!decide ((jT st ((wide st t).getD k aq.ah)).getD []=z))=false:=by rw[hAd];rfl
  by_cases hB:(max t.many ((k:Int)+1))=t.many
  .have hBd:=du hB;rw[dD,if_pos ⟨hA,hB⟩];refine aX f144 ?_;dsimp only[eK];repeat' (first|refine' aZ|refine' Eh|refine' AK|refine' av|fail)
   refine' dV
   .rfl
   .intro hc;cases hc
  .have hBd:=ec hB;rw[if_neg (λhx=>hB hx.2),if_pos hA] at dD;simp only at dD;have hpp:=FD;have hpd:(!decide (((wide st t).getD k aq.ah)=((wide st t).getD k aq.ah)))=false:=by simp
   have YG:∀q∈((wide st t).set k ((wide st t).getD k aq.ah)),bB q=true:=λq hq=>by
    rcases oZ hq with hq|rfl
    .exact ML q hq
    .exact hpp
   (have MV:((wide st t).set k ((wide st t).getD k aq.ah)).length=16:=by rw[gy];exact hw);have bU:=wk (t:=t) (lv:=((wide st t).set k ((wide st t).getD k aq.ah))) (many:=(max t.many ((k:Int)+1))) h9 hrt MV YG af;rcases po:gY st t ((wide st t).set k ((wide st t).getD k aq.ah)) (max t.many ((k:Int)+1)) with⟨eI,o⟩
   have hlc:∀(v':SA) s a c,bM s a (wide st t).length 5 (ai ((wide st t).set k ((wide st t).getD k aq.ah)))->(∀b∈aj a,b∉(eK v' st).flatMap It.cr)->w6 s a (wide st t).length c 73 5->eO bf bw 195 [fI v' st,tv t,.slice a (wide st t).length c,iv (max t.many ((k:Int)+1))] s (aj a) v' st eI o.isSome (YE o):=λv' s a c hr hm hv=>by
    have:=zD s v' st h9 t hrt a c ((wide st t).set k ((wide st t).getD k aq.ah)) MV (max t.many ((k:Int)+1)) af (by rw[gy];exact hr) hm (by rw[gy];exact hv);rw[po,gy] at this;exact this
   rw[po] at dD bU;cases o with
   |none=>
    simp only at dD;rw[dD];refine aX f144 ?_;dsimp only[eK];refine' Yo;refine' dV
    .rfl
    .exact λ_=>vv rfl
   |some t2=>
    simp only at dD bU;rw[if_pos trivial] at dD;rw[dD];refine aX f144 ?_;dsimp only[eK];refine' Yo;refine' dV
    .rfl
    .intro hc;cases hc
 .have hAd:decide ((jT st ((wide st t).getD k aq.ah)).getD []=z)=false:=ec hA;have hAn:(!decide ((jT st ((wide st t).getD k aq.ah)).getD []=z))=true:=by rw[hAd];rfl
  rw[if_neg (λhx=>hA hx.1),if_neg hA] at dD;by_cases z6:z=[]
  .subst z6;have hzd:(!decide (([]:aC)=[]))=false:=by simp
   (have hpp:bB bz=true:=by decide);(have gh:¬bz=((wide st t).getD k aq.ah):=λhx=>hA (by rw[<-hx];rfl));have hpd:(!decide (bz=((wide st t).getD k aq.ah)))=true:=by rw[ec gh];rfl
   have dD:nK st t k []=match gY st t ((wide st t).set k bz) (max t.many ((k:Int)+1)) with
    |(eI,none)=>(eI,eY,false)
    |(eI,some t2)=>(if bz=((wide st t).getD k aq.ah) then eI else free eI ((wide st t).getD k aq.ah),t2,true):=dD
   have YG:∀q∈((wide st t).set k bz),bB q=true:=λq hq=>by
    rcases oZ hq with hq|rfl
    .exact ML q hq
    .exact hpp
   (have MV:((wide st t).set k bz).length=16:=by rw[gy];exact hw);have bU:=wk (t:=t) (lv:=((wide st t).set k bz)) (many:=(max t.many ((k:Int)+1))) h9 hrt MV YG af;rcases po:gY st t ((wide st t).set k bz) (max t.many ((k:Int)+1)) with⟨eI,o⟩
   have hlc:∀(v':SA) s a c,bM s a (wide st t).length 5 (ai ((wide st t).set k bz))->(∀b∈aj a,b∉(eK v' st).flatMap It.cr)->w6 s a (wide st t).length c 73 5->eO bf bw 195 [fI v' st,tv t,.slice a (wide st t).length c,iv (max t.many ((k:Int)+1))] s (aj a) v' st eI o.isSome (YE o):=λv' s a c hr hm hv=>by
    have:=zD s v' st h9 t hrt a c ((wide st t).set k bz) MV (max t.many ((k:Int)+1)) af (by rw[gy];exact hr) hm (by rw[gy];exact hv);rw[po,gy] at this;exact this
   rw[po] at dD bU;cases o with
   |none=>
    simp only at dD;rw[dD];refine aX f144 ?_;dsimp only[eK];refine' Yo;refine' dV
    .rfl
    .exact λ_=>vv rfl
   |some t2=>
    simp only at dD bU;rw[if_neg gh] at dD;have afq:dv 100000 eI:=bU.1.mono af;rw[dD];refine aX f144 ?_;dsimp only[eK];(repeat' (first|refine' aZ|refine' Eh|refine' AK|refine' Eo|refine' Mn|refine' av|fail));refine' dV
    .rfl
    .intro hc;cases hc
  .have hzd:(!decide (z=([]:aC)))=true:=by simp[z6]
   have hpP:Jg st z=bh st z 0:=by unfold Jg;rw[if_neg z6]
   rw[hpP] at dD;cases mZ:bh st z 0 with
   |none=>
    have hwc:∀s,eO bf bw 194 [fI v st,sv z,iv 0] s [] v st st false (wrV bz false):=λs=>by
     have:=xZ s v st h1 z hz 0;rw[show wr st z 0=(st,bz,false) by unfold wr;rw[mZ]] at this;exact this
    rw[mZ] at dD;simp only at dD;rw[dD];refine aX f144 ?_;dsimp only[eK];(repeat' (first|refine' aZ|refine' Eh|refine' AK|refine' Rv|refine' av|fail));obtain rfl:=Er rfl;refine' dV
    .rfl
    .exact λ_=>rfl
   |some r=>
    obtain⟨st1,p⟩:=r;have hwc:∀s,eO bf bw 194 [fI v st,sv z,iv 0] s [] v st st1 false (wrV p true):=λs=>by
     have:=xZ s v st h1 z hz 0;rw[show wr st z 0=(st1,p,true) by unfold wr;rw[mZ]] at this;exact this
    obtain⟨u6,hpp,_⟩:=h.bh hz mZ;have hs9:dv 90000 st1:=u6.mono af;rw[mZ] at dD;simp only at dD;have YG:∀q∈((wide st t).set k p),bB q=true:=λq hq=>by
     rcases oZ hq with hq|rfl
     .exact ML q hq
     .exact hpp
    (have MV:((wide st t).set k p).length=16:=by rw[gy];exact hw);have bU:=wk (t:=t) (lv:=((wide st t).set k p)) (many:=(max t.many ((k:Int)+1))) hs9 hrt MV YG af;rcases po:gY st1 t ((wide st t).set k p) (max t.many ((k:Int)+1)) with⟨eI,o⟩
    have hlc:∀(v':SA) s a c,bM s a (wide st t).length 5 (ai ((wide st t).set k p))->(∀b∈aj a,b∉(eK v' st1).flatMap It.cr)->w6 s a (wide st t).length c 73 5->eO bf bw 195 [fI v' st1,tv t,.slice a (wide st t).length c,iv (max t.many ((k:Int)+1))] s (aj a) v' st1 eI o.isSome (YE o):=λv' s a c hr hm hv=>by
     have:=zD s v' st1 hs9 t hrt a c ((wide st t).set k p) MV (max t.many ((k:Int)+1)) af (by rw[gy];exact hr) hm (by rw[gy];exact hv);rw[po,gy] at this;exact this
    rw[po] at dD bU;cases o with
    |none=>
     simp only at dD;rw[dD];refine aX f144 ?_;dsimp only[eK];(repeat' (first|refine' aZ|refine' Eh|refine' AK|refine' Rv|refine' Eo|refine' av|fail));refine' dV
     .rfl
     .exact λ_=>(vv rfl).trans (Er rfl)
    |some t2=>
     simp only at dD bU;by_cases hpe:p=((wide st t).getD k aq.ah)
     .have hpd:(!decide (p=((wide st t).getD k aq.ah)))=false:=by rw[du hpe];rfl
      rw[if_pos hpe] at dD;rw[dD];refine aX f144 ?_;dsimp only[eK];(repeat' (first|refine' aZ|refine' Eh|refine' AK|refine' Rv|refine' Eo|refine' av|fail));refine' dV
      .rfl
      .intro hc;cases hc
     .have hpd:(!decide (p=((wide st t).getD k aq.ah)))=true:=by rw[ec hpe];rfl
      rw[if_neg hpe] at dD;have afq:dv 100000 eI:=bU.1.mono af;rw[dD];refine aX f144 ?_;dsimp only[eK];(repeat' (first|refine' aZ|refine' Eh|refine' AK|refine' Rv|refine' Eo|refine' Mn|refine' av|fail));refine' dV
      .rfl
      .intro hc;cases hc
def alM (t:cB)(ok:Bool):Value->Value:=λV=>.tuple ⟨[V,tv t,.bool ok]⟩
theorem Et (s:St)(v:SA)(st:ar)(h:dv 80000 st)(t:cB)(ht:dZ t)(many:Int)(yr:0<=many/\many<=16):
  eO bf bw 205 [fI v st,tv t,iv many] s [] v st (tE st t many).1 (tE st t many).2.2 (alM (tE st t many).2.1 (tE st t many).2.2):=by
 have h1:dv 100000 st:=h.mono af;have h9:dv 90000 st:=h.mono af;have hrt:=ht.rt;obtain⟨_,hw,ML⟩:=rA (st:=st) ht;have oz:tE st t many=if many=t.many then(st,t,true) else
   match gY st t (wide st t) many with
   |(eI,none)=>(eI,t,false)
   |(eI,some t2)=>(dC ((wide st t).drop many.toNat) eI,t2,true):=rfl
 by_cases hB:many=t.many
 .have hBd:=du hB;rw[oz,if_pos hB];refine aX f205 ?_;dsimp only[eK];refine' cM
  refine' dV
  .rfl
  .intro hc;cases hc
 .have hBd:=ec hB;rw[if_neg hB] at oz;have bU:=wk (t:=t) (lv:=wide st t) (many:=many) h hrt hw ML yr;rcases po:gY st t (wide st t) many with⟨eI,o⟩
  have hlc:∀(v':SA) s a c,bM s a (wide st t).length 5 (ai (wide st t))->(∀b∈aj a,b∉(eK v' st).flatMap It.cr)->w6 s a (wide st t).length c 73 5->eO bf bw 195 [fI v' st,tv t,.slice a (wide st t).length c,iv many] s (aj a) v' st eI o.isSome (YE o):=λv' s a c hr hm hv=>by
   have:=zD s v' st h9 t hrt a c (wide st t) hw many yr hr hm hv;rw[po] at this;exact this
  rw[po] at oz bU;cases o with
  |none=>
   simp only at oz;rw[oz];have KB:=bU.2.1 rfl;refine aX f205 ?_;dsimp only[eK];(repeat' (first|refine' aZ|refine' Eh|refine' Eo|refine' av|fail));refine' dV
   .rw[show fI Ep eI=fI Ep st from KB.fI _];rw[vv rfl];rfl
   .exact λ_=>vv rfl
  |some t2=>
   simp only at oz bU;rw[oz];refine aX f205 ?_;dsimp only[eK];repeat' (first|refine' aZ|refine' Eh|refine' Eo|refine' av|fail)
   generalize wide st t=w at *
   have anL:w.length=16:=hw;have hmw:many.toNat<=w.length:=by omega
   refine W.bK (λk l L=>∃(i:Nat)(y:ar)(v':SA)(a1:aS)(c1 b6 b7 PI PJ:Nat),Le [(6,bk b6),(7,bk b7),(9,.slice a1 w.length c1),(10,bk PI),(11,bk PJ),(13,iv i)] l/\cx [.aQ (.slice a1 w.length c1) 73 5 (ai w),.box b6 [eM,eM,eM,cg,eM,cg,eM,.bool false] 71 false,.box b7 [cg,cg,cg,cg,cg,cg,cg] 75 false,.box PI (rS v' y) 71 false,.box PJ (hU t2) 75 false,.aQ (.slice v'.r 64 v'.rc) 9 1 (ai y.ej),.aQ (.slice v'.f 64 v'.fc) 3 1 (ai y.bd),.aQ (.slice v'.l 64 v'.lc) 3 1 (ai y.dm),.aQ (.slice v'.g y.cP.length v'.gc) 73 5 (ai y.cP),.aQ (.slice v'.d y.eg.length v'.dc) 73 5 (ai y.eg)] L/\k=w.length-i/\i<=w.length/\dv (80020+i) y/\dC (w.drop many.toNat) eI=dC (w.drop i) y)
    (λl L=>∃(y:ar)(v':SA)(b6 b7 PI PJ:Nat),Le [(6,bk b6),(7,bk b7),(10,bk PI),(11,bk PJ)] l/\cx [.box b6 [eM,eM,eM,cg,eM,cg,eM,.bool false] 71 false,.box b7 [cg,cg,cg,cg,cg,cg,cg] 75 false,.box PI (rS v' y) 71 false,.box PJ (hU t2) 75 false,.aQ (.slice v'.r 64 v'.rc) 9 1 (ai y.ej),.aQ (.slice v'.f 64 v'.fc) 3 1 (ai y.bd),.aQ (.slice v'.l 64 v'.lc) 3 1 (ai y.dm),.aQ (.slice v'.g y.cP.length v'.gc) 73 5 (ai y.cP),.aQ (.slice v'.d y.eg.length v'.dc) 73 5 (ai y.eg)] L/\dC (w.drop many.toNat) eI=y) (w.length-many.toNat) ⟨many.toNat,eI,Ep,_,_,_,_,_,_,(by rw[Bg yr.1];exact bp),au,rfl,hmw,bU.1.mono af,rfl⟩ ?_ ?_
   .rintro k l L ⟨i,y,v',a1,c1,b6,b7,PI,PJ,hl,hL,rfl,hi,hy,hf⟩;refine W.le ?_ hl hL;clear hl hL;have Vo:dv 100000 y:=hy.mono af;by_cases tp:i<w.length
    .have FD:bB (w.getD i aq.ah)=true:=ML _ (aL tp _);rw[drop_cons tp] at hf;repeat' (first|refine' aZ|refine' Mn|refine' av|fail)
     (all_goals try exact pE);refine⟨_,?_,i+1,_,_,_,_,_,_,_,_,bp,au,rfl,af,hy.free FD,hf⟩;omega
    .have fb:i=w.length:=by omega
     subst fb;rw[kG] at hf;refine' cM;(all_goals try exact pE);exact⟨y,v',_,_,_,_,bp,au,hf⟩
   .rintro l L ⟨y,v',b6,b7,PI,PJ,hl,hL,hf⟩;refine ak ?_;refine W.le ?_ hl hL;clear hl hL;rw[hf];refine' cM
    refine' dV
    .rfl
    .intro hc;cases hc
theorem dZ.no:dZ eY:=⟨bT,bT,bT⟩
theorem nG {st:ar}{t:cB}{k:Nat}{z:aC}(h:dv n st)(ht:dZ t)(hk:k<16)(hz:z.length<=3000):dv (n+30) (nK st t k z).1/\dZ (nK st t k z).2.1/\((nK st t k z).2.2=false->Kp st (nK st t k z).1):=by
 obtain⟨_,hw,ML⟩:=rA (st:=st) ht;have yr:=ht.mn;have FD:bB ((wide st t).getD k bz)=true:=ML _ (aL af _);have dD:nK st t k z=if a8 st ((wide st t).getD k bz)=z/\max t.many ((k:Int)+1)=t.many then(st,t,true) else
   match(if a8 st ((wide st t).getD k bz)=z then some (st,(wide st t).getD k bz) else Jg st z) with
   |none=>(st,t,false)
   |some (st1,p)=>match gY st1 t ((wide st t).set k p) (max t.many ((k:Int)+1)) with
    |(eI,none)=>(eI,eY,false)
    |(eI,some t2)=>(if p=(wide st t).getD k bz then eI else free eI ((wide st t).getD k bz),t2,true):=rfl
 rw[dD];split
 .exact⟨h.mono af,ht,λhc=>(by cases hc)⟩
 .have pA:∀r,(if a8 st ((wide st t).getD k bz)=z then some (st,(wide st t).getD k bz) else Jg st z)=some r->dv (n+1) r.1/\Kp st r.1/\bB r.2=true:=by
   intro r hr;split at hr
   .cases hr;exact⟨h.mono af,Kp.refl _,FD⟩
   .unfold Jg at hr;split at hr
    .cases hr;exact⟨h.mono af,Kp.refl _,(by decide:bB bz=true)⟩
    .obtain⟨st1,p⟩:=r;have:=h.bh hz hr;exact⟨this.1,MU hr,this.2.1⟩
  generalize(if a8 st ((wide st t).getD k bz)=z then some (st,(wide st t).getD k bz) else Jg st z)=o at pA⊢;cases o with
  |none=>exact⟨h.mono af,ht,λ_=>Kp.refl _⟩
  |some r=>
   obtain⟨st1,p⟩:=r;obtain⟨h1,h2,h3⟩:=pA _ rfl;simp only;have bU:=wk (t:=t) (lv:=(wide st t).set k p) (many:=max t.many ((k:Int)+1)) h1 ht.rt (by rw[gy];exact hw) (λq hq=>by
    rcases oZ hq with hq|rfl
    .exact ML q hq
    .exact h3) af
   rcases hl:gY st1 t ((wide st t).set k p) (max t.many ((k:Int)+1)) with⟨eI,_|t2⟩
   .rw[hl] at bU;exact⟨bU.1.mono af,dZ.no,λ_=>h2.trans (bU.2.1 rfl)⟩
   .rw[hl] at bU;simp only at bU⊢;refine⟨?_,(bU.2.2 _ rfl).1,λhc=>(by cases hc)⟩;split
    .exact bU.1.mono af
    .exact(bU.1.free FD).mono af
theorem zE {st:ar}{t:cB}{many:Int}(h:dv n st)(ht:dZ t)(hm:0<=many/\many<=16):dv (n+40) (tE st t many).1/\dZ (tE st t many).2.1/\((tE st t many).2.2=false->Kp st (tE st t many).1):=by
 obtain⟨_,hw,ML⟩:=rA (st:=st) ht;have oz:tE st t many=if many=t.many then(st,t,true) else
   match gY st t (wide st t) many with
   |(eI,none)=>(eI,t,false)
   |(eI,some t2)=>(dC ((wide st t).drop many.toNat) eI,t2,true):=rfl
 rw[oz];split
 .exact⟨h.mono af,ht,λhc=>(by cases hc)⟩
 .have bU:=wk (t:=t) (lv:=wide st t) (many:=many) h ht.rt hw ML hm;rcases hl:gY st t (wide st t) many with⟨eI,_|t2⟩
  .rw[hl] at bU;exact⟨bU.1.mono af,ht,λ_=>bU.2.1 rfl⟩
  .rw[hl] at bU;simp only at bU⊢;have h4:=dv.dC (st:=eI) ((wide st t).drop many.toNat) bU.1 (λp hp=>ML p (List.mem_of_mem_drop hp));exact⟨h4.mono (by rw[eP];omega),(bU.2.2 _ rfl).1,λhc=>(by cases hc)⟩
theorem x8:∀(f:Nat)(z:aC),(∀s∈dw f z,s.length<=128)
 |0,z=>by simp[dw]
 |f+1,z=>by
  rw[dw];split
  .intro s hs;rcases bH.1 hs with rfl|hs
   .rw[cO];omega
   .exact x8 f _ s hs
  .split
   .simp
   .intro s hs;have:s=z:=by simpa using hs
    subst this;omega
theorem x9 (n:iE):(gf n).length<=128:=by
 cases h:ew n with
 |true=>exact(Pg.rl h).2
 |false=>unfold gf;rw[h];simp
theorem wb (s:St)(v:SA)(st:ar)(h:dv 80000 st)(t:cB)(ht:dZ t)(k:Nat)(hk:k<16)(n:iE):
  eO bf bw 96 [fI v st,tv t,iv k,nv n] s [] v st (nb st t k n).1 (nb st t k n).2.2 (Ch (nb st t k n).2.1 (nb st t k n).2.2):=by
 have hl:=x9 n;unfold nb;refine aX f96 ?_;dsimp only[eK];(repeat' (first|refine' aZ|refine' ah2|((with_reducible apply WO.nE);exact aD;(first|exact λs=>sI s _ _ aP _ aP _ af _ af|exact λs=>sI s _ _ aP ⟨⟨_,_,_,_,_⟩,_,_⟩ aP _ af _ af);exact dU;intro _ _ aka _ _ abM)|refine' av|fail));refine' dV
 .rfl
 .exact abM
theorem YH (s:St)(v:SA)(st:ar)(h:dv 70000 st)(t:cB)(ht:dZ t)(z:aC)(hz:z.length<=50000):
  eO bf bw 200 [fI v st,tv t,sv z] s [] v st (ky st t z).1 true (Ch (ky st t z).2.1 (ky st t z).2.2):=by
 have sS:=x8 (z.length+1) z;have Ud:ky st t z=if 16<(dw (z.length+1) z).length then(st,t,false) else match lA (dw (z.length+1) z) 0 st t with
  |(st,t,false)=>(st,t,false)
  |(st,t,true)=>tE st t (dw (z.length+1) z).length:=rfl
 generalize hw:dw (z.length+1) z=w at *
 refine aX f200 ?_;dsimp only[eK];by_cases FR:16<w.length
 .rw[if_pos FR] at Ud;rw[Ud];have hR:∀s,eu bf bw 258 [sv z] s [] 9 w:=λs=>by have:=BO s z af;rwa [hw] at this
  refine' adq;all_goals try exact pE
  refine' dV
  .rfl
  .intro hc;cases hc
 .rw[if_neg FR] at Ud;have hR:∀s,eu bf bw 258 [sv z] s [] 9 w:=λs=>by have:=BO s z af;rwa [hw] at this
  refine' adq;all_goals try exact pE
  refine W.bK (λk l L=>∃(i:Nat)(y:ar)(u:cB)(v':SA)(a1:aS)(c1 b3 b4 b6 b7:Nat),Le [(3,bk b3),(4,bk b4),(6,bk b6),(7,bk b7),(9,.slice a1 w.length c1),(10,iv i)] l/\cx [.aQ (.slice a1 w.length c1) 9 1 (ai w),.box b3 (rS v' y) 71 false,.box b4 (hU u) 75 false,.box b6 [eM,eM,eM,cg,eM,cg,eM,.bool false] 71 false,.box b7 [cg,cg,cg,cg,cg,cg,cg] 75 false,.aQ (.slice v'.r 64 v'.rc) 9 1 (ai y.ej),.aQ (.slice v'.f 64 v'.fc) 3 1 (ai y.bd),.aQ (.slice v'.l 64 v'.lc) 3 1 (ai y.dm),.aQ (.slice v'.g y.cP.length v'.gc) 73 5 (ai y.cP),.aQ (.slice v'.d y.eg.length v'.dc) 73 5 (ai y.eg)] L/\k=w.length-i/\i<=w.length/\dv (70000+30*i) y/\dZ u/\lA w 0 st t=lA (w.drop i) i y u)
   (λl L=>∃(y:ar)(u:cB)(v':SA)(a1:aS)(c1 b3 b4 b6 b7:Nat),Le [(3,bk b3),(4,bk b4),(6,bk b6),(7,bk b7),(9,.slice a1 w.length c1)] l/\cx [.aQ (.slice a1 w.length c1) 9 1 (ai w),.box b3 (rS v' y) 71 false,.box b4 (hU u) 75 false,.box b6 [eM,eM,eM,cg,eM,cg,eM,.bool false] 71 false,.box b7 [cg,cg,cg,cg,cg,cg,cg] 75 false,.aQ (.slice v'.r 64 v'.rc) 9 1 (ai y.ej),.aQ (.slice v'.f 64 v'.fc) 3 1 (ai y.bd),.aQ (.slice v'.l 64 v'.lc) 3 1 (ai y.dm),.aQ (.slice v'.g y.cP.length v'.gc) 73 5 (ai y.cP),.aQ (.slice v'.d y.eg.length v'.dc) 73 5 (ai y.eg)] L/\dv 80000 y/\dZ u/\lA w 0 st t=(y,u,true)) w.length ⟨0,st,t,v,_,_,_,_,_,_,bp,au,af,af,h,ht,rfl⟩ ?_ ?_
  .rintro k l L ⟨i,y,u,v',a1,c1,b3,b4,b6,b7,hl,hL,rfl,hi,hy,hu,hp⟩;refine W.le ?_ hl hL;clear hl hL;have hy8:dv 80000 y:=hy.mono af;by_cases tp:i<w.length
   .have Rg:=sS _ (aL tp aq.ah);have bU:=nG (k:=i) (z:=w.getD i aq.ah) hy hu af af;rw[drop_cons tp,lA] at hp;rcases uJ:nK y u i (w.getD i aq.ah) with⟨y2,u2,ok⟩
    have TV:∀(dH:SA) s,eO bf bw 144 [fI dH y,tv u,iv i,sv (w.getD i aq.ah)] s [] dH y y2 ok (Ch u2 ok):=λdH s=>by
     have:=sI s dH y hy8 u hu i af (w.getD i aq.ah) af;rw[uJ] at this;exact this
    rw[uJ] at hp bU;cases ok with
    |true=>
     simp only at hp bU;(repeat' (first|refine' aZ|refine' Es|refine' av|fail));(all_goals try exact pE);refine⟨_,?_,i+1,y2,u2,_,_,_,_,_,_,_,bp,au,rfl,af,bU.1.mono af,bU.2.1,hp⟩;omega
    |false=>
     simp only at hp bU;have KB:=bU.2.2 trivial;rw[hp] at Ud;simp only at Ud;rw[Ud];(repeat' (first|refine' aZ|refine' Es|refine' av|fail));(all_goals try exact pE);refine' dV
     .rw[show fI zr y2=fI zr y from KB.fI _];rw[Mo rfl];rfl
     .intro hc;cases hc
   .have fb:i=w.length:=by omega
    subst fb;rw[kG] at hp;refine' cM;(all_goals try exact pE);exact⟨y,u,v',_,_,_,_,_,_,bp,au,hy8,hu,hp⟩
  .rintro l L ⟨y,u,v',a1,c1,b3,b4,b6,b7,hl,hL,hy,hu,hp⟩;refine ak ?_;refine W.le ?_ hl hL;clear hl hL;rw[hp] at Ud;simp only at Ud;rw[Ud];repeat' (first|refine' aZ|refine' ac7|refine' av|fail)
   refine' dV
   .rfl
   .intro hc;cases hc
theorem AT (By:Int):∀(l:List aC)(k m:Nat),m<=k->mr By k m l<=k+l.length
 |[],k,m,h=>by simpa[mr] using h
 |s::l,k,m,h=>by
  rw[mr,cU];split
  .exact gu (AT By l (k+1) _ af) af
  .exact gu (AT By l (k+1) _ af) af
theorem MW {st:ar}{t:cB}{n:Nat}(h:dv n st)(hn:n<=100000)(ht:dZ t)(By:Int):ri st t By<=16:=by have:=AT By (ij st t) 0 0 (cC _);have h2:=(lh (h.mono hn) ht).1;have h3:=ht.mn;unfold ri;omega
theorem PK (s:St)(v:SA)(st:ar)(h:dv 50000 st)(t:cB)(ht:dZ t)(q:Nat)(hq:q<16)(o:c9)(ho:qq 200 st [((ji st t q).getD bA).a6.cG] []=some o)(QQ:o.length<=1000)(og:∀p∈o,bB p=true):
  eO bf bw 159 [fI v st,tv t,iv q] s [] v st (gg st t q).1 true (Ch (gg st t q).2.1 (gg st t q).2.2):=by
 have h1:dv 100000 st:=h.mono af;have hg:∀s,cS s v st->bL 202 [fI v st,tv t,iv q] s (iH v) (vx (ji st t q)):=λs hr=>AN s v st h1 t ht q af hr
 have hla:∀s,cS s v st->bL 203 [fI v st,tv t,iv q] s (iH v) (iv (ri st t q)):=λs hr=>PH s v st h1 t ht q hr
 have hD:=MW h af ht q;have H2:gg st t q=match nK (dC o st) t q [] with
   |(st,t,false)=>(st,t,false)
   |(eI,t2,true)=>tE eI t2 (ri st t q):=by
  have Kw:xC st ((ji st t q).getD bA).a6=o:=by unfold xC;rw[ho];rfl
  unfold gg;simp only[Kw,uM];rfl
 have hal:∀s,cS s v st->eu bf bw 204 [fI v st,tv ((ji st t q).getD bA).a6] s (iH v) 73 o:=λs hr=>YA s v st h1 ((ji st t q).getD bA).a6 o ho hr
 generalize hDv:ri st t q=D at *
 refine aX f159 ?_;dsimp only[eK];(repeat' (first|refine' aZ|((with_reducible apply WO.mw);exact aD;exact λs hr=>hg s hr;exact ez;intros)|((with_reducible apply WO.mw);exact aD;exact λs hr=>hla s hr;exact ez;intros)|((with_reducible apply WO.AL);exact aD;exact λs hr=>hal s hr;exact ez;intro _ _ aiI aiJ _ _)|refine' av|fail));all_goals try refine cI
 refine W.bK (λk l L=>∃(i:Nat)(y:ar)(v':SA)(a1:aS)(c1 b3 b4 b6 b7:Nat),Le [(2,iv q),(11,iv D),(3,bk b3),(4,bk b4),(6,bk b6),(7,bk b7),(12,.slice a1 o.length c1),(13,iv i)] l/\cx [.aQ (.slice a1 o.length c1) 73 5 (ai o),.box b3 (rS v' y) 71 false,.box b4 (hU t) 75 false,.box b6 [eM,eM,eM,cg,eM,cg,eM,.bool false] 71 false,.box b7 [cg,cg,cg,cg,cg,cg,cg] 75 false,.aQ (.slice v'.r 64 v'.rc) 9 1 (ai y.ej),.aQ (.slice v'.f 64 v'.fc) 3 1 (ai y.bd),.aQ (.slice v'.l 64 v'.lc) 3 1 (ai y.dm),.aQ (.slice v'.g y.cP.length v'.gc) 73 5 (ai y.cP),.aQ (.slice v'.d y.eg.length v'.dc) 73 5 (ai y.eg)] L/\k=o.length-i/\i<=o.length/\dv (50000+i) y/\dC o st=dC (o.drop i) y)
  (λl L=>∃(y:ar)(v':SA)(b3 b4 b6 b7:Nat),Le [(2,iv q),(11,iv D),(3,bk b3),(4,bk b4),(6,bk b6),(7,bk b7)] l/\cx [.box b3 (rS v' y) 71 false,.box b4 (hU t) 75 false,.box b6 [eM,eM,eM,cg,eM,cg,eM,.bool false] 71 false,.box b7 [cg,cg,cg,cg,cg,cg,cg] 75 false,.aQ (.slice v'.r 64 v'.rc) 9 1 (ai y.ej),.aQ (.slice v'.f 64 v'.fc) 3 1 (ai y.bd),.aQ (.slice v'.l 64 v'.lc) 3 1 (ai y.dm),.aQ (.slice v'.g y.cP.length v'.gc) 73 5 (ai y.cP),.aQ (.slice v'.d y.eg.length v'.dc) 73 5 (ai y.eg)] L/\dv 51000 y/\dC o st=y) o.length ⟨0,st,v,_,_,_,_,_,_,bp,au,af,af,by simpa using h,rfl⟩ ?_ ?_
 .rintro k l L ⟨i,y,v',a1,c1,b3,b4,b6,b7,hl,hL,rfl,hi,hy,hf⟩;refine W.le ?_ hl hL;clear hl hL;have Vo:dv 100000 y:=hy.mono af;by_cases tp:i<o.length
  .have FD:=og _ (aL tp aq.ah);rw[drop_cons tp] at hf;repeat' (first|refine' aZ|refine' Mn|refine' av|fail)
   (all_goals try exact pE);refine⟨_,?_,i+1,_,X0,_,_,_,_,_,_,bp,au,rfl,af,(hy.free FD).mono af,hf⟩;omega
  .have fb:i=o.length:=by omega
   subst fb;rw[kG] at hf;refine' cM;(all_goals try exact pE);exact⟨y,v',_,_,_,_,bp,au,hy.mono af,hf⟩
 .rintro l L ⟨y,v',b3,b4,b6,b7,hl,hL,hy,hf⟩;refine ak ?_;refine W.le ?_ hl hL;clear hl hL;rw[hf] at H2;have hy8:dv 80000 y:=hy.mono af;rcases uJ:nK y t q [] with⟨y2,t2,ok⟩
  have bU:=nG (k:=q) (z:=[]) hy ht hq ay;rw[uJ] at bU H2;have TV:∀(dH:SA) s,eO bf bw 144 [fI dH y,tv t,iv q,sv []] s [] dH y y2 ok (Ch t2 ok):=λdH s=>by
   have:=sI s dH y hy8 t ht q hq [] ay;rw[uJ] at this;exact this
  cases ok with
  |false=>
   simp only at H2;rw[H2];(repeat' (first|refine' aZ|refine' Es|refine' av|fail));(all_goals try refine cI);refine' dV
   .rfl
   .intro hc;cases hc
  |true=>
   simp only at H2;have hy3:dv 80000 y2:=bU.1.mono af;have ht2:=bU.2.1;rw[H2];(repeat' (first|refine' aZ|refine' Es|refine' ac7|refine' av|fail));(all_goals try refine cI);refine' dV
   .rfl
   .intro hc;cases hc
theorem H3 (st:ar)(n:iE):kU st n=(ew n&&decide (n.kind=1)&&fk st n.a6&&kU.go n 0 (ij st n.a6)):=rfl
theorem MX (s:St)(v:SA)(st:ar)(h:dv 100000 st)(n:iE)(hr:cS s v st):bL 109 [fI v st,nv n] s (iH v) (.bool (kU st n)):=by
 have tO:=Rd.EJ hr;have uB:=Rd.off hr;have uF:=Rd.CI hr;cases hA:(ew n&&decide (n.kind=1)&&fk st n.a6) with
 |false=>
  rw[H3,hA,Bl];refine aX f109 ?_;repeat' (first|refine' aZ|refine' Pp|refine' El|refine' av|fail)
  all_goals first|(exfalso;simp_all;done)|((refine' ax);rfl)
 |true=>
  rw[H3,hA,uN];obtain⟨⟨pR,hki⟩,gd⟩:(ew n=true/\n.kind=1)/\fk st n.a6=true:=by simpa using hA
  have hn:j6 n:=j6.of pR;have ht:=hn.tr;have iX:=hn.sz;obtain⟨hl,dz⟩:=lh h ht;have hm:=ht.mn;have QS:(!ew n)=false:=by rw[pR];rfl
  have GW:(!decide (n.kind=1))=false:=by simp[hki]
  have hn3:(!fk st n.a6)=false:=by rw[gd];rfl
  refine aX f109 ?_;repeat' (first|refine' aZ|refine' Pp|refine' El|refine' ae3|refine' av|fail)
  all_goals first|(exfalso;simp_all;done)|skip
  generalize ij st n.a6=w at *
  refine W.bK (λk l L=>∃(i bs bt:Nat),Le [(2,bk bs),(3,bk bt),(5,.slice gF w.length gG),(6,iv i)] l/\cx [.aQ (.slice gF w.length gG) 9 1 (ai w),.box bs (rS v st) 71 false,.box bt (xV n) 122 false] L/\k=w.length-i/\i<=w.length/\kU.go n 0 w=kU.go n i (w.drop i))
   (λl L=>kU.go n 0 w=true) w.length ⟨0,_,_,bp,au,af,af,rfl⟩ ?_ ?_
  .rintro k l L ⟨i,bs,bt,jA,hL,rfl,h1,h2⟩;refine W.le ?_ jA hL;clear jA hL;by_cases hi:i<w.length
   .have Rg:=dz _ (aL hi aq.ah);rw[drop_cons hi,kU.go] at h2;have hlo:gj n.size i<=12/\ -10000<=gj n.size i:=by unfold gj;omega
    (repeat' (first|refine' aZ|refine' acY|((with_reducible apply WO.aW);exact aD;exact λs=>HG s _ af;intros)|refine' av|fail));all_goals try exact pE
    .have hw:kU.go n 0 w=false:=by rw[h2,ec j5];simp
     rw[hw];refine' ax;rfl
    .refine⟨_,?_,i+1,_,_,bp,au,rfl,af,by rw[h2,du j5,du uw];rfl⟩;omega
    .have hw:kU.go n 0 w=false:=by rw[h2,ec af];rfl
     rw[hw];refine' ax;rfl
   .have fb:i=w.length:=by omega
    subst fb;rw[kG,kU.go] at h2;refine' cM;all_goals first|(exfalso;omega;done)|exact h2
  .rintro l L h1;refine ak ?_;refine W.le ?_ (Le.nil _) (cx.nil _);rw[h1];refine' cM
   refine' ax;rfl
theorem Gh (l:List aC)(h:l≠[]):l.getLastD []=l.getD (l.length-1) aq.ah:=by have hl:0<l.length:=nO.2 h;rw[a7,List.getLastD_eq_getLast?,List.getLast?_eq_getElem?,bc af];rfl
theorem Pt (s:St)(z:aC)(hz:z.length<=90000)(hp:aT z=true)(hn:aI z≠[]):bL 153 [sv z] s [] (sv (Fs.base z)):=by
 obtain⟨z6,aiK⟩:=CH hp;have hl:0<(aI z).length:=nO.2 hn;rw[show Fs.base z=(aI z).getD ((aI z).length-1) aq.ah from Gh _ hn];have h4:(aI z).length<=4:=by
  unfold aT at hp;split at hp
  .rename_i h;exfalso;apply hn;unfold aI;rw[if_pos h]
  .split at hp
   .cases hp
   .simp only[bI,bR] at hp;exact hp.2
 rw[show(aI z).length-1=(((aI z).length:Int)-1).toNat by omega];refine aX f153 ?_;repeat' (first|refine' aZ|refine' TJ|refine' av|fail)
 refine' ax;rfl
def ER (n:iE)(ok:Bool):Value->Value:=λV=>.tuple ⟨[V,nv n,.bool ok]⟩
theorem j6.a6 {n:iE}(h:j6 n){t:cB}(ht:dZ t):j6 {n with a6:=t}:=⟨ht,h.sz⟩
theorem RJ (s:aC):(nL s).length<=s.length:=by unfold nL;rw[QB];have:=(List.dropWhile_sublist (l:=s.reverse) (λx=>decide (x=0))).length_le;rw[QB] at this;exact this
theorem xa (z:aC):∀(m k n:Nat)(st:ar)(u:iE),dv n st->j6 u->k+m<=16->dv (n+30*m) (ka z m k st u).1/\j6 (ka z m k st u).2.1
 |0,k,n,st,u,h,hu,_=>⟨h,hu⟩
 |m+1,k,n,st,u,h,hu,hk=>by
  have hc:=RJ ((z.take (min z.length ((k+1)*12))).drop (k*12));have bU:=nG (k:=k) (z:=nL ((z.take (min z.length ((k+1)*12))).drop (k*12))) h hu.tr af (by rw[eP,cO] at hc;omega);rw[ka];rcases hp:nK st u.a6 k (nL ((z.take (min z.length ((k+1)*12))).drop (k*12))) with⟨eI,t2,ok⟩
  rw[hp] at bU;cases ok with
  |true=>
   have:=xa z m (k+1) (n+30) eI {u with a6:=t2} bU.1 (hu.a6 bU.2.1) af;exact⟨this.1.mono af,this.2⟩
  |false=>exact⟨bU.1.mono af,hu⟩
theorem H4 (s:St)(v:SA)(st:ar)(h:dv 50000 st)(n:iE)(hn:j6 n)(z:aC)(hz:z.length<=1000)(a b:Nat)(lS:a<=b+1)(hb:b<16)(hbz:b*12<=z.length):
  eO bf bw 208 [fI v st,nv n,sv z,iv a,iv b] s [] v st (gC st n z a b).1 true (ER (gC st n z a b).2.1 (gC st n z a b).2.2):=by
 have GW:j6 {n with size:=z.length}:=⟨hn.tr,⟨KE _,by show(z.length:Int)<=10000;omega⟩⟩;refine aX f208 ?_;dsimp only[eK];refine' cM
 refine W.bK (λk l L=>∃(j:Nat)(y:ar)(u:iE)(v':SA)(b5 b6 PI PJ:Nat),Le [(2,sv z),(5,bk b5),(6,bk b6),(10,bk PI),(11,bk PJ),(4,iv b),(13,iv j)] l/\cx [.box b5 (rS v' y) 71 false,.box b6 (xV u) 122 false,.box PI [eM,eM,eM,cg,eM,cg,eM,.bool false] 71 false,.box PJ [cg,cg,cg,cg,cg,cg,cg,cg,cg,cg] 122 false,.aQ (.slice v'.r 64 v'.rc) 9 1 (ai y.ej),.aQ (.slice v'.f 64 v'.fc) 3 1 (ai y.bd),.aQ (.slice v'.l 64 v'.lc) 3 1 (ai y.dm),.aQ (.slice v'.g y.cP.length v'.gc) 73 5 (ai y.cP),.aQ (.slice v'.d y.eg.length v'.dc) 73 5 (ai y.eg)] L/\k=b+1-j/\j<=b+1/\a<=j/\dv (50000+30*(j-a)) y/\j6 u/\gC st n z a b=ka z (b+1-j) j y u)
  (λl L=>∃(y:ar)(u:iE)(v':SA)(b5 b6 PI PJ:Nat),Le [(5,bk b5),(6,bk b6),(10,bk PI),(11,bk PJ)] l/\cx [.box b5 (rS v' y) 71 false,.box b6 (xV u) 122 false,.box PI [eM,eM,eM,cg,eM,cg,eM,.bool false] 71 false,.box PJ [cg,cg,cg,cg,cg,cg,cg,cg,cg,cg] 122 false,.aQ (.slice v'.r 64 v'.rc) 9 1 (ai y.ej),.aQ (.slice v'.f 64 v'.fc) 3 1 (ai y.bd),.aQ (.slice v'.l 64 v'.lc) 3 1 (ai y.dm),.aQ (.slice v'.g y.cP.length v'.gc) 73 5 (ai y.cP),.aQ (.slice v'.d y.eg.length v'.dc) 73 5 (ai y.eg)] L/\gC st n z a b=(y,u,true)) (b+1-a) ⟨a,st,{n with size:=z.length},v,_,_,_,_,bp,au,rfl,af,cC _,by simpa using h,GW,rfl⟩ ?_ ?_
 .rintro k l L ⟨j,y,u,v',b5,b6,PI,PJ,hl,hL,rfl,hj,haj,hy,hu,hp⟩;refine W.le ?_ hl hL;clear hl hL;have hy8:dv 80000 y:=hy.mono af;have F1:=hu.tr;by_cases SV:j<=b
  .have hc:=RJ ((z.take (min z.length ((j+1)*12))).drop (j*12));have uA:(nL ((z.take (min z.length ((j+1)*12))).drop (j*12))).length<=12:=by rw[eP,cO] at hc;omega
   have bU:=nG (k:=j) (z:=nL ((z.take (min z.length ((j+1)*12))).drop (j*12))) hy F1 af af;rw[show b+1-j=(b+1-(j+1))+1 by omega,ka] at hp;have jf:List.take ((min (↑(List.length z)) (((j:Int)+1)*12)).toNat-((j:Int)*12).toNat) (List.drop ((j:Int)*12).toNat z)=(z.take (min z.length ((j+1)*12))).drop (j*12):=by
    rw[List.drop_take]
    congr 1<;>first|omega|(congr 1;omega)
   generalize hw:nL ((z.take (min z.length ((j+1)*12))).drop (j*12))=w at hp bU uA;rcases uJ:nK y u.a6 j w with⟨y2,u2,ok⟩
   have TV:∀(dH:SA) s,eO bf bw 144 [fI dH y,tv u.a6,iv j,sv (nL (List.take ((min (↑(List.length z)) (((j:Int)+1)*12)).toNat-((j:Int)*12).toNat) (List.drop ((j:Int)*12).toNat z)))] s [] dH y y2 ok (Ch u2 ok):=λdH s=>by
    have:=sI s dH y hy8 u.a6 F1 j af w af;rw[uJ] at this;rw[jf,hw];exact this
   rw[uJ] at hp bU;have hjz:j*12<=z.length:=by omega
   cases ok with
   |true=>
    simp only at hp bU;(repeat' (first|refine' aZ|refine' ada|refine' Es|refine' av|fail));(all_goals try exact pE);refine⟨_,?_,j+1,y2,{u with a6:=u2},_,_,_,_,_,bp,au,rfl,af,af,bU.1.mono af,hu.a6 bU.2.1,hp⟩;omega
   |false=>
    simp only at hp bU;have KB:=bU.2.2 trivial;rw[hp];(repeat' (first|refine' aZ|refine' ada|refine' Es|refine' av|fail));(all_goals try exact pE);refine' dV
    .rw[show fI zr y2=fI zr y from KB.fI _];rw[Mo rfl];rfl
    .intro hc;cases hc
  .have hj':j=b+1:=by omega
   subst hj';rw[Ag,ka] at hp;refine' cM;(all_goals try exact pE);exact⟨y,u,v',_,_,_,_,bp,au,hp⟩
 .rintro l L ⟨y,u,v',b5,b6,PI,PJ,hl,hL,hp⟩;refine ak ?_;refine W.le ?_ hl hL;clear hl hL;rw[hp];refine' cM
  refine' dV
  .rfl
  .intro hc;cases hc
variable {s:St}{bd dm:List Int}
theorem RL.r {s:St}{v:SA}{st:ar}(h:zC s v st):Rd ⟨s,([]:dy).flatMap It.cr,Gf v⟩ v.r 64 1 (ai st.ej):=Rd.of h.a.r λ_ hb=>cA _ (HS hb)
theorem RL.f {s:St}{v:SA}{st:ar}(h:zC s v st):Rd ⟨s,([]:dy).flatMap It.cr,Gf v⟩ v.f 64 1 (ai st.bd):=Rd.of h.a.f λ_ hb=>cA _ (HT hb)
theorem RL.l {s:St}{v:SA}{st:ar}(h:zC s v st):Rd ⟨s,([]:dy).flatMap It.cr,Gf v⟩ v.l 64 1 (ai st.dm):=Rd.of h.a.l λ_ hb=>cA _ (HU hb)
theorem RL.g {s:St}{v:SA}{st:ar}(h:zC s v st):Rd ⟨s,([]:dy).flatMap It.cr,Gf v⟩ v.g st.cP.length 5 (ai st.cP):=Rd.of h.g λ_ hb=>dt _ (cA _ hb)
theorem RL.d {s:St}{v:SA}{st:ar}(h:zC s v st):Rd ⟨s,([]:dy).flatMap It.cr,Gf v⟩ v.d st.eg.length 5 (ai st.eg):=Rd.of h.d λ_ hb=>dt _ (dt _ hb)
abbrev RM (E:iq)(X:fY)(f:FuncId)(vs:aY)(s:St)(A:List Nat)(bd dm:List Int):Prop:=fA E X f vs s [] A λr L=>∃a c a2 c2,r= .agg ⟨[.slice a 64 c,.slice a2 64 c2]⟩/\L=[.aQ (.slice a2 64 c2) 3 1 (ai dm),.aQ (.slice a 64 c) 3 1 (ai bd)]
section
variable {l:Kn}{f:FuncId}
theorem WO.aiL (hx:jY l xs vs)(h:∀s,cS s v st->RM E X f vs s (iH v) bd dm)(hh:ru Γ L v st)(k:∀m m' a c a2 c2,iY L m->m<=m'->K (.agg ⟨[.slice a 64 c,.slice a2 64 c2]⟩) (.aQ (.slice a2 64 c2) 3 1 (ai dm):: .aQ (.slice a 64 c) 3 1 (ai bd)::L) m m' (mV (iH v) [] m m') (mW [] m m')):WC E X Γ l f xs ts L K:=
 WO.call (Lm:=[]) (R:=L) hx (.refl _) (λs hi=>(hh.row hi).2) (λs hi=>h s (hh.row hi).1) (by rintro r L' m m' ho hm ⟨a,c,a2,c2,rfl,rfl⟩;exact k m m' a c a2 c2 ho hm)
theorem WO.afr (hx:jY l xs vs)(h:∀s,RM E X f vs s [] bd dm)(k:∀m m' a c a2 c2,iY L m->m<=m'->K (.agg ⟨[.slice a 64 c,.slice a2 64 c2]⟩) (.aQ (.slice a2 64 c2) 3 1 (ai dm):: .aQ (.slice a 64 c) 3 1 (ai bd)::L) m m' (mV [] [] m m') (mW [] m m')):WC E X Γ l f xs ts L K:=
 WO.call (Lm:=[]) (R:=L) hx (.refl _) (λs hi b hb=>by cases hb) (λs hi=>h s) (by rintro r L' m m' ho hm ⟨a,c,a2,c2,rfl,rfl⟩;exact k m m' a c a2 c2 ho hm)
theorem ahS {rs:List ResultVar}{x:Ex}{cZ:ar}{a1 a2 a3 a4 a5:aS}{c1 c2 c3 c4 c5:Nat}(hx:x= .normal\/x= .ret)(hr:qO E l L rs [.agg ⟨[.slice a1 64 c1,.slice a2 64 c2,.slice a3 64 c3,iv cZ.fH,.slice a4 cZ.cP.length c4,iv cZ.oQ,.slice a5 cZ.eg.length c5,.bool cZ.same]⟩])
  (hL:cx [.aQ (.slice a1 64 c1) 9 1 (ai cZ.ej),.aQ (.slice a2 64 c2) 3 1 (ai cZ.bd),.aQ (.slice a3 64 c3) 3 1 (ai cZ.dm),.aQ (.slice a4 cZ.cP.length c4) 73 5 (ai cZ.cP),.aQ (.slice a5 cZ.eg.length c5) 73 5 (ai cZ.eg)] L):
  wK E rs (λr L=>∃v':SA,r=id (fI v' cZ)/\L=eK v' cZ) x l L:=⟨hx,_,_,hr,hL,⟨a1,c1,a2,c2,a3,c3,a4,c4,a5,c5⟩,rfl,rfl⟩
theorem alo {rs:List ResultVar}{x:Ex}{a a2:aS}{c c2:Nat}(hx:x= .normal\/x= .ret)(hr:qO E l L rs [.agg ⟨[.slice a 64 c,.slice a2 64 c2]⟩])(hL:cx [.aQ (.slice a2 64 c2) 3 1 (ai dm),.aQ (.slice a 64 c) 3 1 (ai bd)] L):
  wK E rs (λr L=>∃a c a2 c2,r= .agg ⟨[.slice a 64 c,.slice a2 64 c2]⟩/\L=[.aQ (.slice a2 64 c2) 3 1 (ai dm),.aQ (.slice a 64 c) 3 1 (ai bd)]) x l L:=⟨hx,_,_,hr,hL,a,c,a2,c2,rfl,rfl⟩
end
theorem Ue (s:St)(v:SA)(st:ar)(h:dv 100000 st)(hr:cS s v st):RM bf bw 146 [.agg ⟨[.slice v.f 64 v.fc,.slice v.l 64 v.lc]⟩] s (iH v) st.bd st.dm:=by have uB:=Rd.off hr;have uF:=Rd.CI hr;have B8:=h.lf;have hll:=h.ll;refine aX f146 ?_;refine' cM;refine' acS
theorem MY (s:St):RM bf bw 98 [] s [] (List.replicate 64 (0:Int)) (List.replicate 64 (0:Int)):=by refine aX f98 ?_;refine' cM;refine' acS
theorem TW (s:St)(v:SA)(st:ar)(h:dv 100000 st)(hr:zC s v st):MP bf bw 97 [fI v st] s (Gf v) st id:=by have tO:=RL.r hr;have uB:=RL.f hr;have uF:=RL.l hr;have hdg:=RL.g hr;have hdd:=RL.d hr;have Ku:=h.lr;have gL:=h.gl;have anM:=h.dl;refine aX f97 ?_;(repeat' (first|refine' aZ|((with_reducible apply WO.aiL);exact aD;exact λs hr=>Ue s _ _ aP hr;exact ez;intro _ _ aiM aiN aiO aiP _ _)|refine' av|fail));refine' XI
theorem MZ (s:St)(b:Bool):MP bf bw 59 [.bool b] s [] (bV b) id:=by refine aX f59 ?_;(repeat' (first|refine' aZ|((with_reducible apply WO.afr);exact aD;exact λs=>MY s;intro _ _ afs aft afu afv _ _)|refine' av|fail));refine' XI
theorem abN (st:ar):next st={(st.cP.foldl (λst p=>drop st p.row) st) with cP:=[],fH:=st.fH+1}:=rfl
theorem H5 (s:St)(v:SA)(st:ar)(h:dv 70000 st)(hn:st.cP.length<=30000):eO bf bw 64 [fI v st] s [] v st (next st) true id:=by
 rw[abN];refine aX f64 ?_;dsimp only[eK];refine' cM
 refine W.bK (λk l L=>∃(i:Nat)(y:ar)(v':SA)(b1 b2:Nat),Le [(1,bk b1),(2,bk b2),(3,iv i)] l/\cx [.box b1 (rS v' y) 71 false,.box b2 [eM,eM,eM,cg,eM,cg,eM,.bool false] 71 false,.aQ (.slice v'.r 64 v'.rc) 9 1 (ai y.ej),.aQ (.slice v'.f 64 v'.fc) 3 1 (ai y.bd),.aQ (.slice v'.l 64 v'.lc) 3 1 (ai y.dm),.aQ (.slice v'.g y.cP.length v'.gc) 73 5 (ai y.cP),.aQ (.slice v'.d y.eg.length v'.dc) 73 5 (ai y.eg)] L/\k=st.cP.length-i/\i<=st.cP.length/\dv (70000+i) y/\y.cP=st.cP/\y.fH=st.fH/\st.cP.foldl (λst p=>drop st p.row) st=(st.cP.drop i).foldl (λst p=>drop st p.row) y)
  (λl L=>∃(y:ar)(v':SA)(b1 b2:Nat),Le [(1,bk b1),(2,bk b2)] l/\cx [.box b1 (rS v' y) 71 false,.box b2 [eM,eM,eM,cg,eM,cg,eM,.bool false] 71 false,.aQ (.slice v'.r 64 v'.rc) 9 1 (ai y.ej),.aQ (.slice v'.f 64 v'.fc) 3 1 (ai y.bd),.aQ (.slice v'.l 64 v'.lc) 3 1 (ai y.dm),.aQ (.slice v'.d y.eg.length v'.dc) 73 5 (ai y.eg)] L/\dv 100000 y/\y.fH=st.fH/\st.cP.foldl (λst p=>drop st p.row) st=y) st.cP.length ⟨0,st,v,_,_,bp,au,af,af,h,rfl,rfl,rfl⟩ ?_ ?_
 .rintro k l L ⟨i,y,v',b1,b2,hl,hL,rfl,hi,hy,hyg,hyt,hf⟩;refine W.le ?_ hl hL;clear hl hL;have Vo:dv 100000 y:=hy.mono af;have gL:y.cP.length=st.cP.length:=by rw[hyg]
  by_cases tp:i<st.cP.length
  .have Lv:0<=(y.cP.getD i aq.ah).row/\(y.cP.getD i aq.ah).row<64:=hy.gr _ (aL af _);rw[drop_cons tp,Ah] at hf;repeat' (first|refine' aZ|refine' ac5|refine' av|fail)
   (all_goals try exact pE);refine⟨_,?_,i+1,_,XW,_,_,bp,au,rfl,af,hy.drop,hyg,hyt,?_⟩
   .omega
   .rw[hf,hyg]
  .have fb:i=st.cP.length:=by omega
   subst fb;rw[kG] at hf;refine' cM;(all_goals try exact pE);exact⟨y,v',_,_,bp,au,Vo,hyt,hf⟩
 .rintro l L ⟨y,v',b1,b2,hl,hL,hy,hyt,hf⟩;refine ak ?_;refine W.le ?_ hl hL;clear hl hL;have Cb:=hy.tx;rw[hf,<-hyt];refine' cM
  refine qU (v':=⟨v'.r,v'.rc,v'.f,v'.fc,v'.l,v'.lc,some ⟨bl,0,none⟩,0,v'.d,v'.dc⟩) cy bY au ?_ (λhc=>(by cases hc));rfl
end Go.Pl
