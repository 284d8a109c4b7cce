/- Lemmas of the proof. No conditions. -/
import Derived.Test.YtajgfdfbnhchcaaGreatDoorAe6
set_option maxRecDepth 100000
set_option maxHeartbeats 4000000
set_option linter.unusedVariables false
set_option linter.unusedSimpArgs false
open Go.Proofs.Tryz
namespace Go.Pl
open Go Go.Ev Go.Lg Go.Proofs
def doV (t:bX)(code:Int):Value->Value:=λV=>.tuple ⟨[V,tv t,iv code]⟩
theorem YI {o:Op}(h:gJ o=true):(1<=o.kind/\o.kind<=7)/\o.aW.length<=24:=by
 refine' zas
 rw[e] at h;simp only at h;split at h
 .cases h
 .rename_i h1;split at h
  .cases h
  .rename_i h2;simp only[fR,mS,bU,bQ,pU,not_or] at h1 h2;refine⟨?_,ag⟩;have:=h1.1.1.1;simpa using this
theorem M8 (s:St)(v:SA)(st:ar)(t:bX)(h:dv 38000 st)(ht:eb t)(o9:Pg.FS st t)(o:Op)(ho:gJ o=true)(hz:o.af.length<=3000)(hzt:o.to.length<=3000):
  eQ a8 bj 76 [fD v st,tv t,ov o] s [] v st (eT st t o).1 true (doV (eT st t o).2.1 (eT st t o).2.2):=by
 have tc:dv 100000 st:=h.mono ag;obtain⟨o1,o2,o3,o4⟩:=Pg.AN ho;obtain⟨o5,o6⟩:=YI ho;have iX:eT st t o=(
  let r:=if o.kind=1 then Fs.make ⟨st,t,false⟩ o.af 1 else if o.kind=2 then Fs.make ⟨st,t,false⟩ o.af 2 else if o.kind=5 then Fs.qe ⟨st,t,false⟩ o.af else
  if o.kind=6 then Fs.link ⟨st,t,false⟩ o.af o.to else if o.kind=7 then Fs.move ⟨st,t,false⟩ o.af o.to else Fs.change ⟨st,t,false⟩ o
  if(if r.2=0/\r.1.cC then 7 else r.2)≠0 then(st,t,(if r.2=0/\r.1.cC then 7 else r.2)) else(r.1.st,r.1.t,(if r.2=0/\r.1.cC then 7 else r.2))):=rfl
 rcases(by omega:o.kind=1\/o.kind=2\/o.kind=5\/o.kind=6\/o.kind=7\/(o.kind=3\/o.kind=4)) with hk|hk|hk|hk|hk|hk
 ·
  have mD:∀b dI s,mG a8 bj 113 [bc b,sv o.af,.int .i64 1] s b dI ⟨st,t,false⟩ (Fs.make ⟨st,t,false⟩ o.af 1).1 (iv (Fs.make ⟨st,t,false⟩ o.af 1).2):=λb dI s=>HV s b dI st t (h.mono ag) ht o9 o.af ag o1 1 (.inl rfl)
  simp only[hk,if_true,if_pos] at iX;generalize Fs.make ⟨st,t,false⟩ o.af 1=r at *
  refine' zau
  .subst M9;cases cC with
   |true=>
    have iX:eT st t o=(st,t,7):=iX;rw[iX];refine aU f76 ?_;dsimp only[eO];(refine' Ha)
    all_goals refine' zae
   |false=>
    refine' zaK
  .have iX:eT st t o=(st,t,code):=by rw[iX];simp[M9]
   rw[iX];refine aU f76 ?_;dsimp only[eO];(refine' Ha)
   all_goals refine' zae
 ·
  have mD:∀b dI s,mG a8 bj 113 [bc b,sv o.af,.int .i64 2] s b dI ⟨st,t,false⟩ (Fs.make ⟨st,t,false⟩ o.af 2).1 (iv (Fs.make ⟨st,t,false⟩ o.af 2).2):=λb dI s=>HV s b dI st t (h.mono ag) ht o9 o.af ag o1 2 (.inr rfl)
  rw[if_neg (show ¬o.kind=1 by omega),if_pos hk] at iX;generalize Fs.make ⟨st,t,false⟩ o.af 2=r at *
  refine' zau
  .subst M9;cases cC with
   |true=>
    have iX:eT st t o=(st,t,7):=iX;rw[iX];refine aU f76 ?_;dsimp only[eO];(refine' Ha)
    all_goals refine' zae
   |false=>
    refine' zaK
  .have iX:eT st t o=(st,t,code):=by rw[iX];simp[M9]
   rw[iX];refine aU f76 ?_;dsimp only[eO];(refine' Ha)
   all_goals refine' zae
 ·
  have mD:∀b dI s,mG a8 bj 114 [bc b,sv o.af] s b dI ⟨st,t,false⟩ (Fs.qe ⟨st,t,false⟩ o.af).1 (iv (Fs.qe ⟨st,t,false⟩ o.af).2):=λb dI s=>TX s b dI st t (h.mono ag) ht o9 o.af ag o1
  rw[if_neg (show ¬o.kind=1 by omega),if_neg (show ¬o.kind=2 by omega),if_pos hk] at iX;generalize Fs.qe ⟨st,t,false⟩ o.af=r at *
  refine' zau
  .subst M9;cases cC with
   |true=>
    have iX:eT st t o=(st,t,7):=iX;rw[iX];refine aU f76 ?_;dsimp only[eO];(repeat' (first|refine' a7|refine' rh|refine' W3|refine' aw|fail))
    all_goals refine' zae
   |false=>
    have iX:eT st t o=(eL,t2,0):=iX;rw[iX];refine aU f76 ?_;dsimp only[eO];(repeat' (first|refine' a7|refine' rh|refine' W3|refine' aw|fail))
    all_goals try refine cM
    all_goals(refine qK (v':=FL) bB bn au ?_ (λhc=>(by cases hc));rfl)
  .have iX:eT st t o=(st,t,code):=by rw[iX];simp[M9]
   rw[iX];refine aU f76 ?_;dsimp only[eO];(repeat' (first|refine' a7|refine' rh|refine' W3|refine' aw|fail))
   all_goals refine' zae
 ·
  have mD:∀b dI s,mG a8 bj 115 [bc b,sv o.af,sv o.to] s b dI ⟨st,t,false⟩ (Fs.link ⟨st,t,false⟩ o.af o.to).1 (iv (Fs.link ⟨st,t,false⟩ o.af o.to).2):=λb dI s=>T4 s b dI st t (h.mono ag) ht o9 o.af ag o1 o.to ag (o2 (.inl hk))
  rw[if_neg (show ¬o.kind=1 by omega),if_neg (show ¬o.kind=2 by omega),if_neg (show ¬o.kind=5 by omega),if_pos hk] at iX;generalize Fs.link ⟨st,t,false⟩ o.af o.to=r at *
  refine' zau
  .subst M9;cases cC with
   |true=>
    have iX:eT st t o=(st,t,7):=iX;rw[iX];refine aU f76 ?_;dsimp only[eO];(repeat' (first|refine' a7|refine' rh|refine' W4|refine' aw|fail))
    all_goals refine' zae
   |false=>
    have iX:eT st t o=(eL,t2,0):=iX;rw[iX];refine aU f76 ?_;dsimp only[eO];(repeat' (first|refine' a7|refine' rh|refine' W4|refine' aw|fail))
    all_goals try refine cM
    all_goals(refine qK (v':=FM) bB bn au ?_ (λhc=>(by cases hc));rfl)
  .have iX:eT st t o=(st,t,code):=by rw[iX];simp[M9]
   rw[iX];refine aU f76 ?_;dsimp only[eO];(repeat' (first|refine' a7|refine' rh|refine' W4|refine' aw|fail))
   all_goals refine' zae
 ·
  have mD:∀b dI s,mG a8 bj 116 [bc b,sv o.af,sv o.to] s b dI ⟨st,t,false⟩ (Fs.move ⟨st,t,false⟩ o.af o.to).1 (iv (Fs.move ⟨st,t,false⟩ o.af o.to).2):=λb dI s=>T5 s b dI st t (h.mono ag) ht o9 o.af ag o1 o.to ag (o2 (.inr hk))
  rw[if_neg (show ¬o.kind=1 by omega),if_neg (show ¬o.kind=2 by omega),if_neg (show ¬o.kind=5 by omega),if_neg (show ¬o.kind=6 by omega),if_pos hk] at iX;generalize Fs.move ⟨st,t,false⟩ o.af o.to=r at *
  refine' zau
  .subst M9;cases cC with
   |true=>
    have iX:eT st t o=(st,t,7):=iX;rw[iX];refine aU f76 ?_;dsimp only[eO];(repeat' (first|refine' a7|refine' rh|refine' W5|refine' aw|fail))
    all_goals refine' zae
   |false=>
    have iX:eT st t o=(eL,t2,0):=iX;rw[iX];refine aU f76 ?_;dsimp only[eO];(repeat' (first|refine' a7|refine' rh|refine' W5|refine' aw|fail))
    all_goals try refine cM
    all_goals(refine qK (v':=FN) bB bn au ?_ (λhc=>(by cases hc));rfl)
  .have iX:eT st t o=(st,t,code):=by rw[iX];simp[M9]
   rw[iX];refine aU f76 ?_;dsimp only[eO];(repeat' (first|refine' a7|refine' rh|refine' W5|refine' aw|fail))
   all_goals refine' zae
 ·
  have mD:∀b dI s,mG a8 bj 117 [bc b,ov o] s b dI ⟨st,t,false⟩ (Fs.change ⟨st,t,false⟩ o).1 (iv (Fs.change ⟨st,t,false⟩ o).2):=λb dI s=>MZ s b dI st t (h.mono ag) ht o9 o ag o1 ⟨o3,o4⟩ o6
  rw[if_neg (show ¬o.kind=1 by omega),if_neg (show ¬o.kind=2 by omega),if_neg (show ¬o.kind=5 by omega),if_neg (show ¬o.kind=6 by omega),if_neg (show ¬o.kind=7 by omega)] at iX;generalize Fs.change ⟨st,t,false⟩ o=r at *
  refine' zau
  .subst M9;cases cC with
   |true=>
    have iX:eT st t o=(st,t,7):=iX;rw[iX];refine aU f76 ?_;dsimp only[eO];(repeat' (first|refine' a7|refine' rh|refine' W6|refine' aw|fail))
    all_goals refine' zae
   |false=>
    have iX:eT st t o=(eL,t2,0):=iX;rw[iX];refine aU f76 ?_;dsimp only[eO];(repeat' (first|refine' a7|refine' rh|refine' W6|refine' aw|fail))
    all_goals try refine cM
    all_goals(refine qK (v':=BU) bB bn au ?_ (λhc=>(by cases hc));rfl)
  .have iX:eT st t o=(st,t,code):=by rw[iX];simp[M9]
   rw[iX];refine aU f76 ?_;dsimp only[eO];(repeat' (first|refine' a7|refine' rh|refine' W6|refine' aw|fail))
   all_goals refine' zae
abbrev jO:List Op:=[⟨2,[47,97],[],0,[]⟩,⟨1,[47,98],[],0,[]⟩,⟨1,[47,97,47,98],[],0,[]⟩,⟨3,[47,98],[],0,[104,101,108,108,111,32,104,101,108,108,111,32,104,101,108,108,111]⟩,⟨2,[47,97,47,99],[],0,[]⟩,⟨3,[47,97,47,98],[],30,[104,101,108,108,111,32,104,101,108,108,111,32,104,101,108,108,111]⟩]
theorem T8:∀o∈jO,gJ o=true/\o.af.length<=3000/\o.to.length<=3000:=by decide
theorem MQ (s:St):fa a8 bj 75 [] s [] 28 jO:=by
 refine aU f75 ?_;(repeat' (first|refine' a7|((with_reducible apply WO.lit (α:=Op) (xs:=jO));exact yT;exact rfl;exact rfl;intro bl _)|refine' aw|fail))
 (refine' lN)
 rfl
abbrev YJ (E:dA)(X:dM)(g:FuncId)(vs:aQ)(s:St)(br:Nat)(a:aK)(code:aA)(c p d:Nat):Prop:=fH E X g vs s [oo br a code.length c p] (aj a) λR L=>∃(p':Nat)(v':SA)(st:ar)(t:bX),p'<=p+d/\Pg.FS st t/\dv 30000 st/\eb t/\R= .tuple ⟨[fD v' st,tv t]⟩/\L=oo br a code.length c p'::eO v' st
theorem zG:∀z∈xX,z.length<=3000:=by decide
end Go.Pl
