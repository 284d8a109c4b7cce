/- Lemmas of the proof. No conditions. -/
import Derived.Test.YtjaeddbblleomaaGreatDoorAe9
set_option maxRecDepth 100000
set_option maxHeartbeats 4000000
set_option linter.unusedVariables false
set_option linter.unusedSimpArgs false
open Go.Proofs.Tryz
namespace Go.Pl
open Go Go.Ev Go.Lg Go.Proofs
def doV (t:bX)(code:Int):Value->Value:=λV=>.tuple ⟨[V,tv t,iv code]⟩
theorem XZ {o:Op}(h:iJ o=true):(1<=o.kind/\o.kind<=7)/\o.bh.length<=24:=by
 refine' zar
 rw[e] at h;simp only at h;split at h
 .cases h
 .rename_i h1;split at h
  .cases h
  .rename_i h2;simp only[fR,mC,cv,cl,pG,not_or] at h1 h2;refine⟨?_,af⟩;have:=h1.1.1.1;simpa using this
theorem MC (s:St)(v:SA)(st:ak)(t:bX)(h:du 38000 st)(ht:dZ t)(oO:Pg.FS st t)(o:Op)(ho:iJ o=true)(hz:o.ag.length<=3000)(hzt:o.to.length<=3000):
  eP aU aW 56 [fF v st,tv t,ov o] s [] v st (eS st t o).1 true (doV (eS st t o).2.1 (eS st t o).2.2):=by
 have tP:du 100000 st:=h.mono af;obtain⟨o1,o2,o3,o4⟩:=Pg.Af ho;obtain⟨o5,o6⟩:=XZ ho;have iK:eS st t o=(
  let r:=if o.kind=1 then Fs.make ⟨st,t,false⟩ o.ag 1 else if o.kind=2 then Fs.make ⟨st,t,false⟩ o.ag 2 else if o.kind=5 then Fs.pR ⟨st,t,false⟩ o.ag else
  if o.kind=6 then Fs.link ⟨st,t,false⟩ o.ag o.to else if o.kind=7 then Fs.move ⟨st,t,false⟩ o.ag o.to else Fs.change ⟨st,t,false⟩ o
  if(if r.2=0/\r.1.cK then 7 else r.2)≠0 then(st,t,(if r.2=0/\r.1.cK then 7 else r.2)) else(r.1.st,r.1.t,(if r.2=0/\r.1.cK then 7 else r.2))):=rfl
 rcases(by omega:o.kind=1\/o.kind=2\/o.kind=5\/o.kind=6\/o.kind=7\/(o.kind=3\/o.kind=4)) with hk|hk|hk|hk|hk|hk
 ·
  have mg:∀b dI s,ml aU aW 94 [aP b,sv o.ag,.int .i64 1] s b dI ⟨st,t,false⟩ (Fs.make ⟨st,t,false⟩ o.ag 1).1 (iv (Fs.make ⟨st,t,false⟩ o.ag 1).2):=λb dI s=>Hv s b dI st t (h.mono af) ht oO o.ag af o1 1 (.inl rfl)
  simp only[hk,if_true,if_pos] at iK;generalize Fs.make ⟨st,t,false⟩ o.ag 1=r at *
  refine' zat
  .subst MD;cases cK with
   |true=>
    have iK:eS st t o=(st,t,7):=iK;rw[iK];refine aO f56 ?_;dsimp only[eM];(refine' GI)
    all_goals refine' zad
   |false=>
    refine' zaJ
  .have iK:eS st t o=(st,t,code):=by rw[iK];simp[MD]
   rw[iK];refine aO f56 ?_;dsimp only[eM];(refine' GI)
   all_goals refine' zad
 ·
  have mg:∀b dI s,ml aU aW 94 [aP b,sv o.ag,.int .i64 2] s b dI ⟨st,t,false⟩ (Fs.make ⟨st,t,false⟩ o.ag 2).1 (iv (Fs.make ⟨st,t,false⟩ o.ag 2).2):=λb dI s=>Hv s b dI st t (h.mono af) ht oO o.ag af o1 2 (.inr rfl)
  rw[if_neg (show ¬o.kind=1 by omega),if_pos hk] at iK;generalize Fs.make ⟨st,t,false⟩ o.ag 2=r at *
  refine' zat
  .subst MD;cases cK with
   |true=>
    have iK:eS st t o=(st,t,7):=iK;rw[iK];refine aO f56 ?_;dsimp only[eM];(refine' GI)
    all_goals refine' zad
   |false=>
    refine' zaJ
  .have iK:eS st t o=(st,t,code):=by rw[iK];simp[MD]
   rw[iK];refine aO f56 ?_;dsimp only[eM];(refine' GI)
   all_goals refine' zad
 ·
  have mg:∀b dI s,ml aU aW 95 [aP b,sv o.ag] s b dI ⟨st,t,false⟩ (Fs.pR ⟨st,t,false⟩ o.ag).1 (iv (Fs.pR ⟨st,t,false⟩ o.ag).2):=λb dI s=>Tg s b dI st t (h.mono af) ht oO o.ag af o1
  rw[if_neg (show ¬o.kind=1 by omega),if_neg (show ¬o.kind=2 by omega),if_pos hk] at iK;generalize Fs.pR ⟨st,t,false⟩ o.ag=r at *
  refine' zat
  .subst MD;cases cK with
   |true=>
    have iK:eS st t o=(st,t,7):=iK;rw[iK];refine aO f56 ?_;dsimp only[eM];(repeat' (first|refine' aX|refine' qR|refine' Wg|refine' ar|fail))
    all_goals refine' zad
   |false=>
    have iK:eS st t o=(eI,t2,0):=iK;rw[iK];refine aO f56 ?_;dsimp only[eM];(repeat' (first|refine' aX|refine' qR|refine' Wg|refine' ar|fail))
    all_goals try refine cI
    all_goals(refine qv (v':=E6) bB bj aq ?_ (λhc=>(by cases hc));rfl)
  .have iK:eS st t o=(st,t,code):=by rw[iK];simp[MD]
   rw[iK];refine aO f56 ?_;dsimp only[eM];(repeat' (first|refine' aX|refine' qR|refine' Wg|refine' ar|fail))
   all_goals refine' zad
 ·
  have mg:∀b dI s,ml aU aW 96 [aP b,sv o.ag,sv o.to] s b dI ⟨st,t,false⟩ (Fs.link ⟨st,t,false⟩ o.ag o.to).1 (iv (Fs.link ⟨st,t,false⟩ o.ag o.to).2):=λb dI s=>Tn s b dI st t (h.mono af) ht oO o.ag af o1 o.to af (o2 (.inl hk))
  rw[if_neg (show ¬o.kind=1 by omega),if_neg (show ¬o.kind=2 by omega),if_neg (show ¬o.kind=5 by omega),if_pos hk] at iK;generalize Fs.link ⟨st,t,false⟩ o.ag o.to=r at *
  refine' zat
  .subst MD;cases cK with
   |true=>
    have iK:eS st t o=(st,t,7):=iK;rw[iK];refine aO f56 ?_;dsimp only[eM];(repeat' (first|refine' aX|refine' qR|refine' Wh|refine' ar|fail))
    all_goals refine' zad
   |false=>
    have iK:eS st t o=(eI,t2,0):=iK;rw[iK];refine aO f56 ?_;dsimp only[eM];(repeat' (first|refine' aX|refine' qR|refine' Wh|refine' ar|fail))
    all_goals try refine cI
    all_goals(refine qv (v':=E7) bB bj aq ?_ (λhc=>(by cases hc));rfl)
  .have iK:eS st t o=(st,t,code):=by rw[iK];simp[MD]
   rw[iK];refine aO f56 ?_;dsimp only[eM];(repeat' (first|refine' aX|refine' qR|refine' Wh|refine' ar|fail))
   all_goals refine' zad
 ·
  have mg:∀b dI s,ml aU aW 97 [aP b,sv o.ag,sv o.to] s b dI ⟨st,t,false⟩ (Fs.move ⟨st,t,false⟩ o.ag o.to).1 (iv (Fs.move ⟨st,t,false⟩ o.ag o.to).2):=λb dI s=>To s b dI st t (h.mono af) ht oO o.ag af o1 o.to af (o2 (.inr hk))
  rw[if_neg (show ¬o.kind=1 by omega),if_neg (show ¬o.kind=2 by omega),if_neg (show ¬o.kind=5 by omega),if_neg (show ¬o.kind=6 by omega),if_pos hk] at iK;generalize Fs.move ⟨st,t,false⟩ o.ag o.to=r at *
  refine' zat
  .subst MD;cases cK with
   |true=>
    have iK:eS st t o=(st,t,7):=iK;rw[iK];refine aO f56 ?_;dsimp only[eM];(repeat' (first|refine' aX|refine' qR|refine' Wi|refine' ar|fail))
    all_goals refine' zad
   |false=>
    have iK:eS st t o=(eI,t2,0):=iK;rw[iK];refine aO f56 ?_;dsimp only[eM];(repeat' (first|refine' aX|refine' qR|refine' Wi|refine' ar|fail))
    all_goals try refine cI
    all_goals(refine qv (v':=E8) bB bj aq ?_ (λhc=>(by cases hc));rfl)
  .have iK:eS st t o=(st,t,code):=by rw[iK];simp[MD]
   rw[iK];refine aO f56 ?_;dsimp only[eM];(repeat' (first|refine' aX|refine' qR|refine' Wi|refine' ar|fail))
   all_goals refine' zad
 ·
  have mg:∀b dI s,ml aU aW 98 [aP b,ov o] s b dI ⟨st,t,false⟩ (Fs.change ⟨st,t,false⟩ o).1 (iv (Fs.change ⟨st,t,false⟩ o).2):=λb dI s=>Mw s b dI st t (h.mono af) ht oO o af o1 ⟨o3,o4⟩ o6
  rw[if_neg (show ¬o.kind=1 by omega),if_neg (show ¬o.kind=2 by omega),if_neg (show ¬o.kind=5 by omega),if_neg (show ¬o.kind=6 by omega),if_neg (show ¬o.kind=7 by omega)] at iK;generalize Fs.change ⟨st,t,false⟩ o=r at *
  refine' zat
  .subst MD;cases cK with
   |true=>
    have iK:eS st t o=(st,t,7):=iK;rw[iK];refine aO f56 ?_;dsimp only[eM];(repeat' (first|refine' aX|refine' qR|refine' Wj|refine' ar|fail))
    all_goals refine' zad
   |false=>
    have iK:eS st t o=(eI,t2,0):=iK;rw[iK];refine aO f56 ?_;dsimp only[eM];(repeat' (first|refine' aX|refine' qR|refine' Wj|refine' ar|fail))
    all_goals try refine cI
    all_goals(refine qv (v':=Bi) bB bj aq ?_ (λhc=>(by cases hc));rfl)
  .have iK:eS st t o=(st,t,code):=by rw[iK];simp[MD]
   rw[iK];refine aO f56 ?_;dsimp only[eM];(repeat' (first|refine' aX|refine' qR|refine' Wj|refine' ar|fail))
   all_goals refine' zad
abbrev jE:List Op:=[⟨2,[47,97],[],0,[]⟩,⟨1,[47,98],[],0,[]⟩,⟨1,[47,97,47,98],[],0,[]⟩,⟨3,[47,98],[],0,[104,101,108,108,111,32,104,101,108,108,111,32,104,101,108,108,111]⟩,⟨2,[47,97,47,99],[],0,[]⟩,⟨3,[47,97,47,98],[],30,[104,101,108,108,111,32,104,101,108,108,111,32,104,101,108,108,111]⟩]
theorem Tr:∀o∈jE,iJ o=true/\o.ag.length<=3000/\o.to.length<=3000:=by decide
theorem Mm (s:St):fa aU aW 55 [] s [] 28 jE:=by
 refine aO f55 ?_;(repeat' (first|refine' aX|((with_reducible apply WO.lit (α:=Op) (xs:=jE));exact yo;exact rfl;exact rfl;intro bl _)|refine' ar|fail))
 (refine' lB)
 rfl
abbrev X0 (E:dy)(X:dM)(g:FuncId)(vs:aQ)(s:St)(br:Nat)(a:aH)(code:ay)(c p d:Nat):Prop:=fI E X g vs s [nU br a code.length c p] (ai a) λR L=>∃(p':Nat)(v':SA)(st:ak)(t:bX),p'<=p+d/\Pg.FS st t/\du 30000 st/\dZ t/\R= .tuple ⟨[fF v' st,tv t]⟩/\L=nU br a code.length c p'::eM v' st
theorem ze:∀z∈xp,z.length<=3000:=by decide
end Go.Pl
