/- Lemmas of the proof. No conditions. -/
import Derived.Test.YtoiielhpadnflaaGreatDoorAe5
set_option maxRecDepth 100000
set_option maxHeartbeats 4000000
set_option linter.unusedVariables false
set_option linter.unusedSimpArgs false
open Go.Proofs.Tryz
namespace Go.Pl
open Go Go.Ev Go.Lg Go.Proofs
variable {v:SA}
theorem Nd (s:St)(v:SA)(st:ar)(t:cB)(h:dv 38000 st)(ht:dZ t)(pf:Pg.FS st t)(o:Op)(ho:kV o=true)(hz:o.ag.length<=3000)(hzt:o.to.length<=3000):
  eO bf bw 61 [fI v st,tv t,ov o] s [] v st (gW st t o).1 true (doV (gW st t o).2.1 (gW st t o).2.2):=by
 have u6:dv 100000 st:=h.mono af;obtain⟨o1,o2,o3,o4⟩:=Pg.AJ ho;obtain⟨o5,o6⟩:=Y4 ho;have jM:gW st t o=(
  let r:=if o.kind=1 then Fs.make ⟨st,t,false⟩ o.ag 1 else if o.kind=2 then Fs.make ⟨st,t,false⟩ o.ag 2 else if o.kind=5 then Fs.qu ⟨st,t,false⟩ o.ag else
  if o.kind=6 then Fs.link ⟨st,t,false⟩ o.ag o.to else if o.kind=7 then Fs.move ⟨st,t,false⟩ o.ag o.to else Fs.change ⟨st,t,false⟩ o
  if(if r.2=0/\r.1.cq then 7 else r.2)≠0 then(st,t,(if r.2=0/\r.1.cq then 7 else r.2)) else(r.1.st,r.1.t,(if r.2=0/\r.1.cq then 7 else r.2))):=rfl
 rcases(by omega:o.kind=1\/o.kind=2\/o.kind=5\/o.kind=6\/o.kind=7\/(o.kind=3\/o.kind=4)) with hk|hk|hk|hk|hk|hk
 ·
  have og:∀b dH s,mO bf bw 99 [bk b,sv o.ag,.int .i64 1] s b dH ⟨st,t,false⟩ (Fs.make ⟨st,t,false⟩ o.ag 1).1 (iv (Fs.make ⟨st,t,false⟩ o.ag 1).2):=λb dH s=>Ig s b dH st t (h.mono af) ht pf o.ag af o1 1 (.inl rfl)
  simp only[hk,if_true,if_pos] at jM;generalize Fs.make ⟨st,t,false⟩ o.ag 1=r at *
  refine' zas
  .subst Nf;cases cq with
   |true=>
    have jM:gW st t o=(st,t,7):=jM;rw[jM];refine aX f61 ?_;dsimp only[eK];refine' HJ;all_goals refine' zae
   |false=>
    refine' zaK
  .have jM:gW st t o=(st,t,code):=by rw[jM];simp[Nf]
   rw[jM];refine aX f61 ?_;dsimp only[eK];refine' HJ;all_goals refine' zae
 ·
  have og:∀b dH s,mO bf bw 99 [bk b,sv o.ag,.int .i64 2] s b dH ⟨st,t,false⟩ (Fs.make ⟨st,t,false⟩ o.ag 2).1 (iv (Fs.make ⟨st,t,false⟩ o.ag 2).2):=λb dH s=>Ig s b dH st t (h.mono af) ht pf o.ag af o1 2 (.inr rfl)
  rw[if_neg (show ¬o.kind=1 by omega),if_pos hk] at jM;generalize Fs.make ⟨st,t,false⟩ o.ag 2=r at *
  refine' zas
  .subst Nf;cases cq with
   |true=>
    have jM:gW st t o=(st,t,7):=jM;rw[jM];refine aX f61 ?_;dsimp only[eK];refine' HJ;all_goals refine' zae
   |false=>
    refine' zaK
  .have jM:gW st t o=(st,t,code):=by rw[jM];simp[Nf]
   rw[jM];refine aX f61 ?_;dsimp only[eK];refine' HJ;all_goals refine' zae
 ·
  have og:∀b dH s,mO bf bw 100 [bk b,sv o.ag] s b dH ⟨st,t,false⟩ (Fs.qu ⟨st,t,false⟩ o.ag).1 (iv (Fs.qu ⟨st,t,false⟩ o.ag).2):=λb dH s=>Up s b dH st t (h.mono af) ht pf o.ag af o1
  rw[if_neg (show ¬o.kind=1 by omega),if_neg (show ¬o.kind=2 by omega),if_pos hk] at jM;generalize Fs.qu ⟨st,t,false⟩ o.ag=r at *
  refine' zas
  .subst Nf;cases cq with
   |true=>
    have jM:gW st t o=(st,t,7):=jM;rw[jM];refine aX f61 ?_;dsimp only[eK];(repeat' (first|refine' aZ|refine' rz|refine' Yc|refine' av|fail));all_goals refine' zae
   |false=>
    have jM:gW st t o=(eI,t2,0):=jM;rw[jM];refine aX f61 ?_;dsimp only[eK];(repeat' (first|refine' aZ|refine' rz|refine' Yc|refine' av|fail));(all_goals try refine cI);all_goals(refine qU (v':=F8) cy bY au ?_ (λhc=>(by cases hc));rfl)
  .have jM:gW st t o=(st,t,code):=by rw[jM];simp[Nf]
   rw[jM];refine aX f61 ?_;dsimp only[eK];(repeat' (first|refine' aZ|refine' rz|refine' Yc|refine' av|fail));all_goals refine' zae
 ·
  have og:∀b dH s,mO bf bw 101 [bk b,sv o.ag,sv o.to] s b dH ⟨st,t,false⟩ (Fs.link ⟨st,t,false⟩ o.ag o.to).1 (iv (Fs.link ⟨st,t,false⟩ o.ag o.to).2):=λb dH s=>Uq s b dH st t (h.mono af) ht pf o.ag af o1 o.to af (o2 (.inl hk))
  rw[if_neg (show ¬o.kind=1 by omega),if_neg (show ¬o.kind=2 by omega),if_neg (show ¬o.kind=5 by omega),if_pos hk] at jM;generalize Fs.link ⟨st,t,false⟩ o.ag o.to=r at *
  refine' zas
  .subst Nf;cases cq with
   |true=>
    have jM:gW st t o=(st,t,7):=jM;rw[jM];refine aX f61 ?_;dsimp only[eK];(repeat' (first|refine' aZ|refine' rz|refine' Yd|refine' av|fail));all_goals refine' zae
   |false=>
    have jM:gW st t o=(eI,t2,0):=jM;rw[jM];refine aX f61 ?_;dsimp only[eK];(repeat' (first|refine' aZ|refine' rz|refine' Yd|refine' av|fail));(all_goals try refine cI);all_goals(refine qU (v':=F9) cy bY au ?_ (λhc=>(by cases hc));rfl)
  .have jM:gW st t o=(st,t,code):=by rw[jM];simp[Nf]
   rw[jM];refine aX f61 ?_;dsimp only[eK];(repeat' (first|refine' aZ|refine' rz|refine' Yd|refine' av|fail));all_goals refine' zae
 ·
  have og:∀b dH s,mO bf bw 102 [bk b,sv o.ag,sv o.to] s b dH ⟨st,t,false⟩ (Fs.move ⟨st,t,false⟩ o.ag o.to).1 (iv (Fs.move ⟨st,t,false⟩ o.ag o.to).2):=λb dH s=>Ur s b dH st t (h.mono af) ht pf o.ag af o1 o.to af (o2 (.inr hk))
  rw[if_neg (show ¬o.kind=1 by omega),if_neg (show ¬o.kind=2 by omega),if_neg (show ¬o.kind=5 by omega),if_neg (show ¬o.kind=6 by omega),if_pos hk] at jM;generalize Fs.move ⟨st,t,false⟩ o.ag o.to=r at *
  refine' zas
  .subst Nf;cases cq with
   |true=>
    have jM:gW st t o=(st,t,7):=jM;rw[jM];refine aX f61 ?_;dsimp only[eK];(repeat' (first|refine' aZ|refine' rz|refine' Ye|refine' av|fail));all_goals refine' zae
   |false=>
    have jM:gW st t o=(eI,t2,0):=jM;rw[jM];refine aX f61 ?_;dsimp only[eK];(repeat' (first|refine' aZ|refine' rz|refine' Ye|refine' av|fail));(all_goals try refine cI);all_goals(refine qU (v':=Ga) cy bY au ?_ (λhc=>(by cases hc));rfl)
  .have jM:gW st t o=(st,t,code):=by rw[jM];simp[Nf]
   rw[jM];refine aX f61 ?_;dsimp only[eK];(repeat' (first|refine' aZ|refine' rz|refine' Ye|refine' av|fail));all_goals refine' zae
 ·
  have og:∀b dH s,mO bf bw 103 [bk b,ov o] s b dH ⟨st,t,false⟩ (Fs.change ⟨st,t,false⟩ o).1 (iv (Fs.change ⟨st,t,false⟩ o).2):=λb dH s=>Nb s b dH st t (h.mono af) ht pf o af o1 ⟨o3,o4⟩ o6
  rw[if_neg (show ¬o.kind=1 by omega),if_neg (show ¬o.kind=2 by omega),if_neg (show ¬o.kind=5 by omega),if_neg (show ¬o.kind=6 by omega),if_neg (show ¬o.kind=7 by omega)] at jM;generalize Fs.change ⟨st,t,false⟩ o=r at *
  refine' zas
  .subst Nf;cases cq with
   |true=>
    have jM:gW st t o=(st,t,7):=jM;rw[jM];refine aX f61 ?_;dsimp only[eK];(repeat' (first|refine' aZ|refine' rz|refine' Yf|refine' av|fail));all_goals refine' zae
   |false=>
    have jM:gW st t o=(eI,t2,0):=jM;rw[jM];refine aX f61 ?_;dsimp only[eK];(repeat' (first|refine' aZ|refine' rz|refine' Yf|refine' av|fail));(all_goals try refine cI);all_goals(refine qU (v':=Cd) cy bY au ?_ (λhc=>(by cases hc));rfl)
  .have jM:gW st t o=(st,t,code):=by rw[jM];simp[Nf]
   rw[jM];refine aX f61 ?_;dsimp only[eK];(repeat' (first|refine' aZ|refine' rz|refine' Yf|refine' av|fail));all_goals refine' zae
variable {R Lm:dy}{a:aS}{c i:Nat}{k:IntKind}{u:Int}{code:aC}
end Go.Pl
