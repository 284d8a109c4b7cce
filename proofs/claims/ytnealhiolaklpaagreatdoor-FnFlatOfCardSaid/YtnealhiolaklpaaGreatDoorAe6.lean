/- Lemmas of the proof. No conditions. -/
import Derived.Test.YtnealhiolaklpaaGreatDoorAe5
set_option maxRecDepth 100000
set_option maxHeartbeats 4000000
set_option linter.all false
open Bool renaming false->U,true->J
open Option renaming none->O,some->C
open List renaming length->Y
open Go.Value renaming slice->H,bool->M,int->I
open Go.Proofs.Tryz
open Nat (beq ble mul)
open Go.Result (andThen_ok)
open Go.Sem (run_bind)
open Go.Region (binds)
open List (replicate)
open Int (toNat)
open Go.Builtin (firstCells)
open Go.Instr (checkKey)
namespace Go.Pl
open Go Go.Ev Go.Lg Go.Proofs
variable {v:SA}{b:Nat}
def Nh (s:St)(v:SA)(st:ae)(t:bt)(h:cZ 38000 st)(ht:ee t)(c:Pg.FS st t)(o:Op)(i:wM o=J)(x:Y o.ar<=3000)(m:Y o.dF<=3000):
  eS aZ aW 64 [eg v st,tv t,ov o] s [] v st (iR st t o).1 J (doV (iR st t o).2.1 (iR st t o).2.2):=by
 have k:cZ 100000 st:=h.mono aa;obtain⟨e,j,n,u⟩:=Pg.zB i;obtain⟨y,w⟩:=YP i;have lM:iR st t o=(
  let r:=if o.kind=1 then Fs.make ⟨st,t,U⟩ o.ar 1 else if o.kind=2 then Fs.make ⟨st,t,U⟩ o.ar 2 else if o.kind=5 then Fs.pH ⟨st,t,U⟩ o.ar else
  if o.kind=6 then Fs.link ⟨st,t,U⟩ o.ar o.dF else if o.kind=7 then Fs.move ⟨st,t,U⟩ o.ar o.dF else Fs.change ⟨st,t,U⟩ o
  if(if r.2=0/\r.1.dz then 7 else r.2)≠0 then(st,t,(if r.2=0/\r.1.dz then 7 else r.2)) else(r.1.st,r.1.t,(if r.2=0/\r.1.dz then 7 else r.2))):=rfl
 rcases(by omega:o.kind=1\/o.kind=2\/o.kind=5\/o.kind=6\/o.kind=7\/(o.kind=3\/o.kind=4)) with d|d|d|d|d|d
 ·
  have BD:∀b a s,mK aZ aW 115 [bk b,sv o.ar,I .i64 1] s b a ⟨st,t,U⟩ (Fs.make ⟨st,t,U⟩ o.ar 1).1 (iv (Fs.make ⟨st,t,U⟩ o.ar 1).2):=λb a s=>H8 s b a st t (h.mono aa) ht c o.ar aa e 1 (.inl rfl)
  simp only[d,iO,ai] at lM;generalize Fs.make ⟨st,t,U⟩ o.ar 1=r at *
  refine' zas
  .subst VY;cases dz with
   |true=>
    have lM:iR st t o=(st,t,7):=lM;rw[lM];refine a8 f64 ?_;dsimp only[db];refine' Mz;(all_goals try refine PN);all_goals refine' VW
   |false=>
    refine' zaH
  .have lM:iR st t o=(st,t,code):=by rw[lM];simp[VY]
   rw[lM];refine a8 f64 ?_;dsimp only[db];refine' Mz;(all_goals try refine PN);all_goals refine' VW
 ·
  have BD:∀b a s,mK aZ aW 115 [bk b,sv o.ar,I .i64 2] s b a ⟨st,t,U⟩ (Fs.make ⟨st,t,U⟩ o.ar 2).1 (iv (Fs.make ⟨st,t,U⟩ o.ar 2).2):=λb a s=>H8 s b a st t (h.mono aa) ht c o.ar aa e 2 (.inr rfl)
  rw[af (show ¬o.kind=1 by omega),ai d] at lM;generalize Fs.make ⟨st,t,U⟩ o.ar 2=r at *
  refine' zas
  .subst VY;cases dz with
   |true=>
    have lM:iR st t o=(st,t,7):=lM;rw[lM];refine a8 f64 ?_;dsimp only[db];refine' Mz;(all_goals try refine PN);all_goals refine' VW
   |false=>
    refine' zaH
  .have lM:iR st t o=(st,t,code):=by rw[lM];simp[VY]
   rw[lM];refine a8 f64 ?_;dsimp only[db];refine' Mz;(all_goals try refine PN);all_goals refine' VW
 ·
  have BD:∀b a s,mK aZ aW 116 [bk b,sv o.ar] s b a ⟨st,t,U⟩ (Fs.pH ⟨st,t,U⟩ o.ar).1 (iv (Fs.pH ⟨st,t,U⟩ o.ar).2):=λb a s=>UT s b a st t (h.mono aa) ht c o.ar aa e
  rw[af (show ¬o.kind=1 by omega),af (show ¬o.kind=2 by omega),ai d] at lM;generalize Fs.pH ⟨st,t,U⟩ o.ar=r at *
  refine' zas
  .subst VY;cases dz with
   |true=>
    have lM:iR st t o=(st,t,7):=lM;rw[lM];refine a8 f64 ?_;dsimp only[db];(repeat' first|refine' pS|refine' Yb|refine' cY|fail);all_goals refine' VW
   |false=>
    have lM:iR st t o=(fB,t2,0):=lM;rw[lM];refine a8 f64 ?_;dsimp only[db];(repeat' first|refine' pS|refine' Yb|refine' cY|fail);all_goals(refine FP (v':=FR) bK bH ak ?_ (λhc=>(by cases hc));rfl)
  .have lM:iR st t o=(st,t,code):=by rw[lM];simp[VY]
   rw[lM];refine a8 f64 ?_;dsimp only[db];(repeat' first|refine' pS|refine' Yb|refine' cY|fail);all_goals refine' VW
 ·
  have BD:∀b a s,mK aZ aW 117 [bk b,sv o.ar,sv o.dF] s b a ⟨st,t,U⟩ (Fs.link ⟨st,t,U⟩ o.ar o.dF).1 (iv (Fs.link ⟨st,t,U⟩ o.ar o.dF).2):=λb a s=>UU s b a st t (h.mono aa) ht c o.ar aa e o.dF aa (j (.inl d))
  rw[af (show ¬o.kind=1 by omega),af (show ¬o.kind=2 by omega),af (show ¬o.kind=5 by omega),ai d] at lM;generalize Fs.link ⟨st,t,U⟩ o.ar o.dF=r at *
  refine' zas
  .subst VY;cases dz with
   |true=>
    have lM:iR st t o=(st,t,7):=lM;rw[lM];refine a8 f64 ?_;dsimp only[db];(repeat' first|refine' pS|refine' Yc|refine' cY|fail);all_goals refine' VW
   |false=>
    have lM:iR st t o=(fB,t2,0):=lM;rw[lM];refine a8 f64 ?_;dsimp only[db];(repeat' first|refine' pS|refine' Yc|refine' cY|fail);all_goals(refine FP (v':=FT) bK bH ak ?_ (λhc=>(by cases hc));rfl)
  .have lM:iR st t o=(st,t,code):=by rw[lM];simp[VY]
   rw[lM];refine a8 f64 ?_;dsimp only[db];(repeat' first|refine' pS|refine' Yc|refine' cY|fail);all_goals refine' VW
 ·
  have BD:∀b a s,mK aZ aW 118 [bk b,sv o.ar,sv o.dF] s b a ⟨st,t,U⟩ (Fs.move ⟨st,t,U⟩ o.ar o.dF).1 (iv (Fs.move ⟨st,t,U⟩ o.ar o.dF).2):=λb a s=>UW s b a st t (h.mono aa) ht c o.ar aa e o.dF aa (j (.inr d))
  rw[af (show ¬o.kind=1 by omega),af (show ¬o.kind=2 by omega),af (show ¬o.kind=5 by omega),af (show ¬o.kind=6 by omega),ai d] at lM;generalize Fs.move ⟨st,t,U⟩ o.ar o.dF=r at *
  refine' zas
  .subst VY;cases dz with
   |true=>
    have lM:iR st t o=(st,t,7):=lM;rw[lM];refine a8 f64 ?_;dsimp only[db];(repeat' first|refine' pS|refine' Yd|refine' cY|fail);all_goals refine' VW
   |false=>
    have lM:iR st t o=(fB,t2,0):=lM;rw[lM];refine a8 f64 ?_;dsimp only[db];(repeat' first|refine' pS|refine' Yd|refine' cY|fail);all_goals(refine FP (v':=FU) bK bH ak ?_ (λhc=>(by cases hc));rfl)
  .have lM:iR st t o=(st,t,code):=by rw[lM];simp[VY]
   rw[lM];refine a8 f64 ?_;dsimp only[db];(repeat' first|refine' pS|refine' Yd|refine' cY|fail);all_goals refine' VW
 ·
  have BD:∀b a s,mK aZ aW 119 [bk b,ov o] s b a ⟨st,t,U⟩ (Fs.change ⟨st,t,U⟩ o).1 (iv (Fs.change ⟨st,t,U⟩ o).2):=λb a s=>Nd s b a st t (h.mono aa) ht c o aa e ⟨n,u⟩ w
  rw[af (show ¬o.kind=1 by omega),af (show ¬o.kind=2 by omega),af (show ¬o.kind=5 by omega),af (show ¬o.kind=6 by omega),af (show ¬o.kind=7 by omega)] at lM;generalize Fs.change ⟨st,t,U⟩ o=r at *
  refine' zas
  .subst VY;cases dz with
   |true=>
    have lM:iR st t o=(st,t,7):=lM;rw[lM];refine a8 f64 ?_;dsimp only[db];(repeat' first|refine' pS|refine' Ye|refine' cY|fail);all_goals refine' VW
   |false=>
    have lM:iR st t o=(fB,t2,0):=lM;rw[lM];refine a8 f64 ?_;dsimp only[db];(repeat' first|refine' pS|refine' Ye|refine' cY|fail);all_goals(refine FP (v':=Bq) bK bH ak ?_ (λhc=>(by cases hc));rfl)
  .have lM:iR st t o=(st,t,code):=by rw[lM];simp[VY]
   rw[lM];refine a8 f64 ?_;dsimp only[db];(repeat' first|refine' pS|refine' Ye|refine' cY|fail);all_goals refine' VW
variable {s:St}{R Lm:cq}{x y:Operand}{a:aP}{c i:Nat}{k:IntKind}{u:Int}{code:aw}
end Go.Pl
