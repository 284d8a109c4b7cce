/- Lemmas of the proof. No conditions. -/
import Derived.Test.YtajgfdfbnhchcaaGreatDoorBd3
set_option maxRecDepth 100000
set_option maxHeartbeats 4000000
set_option linter.unusedVariables false
set_option linter.unusedSimpArgs false
open Go.Proofs.Tryz
namespace Go.Pl
open Go Go.Ev Go.Lg Go.Proofs
variable {v:SA}{f:Fs}{s:St}{st:au}
theorem uc (s:St)(b:Nat)(v:SA)(f:Fs)(h:dA 100000 f.st)(ht:ek f.t)(z:az)(hz:z.length<=90000)(hp:aP z=true)(hr:lN s b v f):bF 163 [bg b,sv z] s (ub b v) (.tuple ⟨[iv (f.bU z).1,iv (f.bU z).2]⟩):=by
 have Oz:=E8.bx hr;have tZ:=E8.rw hr;have uy:=E8.rf hr;have uC:=E8.la hr;obtain⟨vO,ajb⟩:=CH hp;have h4:=Nr hp;have Cg:=RW f.st (λi=>(jr f.st f.t i).getD bB) (aF z).dropLast 0 ag;have pO:(((aF z).length:Int)-1).toNat=(aF z).length-1:=by omega
 have rS:f.bU z=if aF z=[] then(0,3) else if oW (λi=>bR f.st ((jr f.st f.t i).getD bB)) (aF z).dropLast 0<0 then(0,2) else if(f.node (oW (λi=>bR f.st ((jr f.st f.t i).getD bB)) (aF z).dropLast 0)).kind≠2 then(0,4) else(oW (λi=>bR f.st ((jr f.st f.t i).getD bB)) (aF z).dropLast 0,0):=rfl
 by_cases hn:aF z=[]
 .rw[rS,if_pos hn];have hl0:(aF z).length=0:=by rw[hn];rfl
  refine aT f163 ?_;repeat' (first|refine' aW|refine' TA|refine' av|fail)
  all_goals try exact pJ
  refine' ax;rfl
 .rw[rS,if_neg hn];have hl0:0<(aF z).length:=nL.2 hn;generalize hE:oW (λi=>bR f.st ((jr f.st f.t i).getD bB)) (aF z).dropLast 0=w at *
  have Xy:∀a c s,cS s v f.st->bH s a (List.take (((aF z).length:Int)-1).toNat (aF z)).length 1 (ai (List.take (((aF z).length:Int)-1).toNat (aF z)))->bF 199 [fK v f.st,tv f.t,.slice a (List.take (((aF z).length:Int)-1).toNat (aF z)).length c] s (iO v++aj a) (iv w):=λa c s hr h2=>by
   have:=E9 s v f.st h f.t ht a c (List.take (((aF z).length:Int)-1).toNat (aF z)) (by rw[cW];omega) hr h2;rw[show List.take (((aF z).length:Int)-1).toNat (aF z)=(aF z).dropLast by rw[pO,List.dropLast_eq_take],hE] at this
   rwa [show List.take (((aF z).length:Int)-1).toNat (aF z)=(aF z).dropLast by rw[pO,List.dropLast_eq_take]]
  refine aT f163 ?_;(repeat' (first|refine' aW|refine' TA|((with_reducible apply WO.RV);exact aC;exact λs hr h2=>Xy _ _ s hr h2;exact eF;exact cb;intros)|refine' Xw|refine' av|fail));all_goals try exact pJ
  ·(refine' ax)
   rw[if_pos aL];rfl
  ·(refine' ax)
   rw[if_neg ag,if_pos aL];rfl
  ·(refine' ax)
   rw[if_neg ag,if_neg (by simpa using j8)];rfl
end Go.Pl
