/- Lemmas of the proof. No conditions. -/
import Derived.Test.YtoiielhpadnflaaGreatDoorAf4
set_option maxRecDepth 100000
set_option maxHeartbeats 4000000
set_option linter.unusedVariables false
set_option linter.unusedSimpArgs false
open Go.Proofs.Tryz
namespace Go.Proofs
open Go Go.Ev
def T.lim {α:Type}:T α->Nat
 |.nil=>0
 |.node _ l r=>max 1 (max (2*T.lim l) (2*T.lim r+1))
theorem T.CN {α:Type}:∀(t:T α)(n:Nat)(x:α),t.get n=some x->n<T.lim t
 |.nil,n,x,h=>by rw[T.get_nil] at h;cases h
 |.node v l r,n,x,h=>by
  rw[T.oM] at h;unfold T.lim;split at h
  .omega
  .split at h
   .have:=T.CN l _ x h;omega
   .have:=T.CN r _ x h;omega
theorem NP {β:Type}{g h:Nat->β}{N:Nat}(e:(List.range N).map g=(List.range N).map h){n:Nat}(hn:n<N):g n=h n:=by have:=eC (λl=>l[n]?) e;simpa[wD,Sr hn] using this
theorem fnL:(List.range 323).map fnT.get=(List.range 323).map (λf=>bif Nat.ble 3 f then prog.funcs[f]? else none):=by kernel_rfl
theorem fnC:((List.range 323).all λf=>match fnT.get f with|some fn=>!(fn.name== "runtime.NumGoroutine")&&(match fn.body with|some c=>codeOk fn.ntmps c|none=>true)|none=>true)=true:=by kernel_rfl
theorem tyL:(List.range 322).map tyT.get=(List.range 322).map (λt=>prog.types[t]?):=by kernel_rfl
theorem tyZ:((List.range 322).all λt=>match tyT.get t with|some i=>(match i.zero with|some z=>ma z|none=>true)|none=>true)=true:=by kernel_rfl
end Go.Proofs
