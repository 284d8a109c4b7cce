/- Lemmas of the proof. No conditions. -/
import Derived.Test.YtoiielhpadnflaaGreatDoorAe4
set_option maxRecDepth 100000
set_option maxHeartbeats 4000000
set_option linter.unusedVariables false
set_option linter.unusedSimpArgs false
open Go.Proofs.Tryz
namespace Go.Pl
open Go Go.Ev Go.Lg Go.Proofs
def doV (t:cB)(code:Int):Value->Value:=λV=>.tuple ⟨[V,tv t,iv code]⟩
theorem Y4 {o:Op}(h:kV o=true):(1<=o.kind/\o.kind<=7)/\o.a8.length<=24:=by
 refine' zap;rw[e] at h;simp only at h;split at h
 .cases h
 .rename_i h1;split at h
  .cases h
  .rename_i h2;simp only[fM,mh,bI,bR,rU,not_or] at h1 h2;refine⟨?_,af⟩;have:=h1.1.1.1;simpa using this
end Go.Pl
