/- Lemmas of the proof. No conditions. -/
import Derived.Test.YtajgfdfbnhchcaaGreatDoorAf3
set_option maxRecDepth 100000
set_option maxHeartbeats 4000000
set_option linter.unusedVariables false
set_option linter.unusedSimpArgs false
open Go.Proofs.Tryz
namespace Go.Pl
open Go Go.Ev Go.Lg Go.Proofs
variable {g:FuncId}{p:Nat}
theorem iC.aj4 {f:Flat}(h:iC f)(hN:∀x∈f.ad,vv x.af):gf f:=by
 have hp:=h.g.p;have hl:=h.amH;refine⟨hl,hp.tl.2,λx hx=>?_,λx hx=>?_⟩
 .obtain⟨y,hy,e⟩:=hp.th x hx;have h1:=(hp.tx y hy).1;have hNx:=hN x hx;obtain⟨j,hj,rfl⟩:=iY hx;have h2:=h.ajY j j (cG _) hj;rw[show f.ad.getD j cy=f.ad[j] by rw[aZ,bd hj];rfl] at h2;exact⟨⟨ag,h2.2,hNx⟩,ag,ag⟩
 .have h1:=hp.tx x hx;exact⟨h1.1.1,ag,h1.2.2⟩
end Go.Pl
