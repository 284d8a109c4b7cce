/- Lemmas of the proof. No conditions. -/
import Derived.Test.YtajgfdfbnhchcaaGreatDoorAe9
set_option maxRecDepth 100000
set_option maxHeartbeats 4000000
set_option linter.unusedVariables false
set_option linter.unusedSimpArgs false
open Go.Proofs.Tryz
namespace Go.Pl
open Go Go.Ev Go.Lg Go.Proofs
section
variable {t:Nat}
theorem alK {s a c a' c' f i A}(h:Ud s a a' f i A)(b1 b5 b6 b7)(ht:kM f.ae (f.ad.getD i ak.ah).id=some t)(h0:0<i)(c1:bL (f.ad.getD ((i:Int)-1).toNat ak.ah).af (f.ad.getD i ak.ah).af=false):JO s a c a' c' f b1 b5 b6 b7 i A:=by
 refine' zac
 refine' zaa
 refine' zad
 all_goals exact hQ _ _ rfl
theorem alL {s a c a' c' f i A}(h:Ud s a a' f i A)(b1 b5 b6 b7)(ht:kM f.ae (f.ad.getD i ak.ah).id=some t)(h0:0<i)(c1:bL (f.ad.getD ((i:Int)-1).toNat ak.ah).af (f.ad.getD i ak.ah).af=true)(c2:(dr A.fo (av (f.ad.getD i ak.ah).af).1).getD false=false):JO s a c a' c' f b1 b5 b6 b7 i A:=by
 refine' zac
 refine' zaa
 refine' zad
 all_goals exact hQ _ _ rfl
theorem alM {s a c a' c' f i A}(h:Ud s a a' f i A)(b1 b5 b6 b7)(ht:kM f.ae (f.ad.getD i ak.ah).id=some t)(h0:0<i)(c1:bL (f.ad.getD ((i:Int)-1).toNat ak.ah).af (f.ad.getD i ak.ah).af=true)(c2:(dr A.fo (av (f.ad.getD i ak.ah).af).1).getD false=true)(c3:bG (av (f.ad.getD i ak.ah).af).2=false):JO s a c a' c' f b1 b5 b6 b7 i A:=by
 refine' zac
 refine' zaa
 refine' zad
 all_goals exact hQ _ _ rfl
theorem alN {s a c a' c' f i A}(h:Ud s a a' f i A)(b1 b5 b6 b7)(ht:kM f.ae (f.ad.getD i ak.ah).id=some t)(h0:0<i)(c1:bL (f.ad.getD ((i:Int)-1).toNat ak.ah).af (f.ad.getD i ak.ah).af=true)(c2:(dr A.fo (av (f.ad.getD i ak.ah).af).1).getD false=true)(c3:bG (av (f.ad.getD i ak.ah).af).2=true)(c7:12<YW f i A):JO s a c a' c' f b1 b5 b6 b7 i A:=by
 obtain⟨hf,hr,hs,hi,g2⟩:=h;intro Q hQ;unfold PG JM JN;unfold YW at c7;refine W.ur rfl rfl ?_;have oR:=fN.n hr;have qI:=fN.t hr;have pz:=hf.tl;have nC:=hf.nl;have hx:=(hf.nm _ (aJ hi ak.ah)).1;have Cd:=hx.1;have kK:=fW (f.ad.getD i ak.ah).af;have Pu:∀ch∈(av (f.ad.getD i ak.ah).af).2,ch.toNat<128:=λch dS=>hx.2.1 ch (fV _ ch dS)
 refine' zaa
 refine' zad
 all_goals exact hQ _ _ rfl
end
end Go.Pl
