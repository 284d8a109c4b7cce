/- Lemmas of the proof. No conditions. -/
import Derived.Test.YtoiielhpadnflaaGreatDoorAe9
set_option maxRecDepth 100000
set_option maxHeartbeats 4000000
set_option linter.unusedVariables false
set_option linter.unusedSimpArgs false
open Go.Proofs.Tryz
namespace Go.Pl
open Go Go.Ev Go.Lg Go.Proofs
variable {t:Nat}
theorem afQ {s a c a' c' f i A}(h:UE s a a' f i A)(b1 b5 b6 b7)(ht:pc f.ae (f.ad.getD i aq.ah).id=some t)(h0:¬0<i)(c4:¬9<Aa f i A)(c5:(f.ae.getD t aq.ah).aN=true)(c6:¬1<Aa f i A):RZ s a c a' c' f b1 b5 b6 b7 i A ⟨(er A.li (f.ad.getD i aq.ah).id ((dr A.li (f.ad.getD i aq.ah).id).getD 0+1)),A.nJ,(er A.fo (f.ad.getD i aq.ah).ag (f.ae.getD t aq.ah).aN)⟩:=by
 obtain⟨hf,hr,hs,hi,g2⟩:=h;intro Q hQ;unfold P8 J3 J4;unfold Aa at c4;unfold Aa at c6;dsimp only[J3,J4] at hQ;refine W.uG rfl rfl ?_;have pL:=iw.n hr;have sj:=iw.t hr;have qM:=hf.tl;have pJ:=hf.nl;have hx:=(hf.nm _ (aL hi aq.ah)).1;have FL:=hx.1;have lS:=fX (f.ad.getD i aq.ah).ag;have Pe:∀ch∈(aw (f.ad.getD i aq.ah).ag).2,ch.toNat<128:=λch dP=>hx.2.1 ch (fW _ ch dP)
 refine' zaa;refine' zao;all_goals exact hQ _ _ bp au
theorem afR {s a c a' c' f i A}(h:UE s a a' f i A)(b1 b5 b6 b7)(ht:pc f.ae (f.ad.getD i aq.ah).id=some t)(h0:¬0<i)(c4:¬9<Aa f i A)(c5:(f.ae.getD t aq.ah).aN=false):RZ s a c a' c' f b1 b5 b6 b7 i A ⟨(er A.li (f.ad.getD i aq.ah).id ((dr A.li (f.ad.getD i aq.ah).id).getD 0+1)),A.nJ,(er A.fo (f.ad.getD i aq.ah).ag (f.ae.getD t aq.ah).aN)⟩:=by
 obtain⟨hf,hr,hs,hi,g2⟩:=h;intro Q hQ;unfold P8 J3 J4;unfold Aa at c4;dsimp only[J3,J4] at hQ;refine W.uG rfl rfl ?_;have pL:=iw.n hr;have sj:=iw.t hr;have qM:=hf.tl;have pJ:=hf.nl;have hx:=(hf.nm _ (aL hi aq.ah)).1;have FL:=hx.1;have lS:=fX (f.ad.getD i aq.ah).ag;have Pe:∀ch∈(aw (f.ad.getD i aq.ah).ag).2,ch.toNat<128:=λch dP=>hx.2.1 ch (fW _ ch dP)
 refine' zaa;refine' zao;all_goals exact hQ _ _ bp au
theorem al8 {s a c a' c' f i A}(h:UE s a a' f i A)(b1 b5 b6 b7)(ht:pc f.ae (f.ad.getD i aq.ah).id=some t)(h0:0<i)(c1:bO (f.ad.getD ((i:Int)-1).toNat aq.ah).ag (f.ad.getD i aq.ah).ag=false):J5 s a c a' c' f b1 b5 b6 b7 i A:=by refine' zac;refine' zaa;refine' zad;all_goals exact hQ _ _ rfl
theorem al9 {s a c a' c' f i A}(h:UE s a a' f i A)(b1 b5 b6 b7)(ht:pc f.ae (f.ad.getD i aq.ah).id=some t)(h0:0<i)(c1:bO (f.ad.getD ((i:Int)-1).toNat aq.ah).ag (f.ad.getD i aq.ah).ag=true)(c2:(dr A.fo (aw (f.ad.getD i aq.ah).ag).1).getD false=false):J5 s a c a' c' f b1 b5 b6 b7 i A:=by refine' zac;refine' zaa;refine' zad;all_goals exact hQ _ _ rfl
theorem ama {s a c a' c' f i A}(h:UE s a a' f i A)(b1 b5 b6 b7)(ht:pc f.ae (f.ad.getD i aq.ah).id=some t)(h0:0<i)(c1:bO (f.ad.getD ((i:Int)-1).toNat aq.ah).ag (f.ad.getD i aq.ah).ag=true)(c2:(dr A.fo (aw (f.ad.getD i aq.ah).ag).1).getD false=true)(c3:aV (aw (f.ad.getD i aq.ah).ag).2=false):J5 s a c a' c' f b1 b5 b6 b7 i A:=by refine' zac;refine' zaa;refine' zad;all_goals exact hQ _ _ rfl
theorem amb {s a c a' c' f i A}(h:UE s a a' f i A)(b1 b5 b6 b7)(ht:pc f.ae (f.ad.getD i aq.ah).id=some t)(h0:0<i)(c1:bO (f.ad.getD ((i:Int)-1).toNat aq.ah).ag (f.ad.getD i aq.ah).ag=true)(c2:(dr A.fo (aw (f.ad.getD i aq.ah).ag).1).getD false=true)(c3:aV (aw (f.ad.getD i aq.ah).ag).2=true)(c7:12<Zn f i A):J5 s a c a' c' f b1 b5 b6 b7 i A:=by
 obtain⟨hf,hr,hs,hi,g2⟩:=h;intro Q hQ;unfold P8 J3 J4;unfold Zn at c7;refine W.uG rfl rfl ?_;have pL:=iw.n hr;have sj:=iw.t hr;have qM:=hf.tl;have pJ:=hf.nl;have hx:=(hf.nm _ (aL hi aq.ah)).1;have FL:=hx.1;have lS:=fX (f.ad.getD i aq.ah).ag;have Pe:∀ch∈(aw (f.ad.getD i aq.ah).ag).2,ch.toNat<128:=λch dP=>hx.2.1 ch (fW _ ch dP)
 refine' zaa;refine' zad;all_goals exact hQ _ _ rfl
end Go.Pl
