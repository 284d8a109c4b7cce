/- Lemmas of the proof. No conditions. -/
import Derived.Test.YtajgfdfbnhchcaaGreatDoorBe8
set_option maxRecDepth 100000
set_option maxHeartbeats 4000000
set_option linter.unusedVariables false
set_option linter.unusedSimpArgs false
open Go.Proofs.Tryz
namespace Go.Pl
open Go Go.Ev Go.Lg Go.Proofs
variable {t:Nat}
theorem amu {s a c a' c' f i A}(h:UY s a a' f i A)(b1 b5 b6 b7)(ht:ot f.ae (f.ad.getD i ak.ah).id=some t)(h0:¬0<i)(c4:¬9<Am f i A)(c5:(f.ae.getD t ak.ah).aJ=true)(c6:1<Am f i A):Ks s a c a' c' f b1 b5 b6 b7 i A:=by
 obtain⟨hf,hr,hs,hi,g2⟩:=h;intro Q hQ;unfold Qu Kq Kr;unfold Am at c4;unfold Am at c6;refine W.uD rfl rfl ?_;have pk:=gb.n hr;have ru:=gb.t hr;have pO:=hf.tl;have nB:=hf.nl;have hx:=(hf.nm _ (aK hi ak.ah)).1;have Cy:=hx.1;have lV:=gd (f.ad.getD i ak.ah).af;have Qj:∀ch∈(aw (f.ad.getD i ak.ah).af).2,ch.toNat<128:=λch dS=>hx.2.1 ch (ga _ ch dS)
 refine' zaa;refine' zap;all_goals exact hQ _ _ rfl
theorem afT {s a c a' c' f i A}(h:UY s a a' f i A)(b1 b5 b6 b7)(ht:ot f.ae (f.ad.getD i ak.ah).id=some t)(h0:¬0<i)(c4:¬9<Am f i A)(c5:(f.ae.getD t ak.ah).aJ=true)(c6:¬1<Am f i A):Sg s a c a' c' f b1 b5 b6 b7 i A ⟨(eB A.li (f.ad.getD i ak.ah).id ((dz A.li (f.ad.getD i ak.ah).id).getD 0+1)),A.nF,(eB A.fo (f.ad.getD i ak.ah).af (f.ae.getD t ak.ah).aJ)⟩:=by
 obtain⟨hf,hr,hs,hi,g2⟩:=h;intro Q hQ;unfold Qu Kq Kr;unfold Am at c4;unfold Am at c6;dsimp only[Kq,Kr] at hQ;refine W.uD rfl rfl ?_;have pk:=gb.n hr;have ru:=gb.t hr;have pO:=hf.tl;have nB:=hf.nl;have hx:=(hf.nm _ (aK hi ak.ah)).1;have Cy:=hx.1;have lV:=gd (f.ad.getD i ak.ah).af;have Qj:∀ch∈(aw (f.ad.getD i ak.ah).af).2,ch.toNat<128:=λch dS=>hx.2.1 ch (ga _ ch dS)
 refine' zaa;refine' zap;all_goals exact hQ _ _ bj ar
theorem afU {s a c a' c' f i A}(h:UY s a a' f i A)(b1 b5 b6 b7)(ht:ot f.ae (f.ad.getD i ak.ah).id=some t)(h0:¬0<i)(c4:¬9<Am f i A)(c5:(f.ae.getD t ak.ah).aJ=false):Sg s a c a' c' f b1 b5 b6 b7 i A ⟨(eB A.li (f.ad.getD i ak.ah).id ((dz A.li (f.ad.getD i ak.ah).id).getD 0+1)),A.nF,(eB A.fo (f.ad.getD i ak.ah).af (f.ae.getD t ak.ah).aJ)⟩:=by
 obtain⟨hf,hr,hs,hi,g2⟩:=h;intro Q hQ;unfold Qu Kq Kr;unfold Am at c4;dsimp only[Kq,Kr] at hQ;refine W.uD rfl rfl ?_;have pk:=gb.n hr;have ru:=gb.t hr;have pO:=hf.tl;have nB:=hf.nl;have hx:=(hf.nm _ (aK hi ak.ah)).1;have Cy:=hx.1;have lV:=gd (f.ad.getD i ak.ah).af;have Qj:∀ch∈(aw (f.ad.getD i ak.ah).af).2,ch.toNat<128:=λch dS=>hx.2.1 ch (ga _ ch dS)
 refine' zaa;refine' zap;all_goals exact hQ _ _ bj ar
theorem amv {s a c a' c' f i A}(h:UY s a a' f i A)(b1 b5 b6 b7)(ht:ot f.ae (f.ad.getD i ak.ah).id=some t)(h0:0<i)(c1:bS (f.ad.getD ((i:Int)-1).toNat ak.ah).af (f.ad.getD i ak.ah).af=false):Ks s a c a' c' f b1 b5 b6 b7 i A:=by refine' zac;refine' zaa;refine' zad;all_goals exact hQ _ _ rfl
theorem amw {s a c a' c' f i A}(h:UY s a a' f i A)(b1 b5 b6 b7)(ht:ot f.ae (f.ad.getD i ak.ah).id=some t)(h0:0<i)(c1:bS (f.ad.getD ((i:Int)-1).toNat ak.ah).af (f.ad.getD i ak.ah).af=true)(c2:(dz A.fo (aw (f.ad.getD i ak.ah).af).1).getD false=false):Ks s a c a' c' f b1 b5 b6 b7 i A:=by refine' zac;refine' zaa;refine' zad;all_goals exact hQ _ _ rfl
theorem amx {s a c a' c' f i A}(h:UY s a a' f i A)(b1 b5 b6 b7)(ht:ot f.ae (f.ad.getD i ak.ah).id=some t)(h0:0<i)(c1:bS (f.ad.getD ((i:Int)-1).toNat ak.ah).af (f.ad.getD i ak.ah).af=true)(c2:(dz A.fo (aw (f.ad.getD i ak.ah).af).1).getD false=true)(c3:aU (aw (f.ad.getD i ak.ah).af).2=false):Ks s a c a' c' f b1 b5 b6 b7 i A:=by refine' zac;refine' zaa;refine' zad;all_goals exact hQ _ _ rfl
theorem amy {s a c a' c' f i A}(h:UY s a a' f i A)(b1 b5 b6 b7)(ht:ot f.ae (f.ad.getD i ak.ah).id=some t)(h0:0<i)(c1:bS (f.ad.getD ((i:Int)-1).toNat ak.ah).af (f.ad.getD i ak.ah).af=true)(c2:(dz A.fo (aw (f.ad.getD i ak.ah).af).1).getD false=true)(c3:aU (aw (f.ad.getD i ak.ah).af).2=true)(c7:12<ZG f i A):Ks s a c a' c' f b1 b5 b6 b7 i A:=by
 obtain⟨hf,hr,hs,hi,g2⟩:=h;intro Q hQ;unfold Qu Kq Kr;unfold ZG at c7;refine W.uD rfl rfl ?_;have pk:=gb.n hr;have ru:=gb.t hr;have pO:=hf.tl;have nB:=hf.nl;have hx:=(hf.nm _ (aK hi ak.ah)).1;have Cy:=hx.1;have lV:=gd (f.ad.getD i ak.ah).af;have Qj:∀ch∈(aw (f.ad.getD i ak.ah).af).2,ch.toNat<128:=λch dS=>hx.2.1 ch (ga _ ch dS)
 refine' zaa;refine' zad;all_goals exact hQ _ _ rfl
theorem amz {s a c a' c' f i A}(h:UY s a a' f i A)(b1 b5 b6 b7)(ht:ot f.ae (f.ad.getD i ak.ah).id=some t)(h0:0<i)(c1:bS (f.ad.getD ((i:Int)-1).toNat ak.ah).af (f.ad.getD i ak.ah).af=true)(c2:(dz A.fo (aw (f.ad.getD i ak.ah).af).1).getD false=true)(c3:aU (aw (f.ad.getD i ak.ah).af).2=true)(c7:¬12<ZG f i A)(c4:9<Am f i A):Ks s a c a' c' f b1 b5 b6 b7 i A:=by
 obtain⟨hf,hr,hs,hi,g2⟩:=h;intro Q hQ;unfold Qu Kq Kr;unfold ZG at c7;unfold Am at c4;refine W.uD rfl rfl ?_;have pk:=gb.n hr;have ru:=gb.t hr;have pO:=hf.tl;have nB:=hf.nl;have hx:=(hf.nm _ (aK hi ak.ah)).1;have Cy:=hx.1;have lV:=gd (f.ad.getD i ak.ah).af;have Qj:∀ch∈(aw (f.ad.getD i ak.ah).af).2,ch.toNat<128:=λch dS=>hx.2.1 ch (ga _ ch dS)
 refine' zaa;refine' zad;all_goals exact hQ _ _ rfl
theorem amA {s a c a' c' f i A}(h:UY s a a' f i A)(b1 b5 b6 b7)(ht:ot f.ae (f.ad.getD i ak.ah).id=some t)(h0:0<i)(c1:bS (f.ad.getD ((i:Int)-1).toNat ak.ah).af (f.ad.getD i ak.ah).af=true)(c2:(dz A.fo (aw (f.ad.getD i ak.ah).af).1).getD false=true)(c3:aU (aw (f.ad.getD i ak.ah).af).2=true)(c7:¬12<ZG f i A)(c4:¬9<Am f i A)(c5:(f.ae.getD t ak.ah).aJ=true)(c6:1<Am f i A):Ks s a c a' c' f b1 b5 b6 b7 i A:=by
 obtain⟨hf,hr,hs,hi,g2⟩:=h;intro Q hQ;unfold Qu Kq Kr;unfold ZG at c7;unfold Am at c4;unfold Am at c6;refine W.uD rfl rfl ?_;have pk:=gb.n hr;have ru:=gb.t hr;have pO:=hf.tl;have nB:=hf.nl;have hx:=(hf.nm _ (aK hi ak.ah)).1;have Cy:=hx.1;have lV:=gd (f.ad.getD i ak.ah).af;have Qj:∀ch∈(aw (f.ad.getD i ak.ah).af).2,ch.toNat<128:=λch dS=>hx.2.1 ch (ga _ ch dS)
 refine' zaa;refine' zad;all_goals exact hQ _ _ rfl
theorem afV {s a c a' c' f i A}(h:UY s a a' f i A)(b1 b5 b6 b7)(ht:ot f.ae (f.ad.getD i ak.ah).id=some t)(h0:0<i)(c1:bS (f.ad.getD ((i:Int)-1).toNat ak.ah).af (f.ad.getD i ak.ah).af=true)(c2:(dz A.fo (aw (f.ad.getD i ak.ah).af).1).getD false=true)(c3:aU (aw (f.ad.getD i ak.ah).af).2=true)(c7:¬12<ZG f i A)(c4:¬9<Am f i A)(c5:(f.ae.getD t ak.ah).aJ=true)(c6:¬1<Am f i A):Sg s a c a' c' f b1 b5 b6 b7 i A ⟨(eB A.li (f.ad.getD i ak.ah).id ((dz A.li (f.ad.getD i ak.ah).id).getD 0+1)),(eB A.nF (aw (f.ad.getD i ak.ah).af).1 ((dz A.nF (aw (f.ad.getD i ak.ah).af).1).getD 0+1)),(eB A.fo (f.ad.getD i ak.ah).af (f.ae.getD t ak.ah).aJ)⟩:=by
 obtain⟨hf,hr,hs,hi,g2⟩:=h;intro Q hQ;unfold Qu Kq Kr;unfold ZG at c7;unfold Am at c4;unfold Am at c6;dsimp only[Kq,Kr] at hQ;refine W.uD rfl rfl ?_;have pk:=gb.n hr;have ru:=gb.t hr;have pO:=hf.tl;have nB:=hf.nl;have hx:=(hf.nm _ (aK hi ak.ah)).1;have Cy:=hx.1;have lV:=gd (f.ad.getD i ak.ah).af;have Qj:∀ch∈(aw (f.ad.getD i ak.ah).af).2,ch.toNat<128:=λch dS=>hx.2.1 ch (ga _ ch dS)
 refine' zaa;refine' zad;all_goals exact hQ _ _ bj ar
end Go.Pl
