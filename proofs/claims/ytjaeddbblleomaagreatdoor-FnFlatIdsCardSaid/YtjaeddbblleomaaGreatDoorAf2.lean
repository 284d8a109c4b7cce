/- Lemmas of the proof. No conditions. -/
import Derived.Test.YtjaeddbblleomaaGreatDoorAf1
set_option maxRecDepth 100000
set_option maxHeartbeats 4000000
set_option linter.unusedVariables false
set_option linter.unusedSimpArgs false
open Go.Proofs.Tryz
namespace Go.Pl
open Go Go.Ev Go.Lg Go.Proofs
variable {s:St}{a a':aH}{c c' i t:Nat}{f:Flat}{A:Acc}
theorem ifB4 (hf:nz f)(hr:bY s a a' f)(hs:eB f.ae)(b1 b5 b6 b7:Nat)(hi:i<f.ad.length)(g2:oC f.ad f.ae i A)(ht:nS f.ae (f.ad.getD i c9.lW).id=some t)(h0:0<i)(c1:bK (f.ad.getD ((i:Int)-1).toNat c9.lW).ag (f.ad.getD i c9.lW).ag=true)(c2:(bN A.fo (au (f.ad.getD i c9.lW).ag).1).getD false=true)(c3:bT (au (f.ad.getD i c9.lW).ag).2=true)(c7:¬12<((bN (db A.jo (au (f.ad.getD i c9.lW).ag).1 ((bN A.jo (au (f.ad.getD i c9.lW).ag).1).getD 0+1)) (au (f.ad.getD i c9.lW).ag).1).getD 0))(c4:9<((bN (db A.li (f.ad.getD i c9.lW).id ((bN A.li (f.ad.getD i c9.lW).id).getD 0+1)) (f.ad.getD i c9.lW).id).getD 0))(Q:Ex->Kn->bn->Prop)(hQ:∀l L,lk l 2=some (.bool false)->Q .ret l L):W aU aW ⟨s,([]:bn).flatMap It.aS,jh a a'⟩ (mB f12) [(1,aP b1),(5,.map (some b5)),(6,.map (some b6)),(7,.map (some b7)),(94,.slice a f.ad.length c),(95,iv (f.ad.length:Int)),(96,iv (i:Int))] [.box b1 (fT a c f.ad a' c' f.ae) 26 false,.fy b5 (CP A.li),.fy b6 (E1 A.jo),.fy b7 (E2 A.fo)] Q:=by
 refine' zaa
 refine' zac
 all_goals exact hQ _ _ rfl
theorem ifB6 (hf:nz f)(hr:bY s a a' f)(hs:eB f.ae)(b1 b5 b6 b7:Nat)(hi:i<f.ad.length)(g2:oC f.ad f.ae i A)(ht:nS f.ae (f.ad.getD i c9.lW).id=some t)(h0:0<i)(c1:bK (f.ad.getD ((i:Int)-1).toNat c9.lW).ag (f.ad.getD i c9.lW).ag=true)(c2:(bN A.fo (au (f.ad.getD i c9.lW).ag).1).getD false=true)(c3:bT (au (f.ad.getD i c9.lW).ag).2=true)(c7:¬12<((bN (db A.jo (au (f.ad.getD i c9.lW).ag).1 ((bN A.jo (au (f.ad.getD i c9.lW).ag).1).getD 0+1)) (au (f.ad.getD i c9.lW).ag).1).getD 0))(c4:¬9<((bN (db A.li (f.ad.getD i c9.lW).id ((bN A.li (f.ad.getD i c9.lW).id).getD 0+1)) (f.ad.getD i c9.lW).id).getD 0))(c5:(f.ae.getD t c9.lW).aM=true)(c6:1<((bN (db A.li (f.ad.getD i c9.lW).id ((bN A.li (f.ad.getD i c9.lW).id).getD 0+1)) (f.ad.getD i c9.lW).id).getD 0))(Q:Ex->Kn->bn->Prop)(hQ:∀l L,lk l 2=some (.bool false)->Q .ret l L):W aU aW ⟨s,([]:bn).flatMap It.aS,jh a a'⟩ (mB f12) [(1,aP b1),(5,.map (some b5)),(6,.map (some b6)),(7,.map (some b7)),(94,.slice a f.ad.length c),(95,iv (f.ad.length:Int)),(96,iv (i:Int))] [.box b1 (fT a c f.ad a' c' f.ae) 26 false,.fy b5 (CP A.li),.fy b6 (E1 A.jo),.fy b7 (E2 A.fo)] Q:=by
 refine' zaa
 refine' zac
 all_goals exact hQ _ _ rfl
end Go.Pl
