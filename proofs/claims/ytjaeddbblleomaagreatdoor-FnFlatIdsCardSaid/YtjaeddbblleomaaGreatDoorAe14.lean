/- Lemmas of the proof. No conditions. -/
import Derived.Test.YtjaeddbblleomaaGreatDoorAe13
set_option maxRecDepth 100000
set_option maxHeartbeats 4000000
set_option linter.unusedVariables false
set_option linter.unusedSimpArgs false
open Go.Proofs.Tryz
namespace Go.Pl
open Go Go.Ev Go.Lg Go.Proofs
variable {s:St}{a a':aH}{c c' i t:Nat}{f:Flat}{A:Acc}
theorem ifA (hf:nz f)(hr:bY s a a' f)(hs:eB f.ae)(b1 b5 b6 b7:Nat)(hi:i<f.ad.length)(g2:oC f.ad f.ae i A)(ht:nS f.ae (f.ad.getD i c9.lW).id=none)(Q:Ex->Kn->bn->Prop)(hQ:∀l L,lk l 2=some (.bool false)->Q .ret l L):W aU aW ⟨s,([]:bn).flatMap It.aS,jh a a'⟩ (mB f12) [(1,aP b1),(5,.map (some b5)),(6,.map (some b6)),(7,.map (some b7)),(94,.slice a f.ad.length c),(95,iv (f.ad.length:Int)),(96,iv (i:Int))] [.box b1 (fT a c f.ad a' c' f.ae) 26 false,.fy b5 (CP A.li),.fy b6 (E1 A.jo),.fy b7 (E2 A.fo)] Q:=by
 refine W.mB rfl rfl ?_;have oK:=fX.n hr;have qJ:=fX.t hr;have qM:=hf.tl;have nf:=hf.nl;have hx:=(hf.nm _ (aF hi c9.lW)).1;have BA:=hx.1;have lT:=fY (f.ad.getD i c9.lW).ag;have OM:∀ch∈(au (f.ad.getD i c9.lW).ag).2,ch.toNat<128:=λch dR=>hx.2.1 ch (fW _ ch dR)
 have Br:=sy f.ad i (au (f.ad.getD i c9.lW).ag).1;have Bs:=sA f.ad i (f.ad.getD i c9.lW).id;rw[<-g2.jo] at Br;rw[<-g2.li] at Bs;have QO:((i:Int)-1).toNat=i-1:=by omega
 have kh:∀s b,iB s b a c f.ad a' c' f.ae->bO 28 [aP b,iv (f.ad.getD i c9.lW).id] s (qz b a a') (.pointer none):=λs b hr=>by
  have:=fU s b a c f.ad a' c' f.ae hs af (f.ad.getD i c9.lW).id hr;rw[ht] at this;exact this
 clear hr hf hs g2;(refine' sb)
 all_goals try refine M0
 all_goals exact hQ _ _ rfl
theorem ifC4 (hf:nz f)(hr:bY s a a' f)(hs:eB f.ae)(b1 b5 b6 b7:Nat)(hi:i<f.ad.length)(g2:oC f.ad f.ae i A)(ht:nS f.ae (f.ad.getD i c9.lW).id=some t)(h0:¬0<i)(c4:9<((bN (db A.li (f.ad.getD i c9.lW).id ((bN A.li (f.ad.getD i c9.lW).id).getD 0+1)) (f.ad.getD i c9.lW).id).getD 0))(Q:Ex->Kn->bn->Prop)(hQ:∀l L,lk l 2=some (.bool false)->Q .ret l L):W aU aW ⟨s,([]:bn).flatMap It.aS,jh a a'⟩ (mB f12) [(1,aP b1),(5,.map (some b5)),(6,.map (some b6)),(7,.map (some b7)),(94,.slice a f.ad.length c),(95,iv (f.ad.length:Int)),(96,iv (i:Int))] [.box b1 (fT a c f.ad a' c' f.ae) 26 false,.fy b5 (CP A.li),.fy b6 (E1 A.jo),.fy b7 (E2 A.fo)] Q:=by
 refine' zaa
 refine' zap
 all_goals exact hQ _ _ rfl
theorem ifC6 (hf:nz f)(hr:bY s a a' f)(hs:eB f.ae)(b1 b5 b6 b7:Nat)(hi:i<f.ad.length)(g2:oC f.ad f.ae i A)(ht:nS f.ae (f.ad.getD i c9.lW).id=some t)(h0:¬0<i)(c4:¬9<((bN (db A.li (f.ad.getD i c9.lW).id ((bN A.li (f.ad.getD i c9.lW).id).getD 0+1)) (f.ad.getD i c9.lW).id).getD 0))(c5:(f.ae.getD t c9.lW).aM=true)(c6:1<((bN (db A.li (f.ad.getD i c9.lW).id ((bN A.li (f.ad.getD i c9.lW).id).getD 0+1)) (f.ad.getD i c9.lW).id).getD 0))(Q:Ex->Kn->bn->Prop)(hQ:∀l L,lk l 2=some (.bool false)->Q .ret l L):W aU aW ⟨s,([]:bn).flatMap It.aS,jh a a'⟩ (mB f12) [(1,aP b1),(5,.map (some b5)),(6,.map (some b6)),(7,.map (some b7)),(94,.slice a f.ad.length c),(95,iv (f.ad.length:Int)),(96,iv (i:Int))] [.box b1 (fT a c f.ad a' c' f.ae) 26 false,.fy b5 (CP A.li),.fy b6 (E1 A.jo),.fy b7 (E2 A.fo)] Q:=by
 refine' zaa
 refine' zap
 all_goals exact hQ _ _ rfl
theorem ifCok1 (hf:nz f)(hr:bY s a a' f)(hs:eB f.ae)(b1 b5 b6 b7:Nat)(hi:i<f.ad.length)(g2:oC f.ad f.ae i A)(ht:nS f.ae (f.ad.getD i c9.lW).id=some t)(h0:¬0<i)(c4:¬9<((bN (db A.li (f.ad.getD i c9.lW).id ((bN A.li (f.ad.getD i c9.lW).id).getD 0+1)) (f.ad.getD i c9.lW).id).getD 0))(c5:(f.ae.getD t c9.lW).aM=true)(c6:¬1<((bN (db A.li (f.ad.getD i c9.lW).id ((bN A.li (f.ad.getD i c9.lW).id).getD 0+1)) (f.ad.getD i c9.lW).id).getD 0))(Q:Ex->Kn->bn->Prop)(hQ:∀l L,Le [(1,aP b1),(5,.map (some b5)),(6,.map (some b6)),(7,.map (some b7)),(94,.slice a f.ad.length c),(95,iv (f.ad.length:Int)),(96,iv (i+1:Nat))] l->cr [.box b1 (fT a c f.ad a' c' f.ae) 26 false,.fy b5 (CP (db A.li (f.ad.getD i c9.lW).id ((bN A.li (f.ad.getD i c9.lW).id).getD 0+1))),.fy b6 (E1 A.jo),.fy b7 (E2 (db A.fo (f.ad.getD i c9.lW).ag (f.ae.getD t c9.lW).aM))] L->Q .normal l L):W aU aW ⟨s,([]:bn).flatMap It.aS,jh a a'⟩ (mB f12) [(1,aP b1),(5,.map (some b5)),(6,.map (some b6)),(7,.map (some b7)),(94,.slice a f.ad.length c),(95,iv (f.ad.length:Int)),(96,iv (i:Int))] [.box b1 (fT a c f.ad a' c' f.ae) 26 false,.fy b5 (CP A.li),.fy b6 (E1 A.jo),.fy b7 (E2 A.fo)] Q:=by
 refine' zaa
 refine' zap
 all_goals exact hQ _ _ bd aq
theorem ifCok2 (hf:nz f)(hr:bY s a a' f)(hs:eB f.ae)(b1 b5 b6 b7:Nat)(hi:i<f.ad.length)(g2:oC f.ad f.ae i A)(ht:nS f.ae (f.ad.getD i c9.lW).id=some t)(h0:¬0<i)(c4:¬9<((bN (db A.li (f.ad.getD i c9.lW).id ((bN A.li (f.ad.getD i c9.lW).id).getD 0+1)) (f.ad.getD i c9.lW).id).getD 0))(c5:(f.ae.getD t c9.lW).aM=false)(Q:Ex->Kn->bn->Prop)(hQ:∀l L,Le [(1,aP b1),(5,.map (some b5)),(6,.map (some b6)),(7,.map (some b7)),(94,.slice a f.ad.length c),(95,iv (f.ad.length:Int)),(96,iv (i+1:Nat))] l->cr [.box b1 (fT a c f.ad a' c' f.ae) 26 false,.fy b5 (CP (db A.li (f.ad.getD i c9.lW).id ((bN A.li (f.ad.getD i c9.lW).id).getD 0+1))),.fy b6 (E1 A.jo),.fy b7 (E2 (db A.fo (f.ad.getD i c9.lW).ag (f.ae.getD t c9.lW).aM))] L->Q .normal l L):W aU aW ⟨s,([]:bn).flatMap It.aS,jh a a'⟩ (mB f12) [(1,aP b1),(5,.map (some b5)),(6,.map (some b6)),(7,.map (some b7)),(94,.slice a f.ad.length c),(95,iv (f.ad.length:Int)),(96,iv (i:Int))] [.box b1 (fT a c f.ad a' c' f.ae) 26 false,.fy b5 (CP A.li),.fy b6 (E1 A.jo),.fy b7 (E2 A.fo)] Q:=by
 refine' zaa
 refine' zap
 all_goals exact hQ _ _ bd aq
end Go.Pl
