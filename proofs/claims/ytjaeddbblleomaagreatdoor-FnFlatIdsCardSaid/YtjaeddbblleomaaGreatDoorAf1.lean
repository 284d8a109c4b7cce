/- Lemmas of the proof. No conditions. -/
import Derived.Shelf.Small.Strs
import Derived.Shelf.Strings.Repeat
import Derived.Shelf.SlSortCmp.WholeK
import Derived.Ground.NamesProg
import Derived.Ground.SlsfProg
import Derived.Shelf.SlicesG.Cmp
import Derived.Ground.SlgcProg
import Derived.Test.YtjaeddbblleomaaGreatDoorProg
import Derived.Lib.MakeNoZero
import Derived.WalkKit
import Derived.Laws.StructEq
import Derived.Laws.Externs
import Derived.Shelf.GgSortFunc.InsertionK
import Derived.Test.YtjaeddbblleomaaGreatDoorAe14
set_option maxRecDepth 100000
set_option maxHeartbeats 4000000
set_option linter.unusedVariables false
set_option linter.unusedSimpArgs false
open Go.Proofs.Tryz
namespace Go
theorem zac{P:Prop}(h:P:=by
 have BR:=gC (f.ad.getD ((i:Int)-1).toNat c9.lW).ag (f.ad.getD i c9.lW).ag;rw[c1] at BR;clear hr hf hs g2;(refine' sb)
 all_goals try refine M0
 all_goals(rcases(_:_) with h;exact h)):P:=h
theorem zah{P:Prop}(h:P:=by
 have J7:=g2.1;have tW:T7 (Flat.fV out ⟨Flat.eJ z y (f.ad.getD i c9.lW).ag,(f.ad.getD i c9.lW).id⟩):=⟨by rw[nc];omega,λx hx=>by
  rcases Er _ _ hx with rfl|hx
  .have:=MM z y (f.ad.getD i c9.lW).ag;show(Flat.eJ z y (f.ad.getD i c9.lW).ag).length<=5000;omega
  .exact g2.2 x hx⟩
 have OF:(Flat.fV out ⟨Flat.eJ z y (f.ad.getD i c9.lW).ag,(f.ad.getD i c9.lW).id⟩).length=i+1:=by rw[nc,g3]
 by_cases e1:(f.ad.getD i c9.lW).ag=z\/(z.length<(f.ad.getD i c9.lW).ag.length/\(f.ad.getD i c9.lW).ag.take (z.length+1)=z++[47])
 all_goals(rcases(_:_) with h;exact h)):P:=h
theorem zal{P:Prop}(h:P:=by
 have e3:¬(z.length<(f.ad.getD i c9.lW).ag.length/\(f.ad.getD i c9.lW).ag.take ((z.length:Int)+1).toNat=z++[47]):=λh=>e1 (.inr (by rw[show((z.length:Int)+1).toNat=z.length+1 by omega] at h;exact h))
 clear e1;(refine' GK)
 all_goals first|(exfalso;omega;done)|contradiction|(exfalso;exact e3 ⟨af,by assumption⟩)|skip
 all_goals exact⟨_,af,i+1,b3,b6,_,_,_,bd,aq,rfl,af,tW,OF,g4⟩
 all_goals(rcases(_:_) with h;exact h)):P:=h
theorem zam{P:Prop}(h:P:=by
 all_goals try refine cI
 all_goals exact⟨bB,_,_,bj,aq,_,_,_,_,rfl,rfl⟩
 all_goals(rcases(_:_) with h;exact h)):P:=h
theorem zan{P:Prop}(h:P:=by
 have kD:oC f.ad f.ae (i+1) ⟨(db A.li (f.ad.getD i c9.lW).id ((bN A.li (f.ad.getD i c9.lW).id).getD 0+1)),(db A.jo (au (f.ad.getD i c9.lW).ag).1 ((bN A.jo (au (f.ad.getD i c9.lW).ag).1).getD 0+1)),(db A.fo (f.ad.getD i c9.lW).ag (f.ae.getD t c9.lW).aM)⟩:=by
  by_cases hn:WY f.ad f.ae i
  .obtain⟨A2,h1,h2⟩:=ji.1 hn;rw[e] at h1;cases h1;exact h2
  .rw[ji.2 hn] at e;cases e
 all_goals(rcases(_:_) with h;exact h)):P:=h
theorem zao{P:Prop}(h:P:=by
 all_goals try refine cI
 all_goals exact⟨bB,_,_,bj,aq,_,_,_,_,_,_,_,Dc,rfl,rfl⟩
 all_goals(rcases(_:_) with h;exact h)):P:=h
theorem zau{P:Prop}(h:P:=by
 have kD:oC f.ad f.ae (i+1) ⟨(db A.li (f.ad.getD i c9.lW).id ((bN A.li (f.ad.getD i c9.lW).id).getD 0+1)),A.jo,(db A.fo (f.ad.getD i c9.lW).ag (f.ae.getD t c9.lW).aM)⟩:=by
  by_cases hn:WY f.ad f.ae i
  .obtain⟨A2,h1,h2⟩:=ji.1 hn;rw[e] at h1;cases h1;exact h2
  .rw[ji.2 hn] at e;cases e
 all_goals(rcases(_:_) with h;exact h)):P:=h
theorem zav{P:Prop}(h:P:=by
 exact⟨_,af,i+1,b1,b5,b6,b7,⟨(db A.li (f.ad.getD i c9.lW).id ((bN A.li (f.ad.getD i c9.lW).id).getD 0+1)),(db A.jo (au (f.ad.getD i c9.lW).ag).1 ((bN A.jo (au (f.ad.getD i c9.lW).ag).1).getD 0+1)),(db A.fo (f.ad.getD i c9.lW).ag (f.ae.getD t c9.lW).aM)⟩,hl,hL,rfl,af,kD,g3⟩
 all_goals(rcases(_:_) with h;exact h)):P:=h
theorem zay{P:Prop}(h:P:=by
 show(Op.equalIn (9998+1) t _ _).run prog w=_;unfold Op.equalIn;simp only[Sem.run_bind,run_underlying h,Result.andThen_ok,if_true,Sem.run_pure]
 all_goals(rcases(_:_) with h;exact h)):P:=h
theorem zaz{P:Prop}(h:P:=by
 all_goals exact⟨_,af,i+1,b3,b6,_,_,_,bd,aq,rfl,af,tW,OF,g4⟩
 all_goals(rcases(_:_) with h;exact h)):P:=h
theorem zaA{P:Prop}(h:P:=by
 refine oZ λh=>?_
 have h':∀k:Nat,k<=f.ae.length->∃x∈f.ae,x.id=(k:Int):=λk hk=>by
  cases hz:f.cD (k:Int) with
  |none=>exact absurd ⟨k,hk,hz⟩ h
  |some i=>
   obtain⟨h1,h2,_⟩:=nq.1 hz;exact⟨_,tA h1,by simpa using h2⟩
 all_goals(rcases(_:_) with h;exact h)):P:=h
theorem zaF{P:Prop}(h:P:=by
 exact⟨_,af,i+1,b1,b5,b6,b7,⟨(db A.li (f.ad.getD i c9.lW).id ((bN A.li (f.ad.getD i c9.lW).id).getD 0+1)),A.jo,(db A.fo (f.ad.getD i c9.lW).ag (f.ae.getD t c9.lW).aM)⟩,hl,hL,rfl,af,kD,g3⟩
 all_goals(rcases(_:_) with h;exact h)):P:=h
theorem zaG{P:Prop}(h:P:=by
 cases ys with
 |nil=>cases h0
 |cons y0 ys=>
 rw[dN] at h0;obtain⟨e0,he0,g0⟩:=aw h0;obtain⟨r1,h1,hr0⟩:=aw g0;obtain⟨b1,rfl,rfl⟩:=qo he0;cases ys with
 |nil=>cases h1
 |cons y1 ys=>
 all_goals(rcases(_:_) with h;exact h)):P:=h
theorem zaK{P:Prop}(h:P:=by
 have hzl:z.length<=(f.ad.getD i c9.lW).ag.length:=by rcases e1 with h|h<;>first|omega|exact Nat.le_of_eq (gb List.length h).symm
 clear e1;rcases T6 with e1|⟨e0,e2,e3⟩
 all_goals(rcases(_:_) with h;exact h)):P:=h
theorem zaO{P:Prop}(h:P:=by
 obtain⟨ks,hm,hk⟩:=ug t xs _ h;have h1:(t=37/\ks=[0,2,1])\/(t=60/\ks=[0,0,0,0,0])\/(t=70/\ks=[1,0]):=by simpa[aU] using hm
 rcases h1 with h0|h0|h0
 all_goals(rcases(_:_) with h;exact h)):P:=h
theorem zaQ{P:Prop}(h:P:=by
 obtain⟨p,hp,h1,h2,h3⟩:=xw t m _ h;simp only[aU,bV,iC,iP] at hp;rcases hp with rfl|rfl|rfl|rfl|rfl|rfl<;>dsimp only at h1 h2 h3<;>subst h1 h2 h3
 all_goals(rcases(_:_) with h;exact h)):P:=h
theorem zaU{P:Prop}(h:P:=by
 cases xs with
 |nil=>cases h0
 |cons v0 xs=>
 obtain⟨k0,_,h1⟩:=eN h0;obtain⟨a1,rfl⟩:=kV k0;cases xs with
 |nil=>cases h1
 |cons v1 xs=>
 all_goals(rcases(_:_) with h;exact h)):P:=h
theorem zaZ{P:Prop}(h:P:=by
 by_cases c6:1<((bN (db A.li (f.ad.getD i c9.lW).id ((bN A.li (f.ad.getD i c9.lW).id).getD 0+1)) (f.ad.getD i c9.lW).id).getD 0)
 all_goals(rcases(_:_) with h;exact h)):P:=h
theorem zbe{P:Prop}(h:P:=by
 all_goals try refine cI
 all_goals exact⟨bB,_,_,bj,aq,rfl,_,_,_,_,_,_,_,_,cy _,gS,cy _,gS,rfl⟩
 all_goals(rcases(_:_) with h;exact h)):P:=h
end Go
namespace Go.Pl
open Go Go.Ev Go.Lg Go.Proofs
variable {s:St}{a a':aH}{c c' i t:Nat}{f:Flat}{A:Acc}
theorem ifB1 (hf:nz f)(hr:bY s a a' f)(hs:eB f.ae)(b1 b5 b6 b7:Nat)(hi:i<f.ad.length)(g2:oC f.ad f.ae i A)(ht:nS f.ae (f.ad.getD i c9.lW).id=some t)(h0:0<i)(c1:bK (f.ad.getD ((i:Int)-1).toNat c9.lW).ag (f.ad.getD i c9.lW).ag=false)(Q:Ex->Kn->bn->Prop)(hQ:∀l L,lk l 2=some (.bool false)->Q .ret l L):W aU aW ⟨s,([]:bn).flatMap It.aS,jh a a'⟩ (mB f12) [(1,aP b1),(5,.map (some b5)),(6,.map (some b6)),(7,.map (some b7)),(94,.slice a f.ad.length c),(95,iv (f.ad.length:Int)),(96,iv (i:Int))] [.box b1 (fT a c f.ad a' c' f.ae) 26 false,.fy b5 (CP A.li),.fy b6 (E1 A.jo),.fy b7 (E2 A.fo)] Q:=by
 refine' zaa
 refine' zac
 all_goals exact hQ _ _ rfl
theorem ifB2 (hf:nz f)(hr:bY s a a' f)(hs:eB f.ae)(b1 b5 b6 b7:Nat)(hi:i<f.ad.length)(g2:oC f.ad f.ae i A)(ht:nS f.ae (f.ad.getD i c9.lW).id=some t)(h0:0<i)(c1:bK (f.ad.getD ((i:Int)-1).toNat c9.lW).ag (f.ad.getD i c9.lW).ag=true)(c2:(bN A.fo (au (f.ad.getD i c9.lW).ag).1).getD false=false)(Q:Ex->Kn->bn->Prop)(hQ:∀l L,lk l 2=some (.bool false)->Q .ret l L):W aU aW ⟨s,([]:bn).flatMap It.aS,jh a a'⟩ (mB f12) [(1,aP b1),(5,.map (some b5)),(6,.map (some b6)),(7,.map (some b7)),(94,.slice a f.ad.length c),(95,iv (f.ad.length:Int)),(96,iv (i:Int))] [.box b1 (fT a c f.ad a' c' f.ae) 26 false,.fy b5 (CP A.li),.fy b6 (E1 A.jo),.fy b7 (E2 A.fo)] Q:=by
 refine' zaa
 refine' zac
 all_goals exact hQ _ _ rfl
theorem ifB3 (hf:nz f)(hr:bY s a a' f)(hs:eB f.ae)(b1 b5 b6 b7:Nat)(hi:i<f.ad.length)(g2:oC f.ad f.ae i A)(ht:nS f.ae (f.ad.getD i c9.lW).id=some t)(h0:0<i)(c1:bK (f.ad.getD ((i:Int)-1).toNat c9.lW).ag (f.ad.getD i c9.lW).ag=true)(c2:(bN A.fo (au (f.ad.getD i c9.lW).ag).1).getD false=true)(c3:bT (au (f.ad.getD i c9.lW).ag).2=false)(Q:Ex->Kn->bn->Prop)(hQ:∀l L,lk l 2=some (.bool false)->Q .ret l L):W aU aW ⟨s,([]:bn).flatMap It.aS,jh a a'⟩ (mB f12) [(1,aP b1),(5,.map (some b5)),(6,.map (some b6)),(7,.map (some b7)),(94,.slice a f.ad.length c),(95,iv (f.ad.length:Int)),(96,iv (i:Int))] [.box b1 (fT a c f.ad a' c' f.ae) 26 false,.fy b5 (CP A.li),.fy b6 (E1 A.jo),.fy b7 (E2 A.fo)] Q:=by
 refine' zaa
 refine' zac
 all_goals exact hQ _ _ rfl
theorem ifB7 (hf:nz f)(hr:bY s a a' f)(hs:eB f.ae)(b1 b5 b6 b7:Nat)(hi:i<f.ad.length)(g2:oC f.ad f.ae i A)(ht:nS f.ae (f.ad.getD i c9.lW).id=some t)(h0:0<i)(c1:bK (f.ad.getD ((i:Int)-1).toNat c9.lW).ag (f.ad.getD i c9.lW).ag=true)(c2:(bN A.fo (au (f.ad.getD i c9.lW).ag).1).getD false=true)(c3:bT (au (f.ad.getD i c9.lW).ag).2=true)(c7:12<((bN (db A.jo (au (f.ad.getD i c9.lW).ag).1 ((bN A.jo (au (f.ad.getD i c9.lW).ag).1).getD 0+1)) (au (f.ad.getD i c9.lW).ag).1).getD 0))(Q:Ex->Kn->bn->Prop)(hQ:∀l L,lk l 2=some (.bool false)->Q .ret l L):W aU aW ⟨s,([]:bn).flatMap It.aS,jh a a'⟩ (mB f12) [(1,aP b1),(5,.map (some b5)),(6,.map (some b6)),(7,.map (some b7)),(94,.slice a f.ad.length c),(95,iv (f.ad.length:Int)),(96,iv (i:Int))] [.box b1 (fT a c f.ad a' c' f.ae) 26 false,.fy b5 (CP A.li),.fy b6 (E1 A.jo),.fy b7 (E2 A.fo)] Q:=by
 refine' zaa
 refine' zac
 all_goals exact hQ _ _ rfl
end Go.Pl
