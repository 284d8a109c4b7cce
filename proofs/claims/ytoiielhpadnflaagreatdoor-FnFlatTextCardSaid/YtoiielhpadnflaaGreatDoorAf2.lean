/- Lemmas of the proof. No conditions. -/
import Derived.Test.YtoiielhpadnflaaGreatDoorAf1
set_option maxRecDepth 100000
set_option maxHeartbeats 4000000
set_option linter.unusedVariables false
set_option linter.unusedSimpArgs false
open Go.Proofs.Tryz
namespace Go.Pl
open Go Go.Ev Go.Lg Go.Proofs
variable {b b2 b5:Nat}{a a':aS}{c c':Nat}{q:gD}{s:St}{p:List bE}
theorem Qh (s:St)(b:Nat)(a:aS)(c:Nat)(p:List bE)(a':aS)(c':Nat)(q:gD)(hV:Kg p q)(o:Op)(hz:o.ag∈Ev.dL)(ht:o.to∈Ev.dL)(hk7:1<=o.kind/\o.kind<=7)(ho1:aT o.ag=true)(OJ:o.kind=7->aT o.to=true)(pD:0<=o.at_/\o.at_<=192)(Cb:o.a8.length<=24)(hr:iW s b a c p a' c' q):bL 50 [UJ b,ov o] s (rD b a a') (iv (mM p q o)):=by
 obtain⟨kd,pa,tq9,at_,tx⟩:=o;dsimp only at hz ht hk7 ho1 OJ pD Cb;show bL 50 [UJ b,.agg ⟨[iv kd,sv pa,sv tq9,iv at_,sv tx]⟩] s (rD b a a') (iv (mM p q ⟨kd,pa,tq9,at_,tx⟩));have hdx:=Im.x hr;have pL:=Im.n hr;have sj:=Im.t hr;have hld:=R9 (b:=b) (a:=a) (c:=c) (a':=a') (c':=c') hV;have vu:=Zz (b:=b) (a:=a) (c:=c) (a':=a') (c':=c') hV;have Wp:=ZA (b:=b) (a:=a) (c:=c) (a':=a') (c':=c') hV;have amf:∀s b2 b5,wN s b a c p a' c' q b2 b5 (ia p pa)->bL 77 [UJ b,sv pa,.func (.func 78) ⟨[]⟩ ⟨[bk b2]⟩] s (KC b a a' b2 b5) (iv (xc p q pa (decide (Ci q 16 0<0)))):=λs b2 b5 hr=>Nz s b a c p a' c' q b2 b5 _ hV pa hz hr
 have amg:∀s b2 b5,wN s b a c p a' c' q b2 b5 (ia p pa)->bL 77 [UJ b,sv tq9,.func (.func 79) ⟨[]⟩ ⟨[bk b2,bk b5]⟩] s (KC b a a' b2 b5) (iv (xc p q tq9 (decide (9<=xb p (ia p pa))))):=λs b2 b5 hr=>NA s b a c p a' c' q b2 b5 _ hV tq9 ht hr
 by_cases k1:kd=1\/kd=2
 .have e:mM p q ⟨kd,pa,tq9,at_,tx⟩=xc p q pa (decide (Ci q 16 0<0)):=by unfold mM;dsimp only;rw[if_pos k1]
  rw[e];refine aX f50 ?_;(repeat' (first|refine' aZ|refine' rv|refine' rO|refine' ry|refine' uD|((with_reducible apply WO.ZB);exact aD;(exact Pr.mk (wL.mk cD cD cD) cD cD);(intro s hr;exact amf s _ _ hr);intros)|refine' av|fail));all_goals try refine nU
  all_goals refine' ax
  all_goals rfl
 by_cases hk:ia p pa<0
 .have e:mM p q ⟨kd,pa,tq9,at_,tx⟩=2:=by unfold mM;dsimp only;rw[if_neg k1,if_pos hk]
  rw[e];refine aX f50 ?_;repeat' (first|refine' aZ|refine' rv|refine' rO|refine' ry|refine' uD|refine' av|fail)
  all_goals try refine nU
  all_goals refine' ax
  all_goals rfl
 have SO:0<=ia p pa:=by omega
 by_cases k3:kd=3\/kd=4
 .cases hf:lH q (ia p pa) with
  |true=>
   (have e:mM p q ⟨kd,pa,tq9,at_,tx⟩=4:=by unfold mM;dsimp only;rw[if_neg k1,if_neg hk,if_pos k3,if_pos hf]);refine' zaJ
  |false=>
   by_cases h9:192<at_+(tx.length:Int)
   .have e:mM p q ⟨kd,pa,tq9,at_,tx⟩=6:=by unfold mM;dsimp only;rw[if_neg k1,if_neg hk,if_pos k3,if_neg (by rw[hf];exact iB),if_pos h9]
    rw[e];refine aX f50 ?_;refine' Yl;(all_goals try refine nU);(all_goals refine' ax);all_goals rfl
   .have e:mM p q ⟨kd,pa,tq9,at_,tx⟩=0:=by unfold mM;dsimp only;rw[if_neg k1,if_neg hk,if_pos k3,if_neg (by rw[hf];exact iB),if_neg h9]
    rw[e];refine aX f50 ?_;refine' Yl;(all_goals try refine nU);(all_goals refine' ax);all_goals rfl
 by_cases k5:kd=5
 .subst k5;by_cases h0:ia p pa=0
  .have e:mM p q ⟨5,pa,tq9,at_,tx⟩=5:=by unfold mM;dsimp only;rw[if_neg k1,if_neg hk,if_neg k3,if_pos rfl,if_pos (.inl h0)]
   rw[e];refine aX f50 ?_;(repeat' (first|refine' aZ|refine' rv|refine' rO|refine' ry|refine' uD|refine' av|fail));(all_goals try refine nU);(all_goals refine' ax);all_goals rfl
  cases hf:lH q (ia p pa) with
  |false=>
   (have e:mM p q ⟨5,pa,tq9,at_,tx⟩=0:=by unfold mM;dsimp only;rw[if_neg k1,if_neg hk,if_neg k3,if_pos rfl,if_neg (by rintro(h|h)<;>first|exact h0 h|(rw[hf] at h;cases h.1))]);refine' zaJ
  |true=>
   by_cases he:0<YT p (ia p pa)
   .have e:mM p q ⟨5,pa,tq9,at_,tx⟩=5:=by unfold mM;dsimp only;rw[if_neg k1,if_neg hk,if_neg k3,if_pos rfl,if_pos (.inr ⟨hf,he⟩)]
    rw[e];refine aX f50 ?_;(repeat' (first|refine' aZ|refine' rv|refine' rO|refine' ry|refine' uD|refine' BG|refine' Rp|refine' av|fail));(all_goals try refine nU);(all_goals refine' ax);all_goals rfl
   .have e:mM p q ⟨5,pa,tq9,at_,tx⟩=0:=by unfold mM;dsimp only;rw[if_neg k1,if_neg hk,if_neg k3,if_pos rfl,if_neg (by rintro(h|h)<;>first|exact h0 h|exact he h.2)]
    rw[e];refine aX f50 ?_;(repeat' (first|refine' aZ|refine' rv|refine' rO|refine' ry|refine' uD|refine' BG|refine' Rp|refine' av|fail));(all_goals try refine nU);(all_goals refine' ax);all_goals rfl
 by_cases k6:kd=6
 .subst k6;cases hf:lH q (ia p pa) with
  |true=>
   (have e:mM p q ⟨6,pa,tq9,at_,tx⟩=4:=by unfold mM;dsimp only;rw[if_neg k1,if_neg hk,if_neg k3,if_neg k5,if_pos rfl,if_pos hf]);refine' zaJ
  |false=>
   (have e:mM p q ⟨6,pa,tq9,at_,tx⟩=xc p q tq9 (decide (9<=xb p (ia p pa))):=by unfold mM;dsimp only;rw[if_neg k1,if_neg hk,if_neg k3,if_neg k5,if_pos rfl,if_neg (by rw[hf];exact iB)]);rw[e];refine aX f50 ?_;(repeat' (first|refine' aZ|refine' rv|refine' rO|refine' ry|refine' uD|refine' BG|((with_reducible apply WO.ZB);exact aD;(exact Pr.mk (wL.mk cD cD cD) cD cD);(intro s hr;exact amg s _ _ hr);intros)|refine' av|fail));(all_goals try refine nU);(all_goals refine' ax);all_goals rfl
 have OJ:=OJ af;obtain rfl:kd=7:=by omega
 by_cases h0:ia p pa=0
 .have e:mM p q ⟨7,pa,tq9,at_,tx⟩=5:=by unfold mM;dsimp only;rw[if_neg k1,if_neg hk,if_neg k3,if_neg k5,if_neg k6,if_pos h0]
  rw[e];refine aX f50 ?_;refine' Mz;all_goals try refine nU
  all_goals refine' ax
  all_goals rfl
 by_cases h1:0<=ia p tq9
 .have e:mM p q ⟨7,pa,tq9,at_,tx⟩=3:=by unfold mM;dsimp only;rw[if_neg k1,if_neg hk,if_neg k3,if_neg k5,if_neg k6,if_neg h0,if_pos h1]
  rw[e];refine aX f50 ?_;refine' Mz;all_goals try refine nU
  all_goals refine' ax
  all_goals rfl
 cases hu:under tq9 pa with
 |true=>
  have e:mM p q ⟨7,pa,tq9,at_,tx⟩=5:=by unfold mM;dsimp only;rw[if_neg k1,if_neg hk,if_neg k3,if_neg k5,if_neg k6,if_neg h0,if_neg h1,if_pos hu]
  refine' zbn
 |false=>
 by_cases h2:ia p (Ev.eE tq9)<0
 .have e:mM p q ⟨7,pa,tq9,at_,tx⟩=2:=by unfold mM;dsimp only;rw[if_neg k1,if_neg hk,if_neg k3,if_neg k5,if_neg k6,if_neg h0,if_neg h1,if_neg (by rw[hu];exact iB),if_pos h2]
  rw[e];refine aX f50 ?_;refine' Mz;all_goals try refine nU
  all_goals refine' ax
  all_goals rfl
 cases hg:lH q (ia p (Ev.eE tq9)) with
 |false=>
  have e:mM p q ⟨7,pa,tq9,at_,tx⟩=4:=by unfold mM;dsimp only;rw[if_neg k1,if_neg hk,if_neg k3,if_neg k5,if_neg k6,if_neg h0,if_neg h1,if_neg (by rw[hu];exact iB),if_neg h2,if_pos hg]
  refine' zbn
 |true=>
 by_cases h3:ia p (Ev.eE tq9)≠ia p (Ev.eE pa)
 .by_cases h4:12<=YT p (ia p (Ev.eE tq9))
  .have e:mM p q ⟨7,pa,tq9,at_,tx⟩=6:=by unfold mM;dsimp only;rw[if_neg k1,if_neg hk,if_neg k3,if_neg k5,if_neg k6,if_neg h0,if_neg h1,if_neg (by rw[hu];exact iB),if_neg h2,if_neg (by rw[hg];decide),if_pos ⟨h3,h4⟩]
   rw[e];refine aX f50 ?_;refine' Ym;(all_goals try refine nU);(all_goals refine' ax);all_goals rfl
  .have e:mM p q ⟨7,pa,tq9,at_,tx⟩=0:=by unfold mM;dsimp only;rw[if_neg k1,if_neg hk,if_neg k3,if_neg k5,if_neg k6,if_neg h0,if_neg h1,if_neg (by rw[hu];exact iB),if_neg h2,if_neg (by rw[hg];decide),if_neg (λh=>h4 h.2)]
   rw[e];refine aX f50 ?_;refine' Ym;(all_goals try refine nU);(all_goals refine' ax);all_goals rfl
 .have e:mM p q ⟨7,pa,tq9,at_,tx⟩=0:=by unfold mM;dsimp only;rw[if_neg k1,if_neg hk,if_neg k3,if_neg k5,if_neg k6,if_neg h0,if_neg h1,if_neg (by rw[hu];exact iB),if_neg h2,if_neg (by rw[hg];decide),if_neg (λh=>h3 h.1)]
  rw[e];refine aX f50 ?_;refine' Ym;all_goals try refine nU
  all_goals refine' ax
  all_goals rfl
variable {x y:It}
end Go.Pl
