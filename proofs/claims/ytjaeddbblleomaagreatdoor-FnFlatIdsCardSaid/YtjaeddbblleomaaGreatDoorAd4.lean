/- Lemmas of the proof. No conditions. -/
import Derived.Test.YtjaeddbblleomaaGreatDoorAd3
set_option maxRecDepth 100000
set_option maxHeartbeats 4000000
set_option linter.unusedVariables false
set_option linter.unusedSimpArgs false
open Go.Proofs.Tryz
namespace Go.Pl
open Go Go.Ev Go.Lg Go.Proofs
theorem OB (s:St)(b:Nat)(a:aH)(c:Nat)(p:dx)(a':aH)(c':Nat)(q:eV)(hV:IU p q)(o:Op)(hz:o.ag∈Ev.fp)(ht:o.to∈Ev.fp)(hk7:1<=o.kind/\o.kind<=7)(ho1:bf o.ag=true)(Nt:o.kind=7->bf o.to=true)(n4:0<=o.at_/\o.at_<=192)(AS:o.bh.length<=24)(hr:iB s b a c p a' c' q):bO 34 [SR b,ov o] s (qz b a a') (iv (mA p q o)):=by
 obtain⟨kd,pa,to,at_,tx⟩:=o;dsimp only at hz ht hk7 ho1 Nt n4 AS;show bO 34 [SR b,.agg ⟨[iv kd,sv pa,sv to,iv at_,sv tx]⟩] s (qz b a a') (iv (mA p q ⟨kd,pa,to,at_,tx⟩));have hdx:=G3.x hr;have oK:=G3.n hr;have qJ:=G3.t hr;have P2:=LJ (b:=b) (a:=a) (c:=c) (a':=a') (c':=c') hV;have uB:=Xb (b:=b) (a:=a) (c:=c) (a':=a') (c':=c') hV;have U9:=Xc (b:=b) (a:=a) (c:=c) (a':=a') (c':=c') hV;have hnn1:∀s b2 b5,vK s b a c p a' c' q b2 b5 (eC p pa)->bO 68 [SR b,sv pa,.func (.func 69) ⟨[]⟩ ⟨[aP b2]⟩] s (Ju b a a' b2 b5) (iv (uO p q pa (decide (zp q 16 0<0)))):=λs b2 b5 hr=>LK s b a c p a' c' q b2 b5 _ hV pa hz hr
 have hnn2:∀s b2 b5,vK s b a c p a' c' q b2 b5 (eC p pa)->bO 68 [SR b,sv to,.func (.func 70) ⟨[]⟩ ⟨[aP b2,aP b5]⟩] s (Ju b a a' b2 b5) (iv (uO p q to (decide (9<=zo p (eC p pa))))):=λs b2 b5 hr=>LL s b a c p a' c' q b2 b5 _ hV to ht hr
 by_cases k1:kd=1\/kd=2
 .have e:mA p q ⟨kd,pa,to,at_,tx⟩=uO p q pa (decide (zp q 16 0<0)):=by unfold mA;dsimp only;rw[if_pos k1]
  rw[e];refine aO f34 ?_;(repeat' (first|refine' aX|refine' yp|refine' qw|refine' yq|refine' vI|((with_reducible apply WO.Xd);exact aD;(exact NT.mk (uA.mk cu cu cu) cu cu);(intro s hr;exact hnn1 s _ _ hr);intro _ _ _ _)|refine' ar|fail))
  all_goals try refine ry
  all_goals(refine' av)
  all_goals rfl
 by_cases hk:eC p pa<0
 .have e:mA p q ⟨kd,pa,to,at_,tx⟩=2:=by unfold mA;dsimp only;rw[if_neg k1,if_pos hk]
  rw[e];refine aO f34 ?_;(repeat' (first|refine' aX|refine' yp|refine' qw|refine' yq|refine' vI|refine' ar|fail))
  all_goals try refine ry
  all_goals(refine' av)
  all_goals rfl
 have UJ:0<=eC p pa:=by omega
 by_cases k3:kd=3\/kd=4
 .cases hf:jD q (eC p pa) with
  |true=>
   have e:mA p q ⟨kd,pa,to,at_,tx⟩=4:=by unfold mA;dsimp only;rw[if_neg k1,if_neg hk,if_pos k3,if_pos hf]
   refine' zaI
  |false=>
   by_cases h9:192<at_+(tx.length:Int)
   .have e:mA p q ⟨kd,pa,to,at_,tx⟩=6:=by unfold mA;dsimp only;rw[if_neg k1,if_neg hk,if_pos k3,if_neg (by rw[hf];exact jL),if_pos h9]
    rw[e];refine aO f34 ?_;(refine' Ww)
    all_goals try refine ry
    all_goals(refine' av)
    all_goals rfl
   .have e:mA p q ⟨kd,pa,to,at_,tx⟩=0:=by unfold mA;dsimp only;rw[if_neg k1,if_neg hk,if_pos k3,if_neg (by rw[hf];exact jL),if_neg h9]
    rw[e];refine aO f34 ?_;(refine' Ww)
    all_goals try refine ry
    all_goals(refine' av)
    all_goals rfl
 by_cases k5:kd=5
 .subst k5;by_cases h0:eC p pa=0
  .have e:mA p q ⟨5,pa,to,at_,tx⟩=5:=by unfold mA;dsimp only;rw[if_neg k1,if_neg hk,if_neg k3,if_pos rfl,if_pos (.inl h0)]
   rw[e];refine aO f34 ?_;(repeat' (first|refine' aX|refine' yp|refine' qw|refine' yq|refine' vI|refine' ar|fail))
   all_goals try refine ry
   all_goals(refine' av)
   all_goals rfl
  cases hf:jD q (eC p pa) with
  |false=>
   have e:mA p q ⟨5,pa,to,at_,tx⟩=0:=by unfold mA;dsimp only;rw[if_neg k1,if_neg hk,if_neg k3,if_pos rfl,if_neg (by rintro(h|h)<;>first|exact h0 h|(rw[hf] at h;cases h.1))]
   refine' zaI
  |true=>
   by_cases he:0<Oq p (eC p pa)
   .have e:mA p q ⟨5,pa,to,at_,tx⟩=5:=by unfold mA;dsimp only;rw[if_neg k1,if_neg hk,if_neg k3,if_pos rfl,if_pos (.inr ⟨hf,he⟩)]
    rw[e];refine aO f34 ?_;(repeat' (first|refine' aX|refine' yp|refine' qw|refine' yq|refine' vI|refine' KP|refine' Z9|refine' ar|fail))
    all_goals try refine ry
    all_goals(refine' av)
    all_goals rfl
   .have e:mA p q ⟨5,pa,to,at_,tx⟩=0:=by unfold mA;dsimp only;rw[if_neg k1,if_neg hk,if_neg k3,if_pos rfl,if_neg (by rintro(h|h)<;>first|exact h0 h|exact he h.2)]
    rw[e];refine aO f34 ?_;(repeat' (first|refine' aX|refine' yp|refine' qw|refine' yq|refine' vI|refine' KP|refine' Z9|refine' ar|fail))
    all_goals try refine ry
    all_goals(refine' av)
    all_goals rfl
 by_cases k6:kd=6
 .subst k6;cases hf:jD q (eC p pa) with
  |true=>
   have e:mA p q ⟨6,pa,to,at_,tx⟩=4:=by unfold mA;dsimp only;rw[if_neg k1,if_neg hk,if_neg k3,if_neg k5,if_pos rfl,if_pos hf]
   refine' zaI
  |false=>
   have e:mA p q ⟨6,pa,to,at_,tx⟩=uO p q to (decide (9<=zo p (eC p pa))):=by unfold mA;dsimp only;rw[if_neg k1,if_neg hk,if_neg k3,if_neg k5,if_pos rfl,if_neg (by rw[hf];exact jL)]
   rw[e];refine aO f34 ?_;(repeat' (first|refine' aX|refine' yp|refine' qw|refine' yq|refine' vI|refine' KP|((with_reducible apply WO.Xd);exact aD;(exact NT.mk (uA.mk cu cu cu) cu cu);(intro s hr;exact hnn2 s _ _ hr);intro _ _ _ _)|refine' ar|fail))
   all_goals try refine ry
   all_goals(refine' av)
   all_goals rfl
 have Nt:=Nt af;obtain rfl:kd=7:=by omega
 by_cases h0:eC p pa=0
 .have e:mA p q ⟨7,pa,to,at_,tx⟩=5:=by unfold mA;dsimp only;rw[if_neg k1,if_neg hk,if_neg k3,if_neg k5,if_neg k6,if_pos h0]
  rw[e];refine aO f34 ?_;(refine' Wx)
  all_goals try refine ry
  all_goals(refine' av)
  all_goals rfl
 by_cases h1:0<=eC p to
 .have e:mA p q ⟨7,pa,to,at_,tx⟩=3:=by unfold mA;dsimp only;rw[if_neg k1,if_neg hk,if_neg k3,if_neg k5,if_neg k6,if_neg h0,if_pos h1]
  rw[e];refine aO f34 ?_;(refine' Wx)
  all_goals try refine ry
  all_goals(refine' av)
  all_goals rfl
 cases hu:under to pa with
 |true=>
  have e:mA p q ⟨7,pa,to,at_,tx⟩=5:=by unfold mA;dsimp only;rw[if_neg k1,if_neg hk,if_neg k3,if_neg k5,if_neg k6,if_neg h0,if_neg h1,if_pos hu]
  refine' zbf
 |false=>
 by_cases h2:eC p (Ev.c8 to)<0
 .have e:mA p q ⟨7,pa,to,at_,tx⟩=2:=by unfold mA;dsimp only;rw[if_neg k1,if_neg hk,if_neg k3,if_neg k5,if_neg k6,if_neg h0,if_neg h1,if_neg (by rw[hu];exact jL),if_pos h2]
  rw[e];refine aO f34 ?_;(refine' Wx)
  all_goals try refine ry
  all_goals(refine' av)
  all_goals rfl
 cases hg:jD q (eC p (Ev.c8 to)) with
 |false=>
  have e:mA p q ⟨7,pa,to,at_,tx⟩=4:=by unfold mA;dsimp only;rw[if_neg k1,if_neg hk,if_neg k3,if_neg k5,if_neg k6,if_neg h0,if_neg h1,if_neg (by rw[hu];exact jL),if_neg h2,if_pos hg]
  refine' zbf
 |true=>
 by_cases h3:eC p (Ev.c8 to)≠eC p (Ev.c8 pa)
 .by_cases h4:12<=Oq p (eC p (Ev.c8 to))
  .have e:mA p q ⟨7,pa,to,at_,tx⟩=6:=by unfold mA;dsimp only;rw[if_neg k1,if_neg hk,if_neg k3,if_neg k5,if_neg k6,if_neg h0,if_neg h1,if_neg (by rw[hu];exact jL),if_neg h2,if_neg (by rw[hg];decide),if_pos ⟨h3,h4⟩]
   rw[e];refine aO f34 ?_;(refine' zb78)
   all_goals try refine ry
   all_goals(refine' av)
   all_goals rfl
  .have e:mA p q ⟨7,pa,to,at_,tx⟩=0:=by unfold mA;dsimp only;rw[if_neg k1,if_neg hk,if_neg k3,if_neg k5,if_neg k6,if_neg h0,if_neg h1,if_neg (by rw[hu];exact jL),if_neg h2,if_neg (by rw[hg];decide),if_neg (λh=>h4 h.2)]
   rw[e];refine aO f34 ?_;(refine' zb78)
   all_goals try refine ry
   all_goals(refine' av)
   all_goals rfl
 .have e:mA p q ⟨7,pa,to,at_,tx⟩=0:=by unfold mA;dsimp only;rw[if_neg k1,if_neg hk,if_neg k3,if_neg k5,if_neg k6,if_neg h0,if_neg h1,if_neg (by rw[hu];exact jL),if_neg h2,if_neg (by rw[hg];decide),if_neg (λh=>h3 h.1)]
  rw[e];refine aO f34 ?_;(refine' zb78)
  all_goals try refine ry
  all_goals(refine' av)
  all_goals rfl
end Go.Pl
