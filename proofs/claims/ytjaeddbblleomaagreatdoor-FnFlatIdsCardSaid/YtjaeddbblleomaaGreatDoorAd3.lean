/- Lemmas of the proof. No conditions. -/
import Derived.Test.YtjaeddbblleomaaGreatDoorAd2
set_option maxRecDepth 100000
set_option maxHeartbeats 4000000
set_option linter.unusedVariables false
set_option linter.unusedSimpArgs false
open Go.Proofs.Tryz
namespace Go.Pl
open Go Go.Ev Go.Lg Go.Proofs
theorem LL (s:St)(b:Nat)(a:aH)(c:Nat)(p:dx)(a':aH)(c':Nat)(q:eV)(b2 b5:Nat)(k:Int)(hV:IU p q)(z:ay)(hz:z∈Ev.fp)(hr:vK s b a c p a' c' q b2 b5 k):bO 68 [SR b,sv z,.func (.func 70) ⟨[]⟩ ⟨[aP b2,aP b5]⟩] s (Ju b a a' b2 b5) (iv (uO p q z (decide (9<=zo p k)))):=by
 have hdx:=DP.x hr;have oK:=DP.n hr;have qJ:=DP.t hr;have hdi:=DP.i hr;have hdk:=DP.kk hr;have P2:=LJ (b:=b) (a:=a) (c:=c) (a':=a') (c':=c') hV;have uB:=Xb (b:=b) (a:=a) (c:=c) (a':=a') (c':=c') hV;have U9:=Xc (b:=b) (a:=a) (c:=c) (a':=a') (c':=c') hV;have tU:∀s n,vK s b a c p a' c' q b2 b5 k->bO 70 [iv n,aP b2,aP b5] s (Ju b a a' b2 b5) (.bool (decide (9<=zo p k))):=λs n hr=>ag2_ok s b a c p a' c' q b2 b5 k n hV hr
 generalize decide (9<=zo p k)=cK at *
 by_cases h1:z=[47]
 .have e:uO p q z cK=3:=by unfold uO;rw[if_pos h1]
  rw[e];refine aO f68 ?_;(refine' aak)
  all_goals try refine cI
  all_goals(refine' av)
  all_goals rfl
 by_cases h2:eC p (Ev.c8 z)<0
 .have e:uO p q z cK=2:=by unfold uO;rw[if_neg h1,if_pos h2]
  rw[e];refine aO f68 ?_;(refine' aak)
  all_goals try refine cI
  all_goals(refine' av)
  all_goals rfl
 by_cases h3:jD q (eC p (Ev.c8 z))=false
 .have e:uO p q z cK=4:=by unfold uO;rw[if_neg h1,if_neg h2,if_pos h3]
  rw[e];refine aO f68 ?_;(refine' aal)
  all_goals try refine ry
  all_goals(refine' av)
  all_goals rfl
 have h3t:jD q (eC p (Ev.c8 z))=true:=by simpa using h3
 by_cases h4:0<=eC p z
 .have e:uO p q z cK=3:=by unfold uO;rw[if_neg h1,if_neg h2,if_neg h3,if_pos h4]
  rw[e];refine aO f68 ?_;(refine' aal)
  all_goals try refine ry
  all_goals(refine' av)
  all_goals rfl
 .have e:uO p q z cK=if cK=true\/12<=Oq p (eC p (Ev.c8 z)) then 6 else 0:=by unfold uO;rw[if_neg h1,if_neg h2,if_neg h3,if_neg h4]
  rw[e];refine aO f68 ?_;(refine' zb71)
  all_goals refine' zaE
section
variable {E:dy}{X:dM}{Γ:gY}{l:Kn}{L R:bn}{K:KO}{g g2:FuncId}{xs:List Operand}{ts:Array TypeId}{vs ca:aQ}{b b2 b5:Nat}{k:Int}{a a':aH}{c c':Nat}{p:dx}{q:eV}{r:Value}{z:ay}
theorem WO.Xd (hx:ky l xs [SR b,sv z,.func (.func g2) ⟨[]⟩ ⟨aP b2::ca⟩])(hh:NT Γ L b a c p a' c' q b2 b5 k)(h:∀s,vK s b a c p a' c' q b2 b5 k->pW E X g [SR b,sv z,.func (.func g2) ⟨[]⟩ ⟨aP b2::ca⟩] s (Ju b a a' b2 b5) r)(kk:∀m m',kb L m->m<=m'->K r L m m' (λi=>i∈Ju b a a' b2 b5\/i∈([]:bn).flatMap It.aS\/(m<=i/\i<m')) (λi=>i∈([]:bn).flatMap It.aS\/(m<=i/\i<m'))):WO E X Γ l (.call ⟨.value (.func g),⟨xs⟩,ts⟩) L K:=WO.VU hx h hh kk
end
end Go.Pl
