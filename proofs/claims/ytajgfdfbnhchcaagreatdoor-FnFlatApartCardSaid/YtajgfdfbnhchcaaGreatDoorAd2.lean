/- Lemmas of the proof. No conditions. -/
import Derived.Test.YtajgfdfbnhchcaaGreatDoorAd1
set_option maxRecDepth 100000
set_option maxHeartbeats 4000000
set_option linter.unusedVariables false
set_option linter.unusedSimpArgs false
open Go.Proofs.Tryz
namespace Go.Pl
open Go Go.Ev Go.Lg Go.Proofs
theorem XT (s:St)(o:Op)(hp:o.af∈Ev.cB)(ht:o.to∈Ev.cB):bP 47 [ov o] s [] (.bool (gJ o)):=by
 obtain⟨kd,pa,to,at_,tx⟩:=o;dsimp only at hp ht;have e0:aT []=false:=rfl;refine aU f47 ?_;(repeat' (first|refine' a7|refine' SR|((with_reducible apply WO.bI);exact aE;(first|exact λs=>Pf s _ (by assumption));intro _ _ _ _)|refine' aw|fail))
 all_goals try refine cM
 all_goals(refine' ax)
 all_goals(simp only[gB];refine fI Value.bool ?_;unfold gJ;unfold fR at *)
 all_goals first
  |(simp_all;done)
  |(simp_all;omega)
  |(simp_all;split<;>first|rfl|omega|(simp_all;done)|(simp_all;omega);done)
  |(by_cases e1:to=[]<;>by_cases e2:kd=7<;>first|(simp_all;done)|(simp_all;omega))
  |(by_cases e1:to=[]<;>by_cases e2:kd=7<;>by_cases e3:24<tx.length<;>first|(simp_all;done)|(simp_all;omega)|(rw[show decide ((tx.length:Int)<=24)=false by rw[mb];omega];simp_all;done)|(rw[show decide ((tx.length:Int)<=24)=true by rw[bQ];omega];simp_all;done)|(rw[show decide ((tx.length:Int)<=24)=true by rw[bQ];omega];simp_all;omega))
end Go.Pl
namespace Go.Lg
open Go Go.Ev
section
variable {E:dA}{X:dM}{Γ:ij}{l:Kn}{L L' R:bE}{K:KO}{x y o:Operand}{t t2:TypeId}{s:St}
theorem WO.aaG {mn:String}{it:TypeId}{a:Addr}{g:FuncId}{c:Array Value}(hx:Ev l x (.func (.method mn) ⟨[.iface it (.pointer (some a))]⟩ c))(hm:mc it mn E.rV=some g)(k:∀n,K (.func (.method mn) ⟨[.iface it (.pointer (some a))]⟩ c) L n n Z Z):WO E X Γ l (.nilCheck x) L K:=WO.val (λtm s call hl=>by
 show Gp E (aM tm x) s=_;rw[hx.eval hl];show ob (mc it mn E.rV) _=_;rw[hm];rfl) k
end
end Go.Lg
namespace Go.Pl
open Go Go.Ev Go.Lg Go.Proofs
abbrev Tx (b:Nat):Value:=.iface 94 (bc b)
theorem G4:mc 94 "loop.example/poolfiles/impl.lead" a8.rV=some 21:=by kernel_rfl
theorem Ln:mc 94 "loop.example/poolfiles/impl.folder" a8.rV=some 287:=by kernel_rfl
theorem I7:mc 94 "loop.example/poolfiles/impl.entries" a8.rV=some 286:=by kernel_rfl
theorem OC:mc 94 "loop.example/poolfiles/impl.links" a8.rV=some 90:=by kernel_rfl
theorem SU:mc 94 "loop.example/poolfiles/impl.room" a8.rV=some 86:=by kernel_rfl
structure wu (s:St)(b:Nat)(a:aK)(c:Nat)(p:List a6)(a':aK)(c':Nat)(q:eG)(b2 b5:Nat)(k:Int):Prop where
 p:iQ s b a c p a' c' q
 i:bO s (jP b2) 1 1 [Tx b]
 n:bO s (jP b5) 1 1 [iv k]
structure OD (Γ:ij)(L:bE)(b:Nat)(a:aK)(c:Nat)(p:List a6)(a':aK)(c':Nat)(q:eG)(b2 b5:Nat)(k:Int):Prop where
 p:uZ Γ L b a c p a' c' q
 i:jY Γ L (jP b2) 1 1 [Tx b]
 n:jY Γ L (jP b5) 1 1 [iv k]
abbrev J4 (b:Nat)(a a':aK)(b2 b5:Nat):List Nat:=qN b a a'++[b2,b5]
section
variable {E:dA}{X:dM}{Γ:ij}{l:Kn}{L R:bE}{K:KO}{g:FuncId}{xs:List Operand}{ts:Array TypeId}{vs:aQ}{b b2 b5:Nat}{k:Int}{a a':aK}{c c':Nat}{p:List a6}{q:eG}{r:Value}{s:St}
theorem OD.row (h:OD Γ L b a c p a' c' q b2 b5 k)(hi:Inv Γ s L):wu s b a c p a' c' q b2 b5 k/\∀i∈J4 b a a' b2 b5,Fi Γ s i:=by
 refine⟨⟨(h.p.row hi).1,(h.i.row hi).1,(h.n.row hi).1⟩,λi hb=>?_⟩;rcases eX.1 hb with hb|hb
 .exact(h.p.row hi).2 i hb
 .rcases bR.1 hb with rfl|hb
  .exact(h.i.row hi).2 _ (by simp[aj])
  .rw[gR] at hb;subst hb;exact(h.n.row hi).2 _ (by simp[aj])
theorem WO.WA (hx:kL l xs vs)(h:∀s,wu s b a c p a' c' q b2 b5 k->qj E X g vs s (J4 b a a' b2 b5) r)(hh:OD Γ L b a c p a' c' q b2 b5 k)(kk:∀m m',kq L m->m<=m'->K r L m m' (λi=>i∈J4 b a a' b2 b5\/i∈([]:bE).flatMap It.aY\/(m<=i/\i<m')) (λi=>i∈([]:bE).flatMap It.aY\/(m<=i/\i<m'))):WO E X Γ l (.call ⟨.value (.func g),⟨xs⟩,ts⟩) L K:=
 WO.ub hx (λs hi=>⟨(hh.row hi).2,h s (hh.row hi).1⟩) kk
theorem Ep.x (h:wu s b a c p a' c' q b2 b5 k):Rd ⟨s,([]:bE).flatMap It.aY,J4 b a a' b2 b5⟩ (jP b) 1 2 (iw a c p a' c' q):=Rd.of h.p.b λi hb=>by rw[show i=b by simpa[aj] using hb];exact iV
theorem Ep.n (h:wu s b a c p a' c' q b2 b5 k):Rd ⟨s,([]:bE).flatMap It.aY,J4 b a a' b2 b5⟩ a p.length 2 (ai p):=Rd.of h.p.n λ_ hb=>cP _ (lu _ (cP _ hb))
theorem Ep.t (h:wu s b a c p a' c' q b2 b5 k):Rd ⟨s,([]:bE).flatMap It.aY,J4 b a a' b2 b5⟩ a' q.length 3 (ai q):=Rd.of h.p.t λ_ hb=>cP _ (lu _ (dz _ hb))
theorem Ep.i (h:wu s b a c p a' c' q b2 b5 k):Rd ⟨s,([]:bE).flatMap It.aY,J4 b a a' b2 b5⟩ (jP b2) 1 1 [Tx b]:=Rd.of h.i λi hb=>by rw[show i=b2 by simpa[aj] using hb];exact dz _ (by simp)
theorem Ep.kk (h:wu s b a c p a' c' q b2 b5 k):Rd ⟨s,([]:bE).flatMap It.aY,J4 b a a' b2 b5⟩ (jP b5) 1 1 [iv k]:=Rd.of h.n λi hb=>by rw[show i=b5 by simpa[aj] using hb];exact dz _ (by simp)
end
structure Jp (p:List a6)(q:eG):Prop where
 sn:kE p
 st:gi q
 pl:p.length<=1000
 ql:q.length<=1000
 ps:∀x∈p,x.af.length<=5000
 th:∀z,0<=dy p z->(kM q (dy p z)).isSome=true
 id:∀x∈p,-1000<=x.id/\x.id<=1000
theorem XU (q:eG):∀n k,Jo q n k=zU q n k
 |0,_=>rfl
 |n+1,k=>by unfold Jo zU;rw[XU q n]
section
variable {b:Nat}{a:aK}{c:Nat}{p:List a6}{a':aK}{c':Nat}{q:eG}(hV:Jp p q)
include hV
theorem Mj:∀s z,iQ s b a c p a' c' q->bP 21 [bc b,sv z] s (qN b a a') (iv (dy p z)):=λs z hr=>Q6 s b a c p a' c' q hV.sn hV.pl z hr
theorem XV:∀s k,(kM q k).isSome=true->iQ s b a c p a' c' q->bP 287 [bc b,iv k] s (qN b a a') (.bool (gC q k)):=λs k hk hr=>by
 obtain⟨t,ht⟩:=ju.1 hk;have:=Tv s b a c p a' c' q hV.st hV.ql k t ht hr;unfold gC;rw[ht];exact this
theorem XW:∀s k,iQ s b a c p a' c' q->bP 286 [bc b,iv k] s (qN b a a') (iv (NJ p k:Int)):=λs k hr=>Pe s b a c p a' c' q hV.sn hV.pl hV.ps k hr
theorem aih:∀s k,iQ s b a c p a' c' q->bP 90 [bc b,iv k] s (qN b a a') (iv (rQ p k:Int)):=λs k hr=>Mi s b a c p a' c' q hV.pl k hr
theorem ac1:∀s,iQ s b a c p a' c' q->bP 86 [bc b] s (qN b a a') (iv (zU q 16 0)):=λs hr=>by
 have:=abg s b a c p a' c' q hV.st hV.ql hr
 rwa [XU] at this
end
theorem aeP (s:St)(b:Nat)(a:aK)(c:Nat)(p:List a6)(a':aK)(c':Nat)(q:eG)(b2 b5:Nat)(k n:Int)(hV:Jp p q)(hr:wu s b a c p a' c' q b2 b5 k):bP 83 [iv n,bc b2] s (J4 b a a' b2 b5) (.bool (decide (zU q 16 0<0))):=by
 have hdx:=Ep.x hr;have oR:=Ep.n hr;have qI:=Ep.t hr;have hdi:=Ep.i hr;have hrm:=ac1 (b:=b) (a:=a) (c:=c) (a':=a') (c':=c') hV;refine aU f83 ?_;(repeat' (first|refine' a7|refine' aaF|refine' yU|refine' aei|refine' aw|fail))
 all_goals(refine' ax)
 all_goals rfl
theorem aeQ (s:St)(b:Nat)(a:aK)(c:Nat)(p:List a6)(a':aK)(c':Nat)(q:eG)(b2 b5:Nat)(k n:Int)(hV:Jp p q)(hr:wu s b a c p a' c' q b2 b5 k):bP 84 [iv n,bc b2,bc b5] s (J4 b a a' b2 b5) (.bool (decide (9<=rQ p k))):=by
 have hdx:=Ep.x hr;have oR:=Ep.n hr;have qI:=Ep.t hr;have hdi:=Ep.i hr;have hdk:=Ep.kk hr;have hli:=aih (b:=b) (a:=a) (c:=c) (a':=a') (c':=c') hV;refine aU f84 ?_;(repeat' (first|refine' a7|refine' aaF|refine' yU|((with_reducible apply WO.rH);exact aE;(intro s hr;exact hli s _ hr);(exact uZ.mk cg cg cg);intro _ _ _ _)|refine' aw|fail))
 all_goals(refine' ax)
 all_goals(refine fI Value.bool ?_;rw[Gg];omega)
theorem Mk (s:St)(b:Nat)(a:aK)(c:Nat)(p:List a6)(a':aK)(c':Nat)(q:eG)(b2 b5:Nat)(k:Int)(hV:Jp p q)(z:aA)(hz:z∈Ev.cB)(hr:wu s b a c p a' c' q b2 b5 k):bP 82 [Tx b,sv z,.func (.func 83) ⟨[]⟩ ⟨[bc b2]⟩] s (J4 b a a' b2 b5) (iv (uw p q z (decide (zU q 16 0<0)))):=by
 have hdx:=Ep.x hr;have oR:=Ep.n hr;have qI:=Ep.t hr;have hdi:=Ep.i hr;have hdk:=Ep.kk hr;have I6:=Mj (b:=b) (a:=a) (c:=c) (a':=a') (c':=c') hV;have tE:=XV (b:=b) (a:=a) (c:=c) (a':=a') (c':=c') hV;have VP:=XW (b:=b) (a:=a) (c:=c) (a':=a') (c':=c') hV;have uG:∀s n,wu s b a c p a' c' q b2 b5 k->bP 83 [iv n,bc b2] s (J4 b a a' b2 b5) (.bool (decide (zU q 16 0<0))):=λs n hr=>aeP s b a c p a' c' q b2 b5 k n hV hr
 generalize decide (zU q 16 0<0)=cC at *
 by_cases h1:z=[47]
 .have e:uw p q z cC=3:=by unfold uw;rw[if_pos h1]
  rw[e];refine aU f82 ?_;(refine' aaS)
  all_goals try refine cM
  all_goals(refine' ax)
  all_goals rfl
 by_cases h2:dy p (Ev.db z)<0
 .have e:uw p q z cC=2:=by unfold uw;rw[if_neg h1,if_pos h2]
  rw[e];refine aU f82 ?_;(refine' aaS)
  all_goals try refine cM
  all_goals(refine' ax)
  all_goals rfl
 by_cases h3:gC q (dy p (Ev.db z))=false
 .have e:uw p q z cC=4:=by unfold uw;rw[if_neg h1,if_neg h2,if_pos h3]
  rw[e];refine aU f82 ?_;(refine' aaT)
  all_goals try refine rO
  all_goals(refine' ax)
  all_goals rfl
 have h3t:gC q (dy p (Ev.db z))=true:=by simpa using h3
 by_cases h4:0<=dy p z
 .have e:uw p q z cC=3:=by unfold uw;rw[if_neg h1,if_neg h2,if_neg h3,if_pos h4]
  rw[e];refine aU f82 ?_;(refine' aaT)
  all_goals try refine rO
  all_goals(refine' ax)
  all_goals rfl
 .have e:uw p q z cC=if cC=true\/12<=NJ p (dy p (Ev.db z)) then 6 else 0:=by unfold uw;rw[if_neg h1,if_neg h2,if_neg h3,if_neg h4]
  rw[e];refine aU f82 ?_;(refine' ah4)
  all_goals refine' zaG
theorem Ml (s:St)(b:Nat)(a:aK)(c:Nat)(p:List a6)(a':aK)(c':Nat)(q:eG)(b2 b5:Nat)(k:Int)(hV:Jp p q)(z:aA)(hz:z∈Ev.cB)(hr:wu s b a c p a' c' q b2 b5 k):bP 82 [Tx b,sv z,.func (.func 84) ⟨[]⟩ ⟨[bc b2,bc b5]⟩] s (J4 b a a' b2 b5) (iv (uw p q z (decide (9<=rQ p k)))):=by
 have hdx:=Ep.x hr;have oR:=Ep.n hr;have qI:=Ep.t hr;have hdi:=Ep.i hr;have hdk:=Ep.kk hr;have I6:=Mj (b:=b) (a:=a) (c:=c) (a':=a') (c':=c') hV;have tE:=XV (b:=b) (a:=a) (c:=c) (a':=a') (c':=c') hV;have VP:=XW (b:=b) (a:=a) (c:=c) (a':=a') (c':=c') hV;have uG:∀s n,wu s b a c p a' c' q b2 b5 k->bP 84 [iv n,bc b2,bc b5] s (J4 b a a' b2 b5) (.bool (decide (9<=rQ p k))):=λs n hr=>aeQ s b a c p a' c' q b2 b5 k n hV hr
 generalize decide (9<=rQ p k)=cC at *
 by_cases h1:z=[47]
 .have e:uw p q z cC=3:=by unfold uw;rw[if_pos h1]
  rw[e];refine aU f82 ?_;(refine' aaS)
  all_goals try refine cM
  all_goals(refine' ax)
  all_goals rfl
 by_cases h2:dy p (Ev.db z)<0
 .have e:uw p q z cC=2:=by unfold uw;rw[if_neg h1,if_pos h2]
  rw[e];refine aU f82 ?_;(refine' aaS)
  all_goals try refine cM
  all_goals(refine' ax)
  all_goals rfl
 by_cases h3:gC q (dy p (Ev.db z))=false
 .have e:uw p q z cC=4:=by unfold uw;rw[if_neg h1,if_neg h2,if_pos h3]
  rw[e];refine aU f82 ?_;(refine' aaT)
  all_goals try refine rO
  all_goals(refine' ax)
  all_goals rfl
 have h3t:gC q (dy p (Ev.db z))=true:=by simpa using h3
 by_cases h4:0<=dy p z
 .have e:uw p q z cC=3:=by unfold uw;rw[if_neg h1,if_neg h2,if_neg h3,if_pos h4]
  rw[e];refine aU f82 ?_;(refine' aaT)
  all_goals try refine rO
  all_goals(refine' ax)
  all_goals rfl
 .have e:uw p q z cC=if cC=true\/12<=NJ p (dy p (Ev.db z)) then 6 else 0:=by unfold uw;rw[if_neg h1,if_neg h2,if_neg h3,if_neg h4]
  rw[e];refine aU f82 ?_;(refine' ah4)
  all_goals refine' zaG
section
variable {E:dA}{X:dM}{Γ:ij}{l:Kn}{L R:bE}{K:KO}{g g2:FuncId}{xs:List Operand}{ts:Array TypeId}{vs ca:aQ}{b b2 b5:Nat}{k:Int}{a a':aK}{c c':Nat}{p:List a6}{q:eG}{r:Value}{z:aA}
theorem WO.XY (hx:kL l xs [Tx b,sv z,.func (.func g2) ⟨[]⟩ ⟨bc b2::ca⟩])(hh:OD Γ L b a c p a' c' q b2 b5 k)(h:∀s,wu s b a c p a' c' q b2 b5 k->qj E X g [Tx b,sv z,.func (.func g2) ⟨[]⟩ ⟨bc b2::ca⟩] s (J4 b a a' b2 b5) r)(kk:∀m m',kq L m->m<=m'->K r L m m' (λi=>i∈J4 b a a' b2 b5\/i∈([]:bE).flatMap It.aY\/(m<=i/\i<m')) (λi=>i∈([]:bE).flatMap It.aY\/(m<=i/\i<m'))):WO E X Γ l (.call ⟨.value (.func g),⟨xs⟩,ts⟩) L K:=WO.WA hx h hh kk
end
end Go.Pl
