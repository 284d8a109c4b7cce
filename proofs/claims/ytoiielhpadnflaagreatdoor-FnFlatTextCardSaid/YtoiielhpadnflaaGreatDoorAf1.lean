/- Lemmas of the proof. No conditions. -/
import Derived.Shelf.Small.Strs
import Derived.Shelf.Strings.Repeat
import Derived.Shelf.Strings.OnBuilder
import Derived.Shelf.SlSortCmp.WholeK
import Derived.Ground.NamesProg
import Derived.Ground.SlsfProg
import Derived.Shelf.SlicesG.Cmp
import Derived.Ground.SlgcProg
import Derived.Test.YtoiielhpadnflaaGreatDoorProg
import Derived.Lib.MakeNoZero
import Derived.WalkKit
import Derived.Laws.StructEq
import Derived.Laws.Externs
import Derived.Shelf.GgSortFunc.InsertionK
import Derived.Test.YtoiielhpadnflaaGreatDoorAe12
set_option maxRecDepth 100000
set_option maxHeartbeats 4000000
set_option linter.unusedVariables false
set_option linter.unusedSimpArgs false
open Go.Proofs.Tryz
namespace Go
variable{P:Prop}
theorem zai (h:P:=by
 (repeat' (first|refine' aZ|((with_reducible apply WO.Kc);exact aD;assumption;(intro s h;exact Bc s _ af af h);intros)|((with_reducible apply WO.Qr);exact aD;exact dU;(intro s;exact qL s _ _ _ _ _ _ (by first|assumption|exact .inr rfl) aP lT);intro _ _ ZU ZV adT _ _)|refine' av|fail))
 all_goals(rcases _ with h;exact h)):P:=h
theorem zak (h:P:=by
 all_goals exact⟨cy,_,_,bY,au,rfl,_,_,_,_,_,_,_,_,zn,zo,zp,zq,rfl⟩
 all_goals(rcases _ with h;exact h)):P:=h
theorem zat (h:P:=by
 obtain⟨ks,hm,hk⟩:=u0 t xs _ h;have h1:(t=54/\ks=[0,2,1])\/(t=73/\ks=[0,0,0,0,0])\/(t=52/\ks=[1,0]):=by
  have h0:(t=52/\ks=[1,0])\/(t=54/\ks=[0,2,1])\/(t=73/\ks=[0,0,0,0,0]):=by simpa[bf] using hm
  rcases h0 with h0|h0|h0
  .exact .inr (.inr h0)
  .exact .inl h0
  .exact .inr (.inl h0)
 rcases h1 with h0|h0|h0
 all_goals(rcases _ with h;exact h)):P:=h
theorem zaz (h:P:=by
 show(Op.equalIn (9998+1) t _ _).run prog w=_;unfold Op.equalIn;simp only[Sem.run_bind,run_underlying h,Result.andThen_ok,if_true,Sem.run_pure]
 all_goals(rcases _ with h;exact h)):P:=h
theorem zaB (h:P:=by
 have pL:Rd ⟨s,([]:dy).flatMap It.cr,qV a a'++[4]⟩ a f.ad.length 2 (ai f.ad):=Rd.of hr.n λ_ hb=>cA _ (cA _ hb)
 have sj:Rd ⟨s,([]:dy).flatMap It.cr,qV a a'++[4]⟩ a' f.ae.length 3 (ai f.ae):=Rd.of hr.t λ_ hb=>cA _ (dt _ hb)
 all_goals(rcases _ with h;exact h)):P:=h
theorem zaH (h:P:=by
 all_goals try refine nU
 all_goals refine' ax
 all_goals first|(rw[if_pos (.inl aP)];rfl)|(rw[if_pos (.inr af)];rfl)|(rw[if_neg (by rintro(h|h)<;>first|contradiction|omega|(simp_all;done))];rfl)
 all_goals(rcases _ with h;exact h)):P:=h
theorem zaJ (h:P:=by
 rw[e];refine aX f50 ?_;refine' Yl;all_goals try refine nU
 all_goals refine' ax
 all_goals rfl
 all_goals(rcases _ with h;exact h)):P:=h
theorem zaL (h:P:=by
 have htb:∀x∈f.ae,(eR x).length<=10000:=λx hx=>by
  have h1:=hf.th x hx;have h2:=gN x.id af;have h3:=gN (x.a8.length:Nat) af;unfold eR;split<;>(simp only[bn,cU,kC];omega)
 all_goals(rcases _ with h;exact h)):P:=h
theorem zaN (h:P:=by
 have Vm:=h4 (.inr k7);have c2:¬ia f.ad pa=0:=λe=>by rw[if_pos e] at h0;cases h0
 rw[if_neg c2] at h0;have c3:¬0<=ia f.ad tq9:=λe=>by rw[if_pos e] at h0;cases h0
 all_goals(rcases _ with h;exact h)):P:=h
theorem zaO (h:P:=by
 obtain⟨p,hp,h1,h2,h3⟩:=yo t m _ h;simp only[bf,bH,iS,jb] at hp;rcases hp with rfl|rfl|rfl|rfl|rfl|rfl<;>dsimp only at h1 h2 h3<;>subst h1 h2 h3<;>kernel_rfl
 all_goals(rcases _ with h;exact h)):P:=h
theorem zaQ (h:P:=by
 all_goals exact⟨_,af,i+1,_,_,_,ZU,ZV,bp,by(rw[Lh];exact au),rfl,af,.inr rfl,aP⟩
 all_goals(rcases _ with h;exact h)):P:=h
theorem zaZ (h:P:=by
 repeat' (first|refine' aZ|refine' Pm|refine' av|fail)
 all_goals try refine nU
 all_goals exact⟨_,af,i+1,_,by(rw[Lh];exact bp),au,rfl,af⟩
 all_goals(rcases _ with h;exact h)):P:=h
theorem za0 (h:P:=by
 intro l h;obtain⟨l2,h1,rfl⟩:=Option.map_eq_some_iff.1 h;rw[ih l2 h1];rfl
 all_goals(rcases _ with h;exact h)):P:=h
theorem za4 (h:P:=by
 refine aX f90 ?_;repeat' (first|refine' aZ|refine' HD|refine' av|fail)
 all_goals try refine cI
 all_goals refine' ax
 all_goals rfl
 all_goals(rcases _ with h;exact h)):P:=h
theorem za6 (h:P:=by
 have gh:∀j,1<=j->j<f.ad.length->(f.ad.getD j cR).ag≠[47]:=λj h1 hj e=>by
  have:=h.Gj hj;rw[e,h.cG] at this;cases this;omega
 all_goals(rcases _ with h;exact h)):P:=h
theorem zbf (h:P:=by
 have pL:=Rd.of (A:=aj a++aj (iJ b3)) hr λ_ hb=>cA _ hb
 have Og:=Rd.of (A:=aj a++aj (iJ b3)) hb λ_ hb=>dt _ hb
 all_goals(rcases _ with h;exact h)):P:=h
theorem zbl (h:P:=by
 rw[CX,CY] at h;obtain⟨i,hi,rfl⟩:=jO hx;obtain⟨j,hj,rfl⟩:=jO hy;rcases CP i j with nI|nI|nI
 all_goals(rcases _ with h;exact h)):P:=h
theorem zbm (h:P:=by
 all_goals try refine cI
 all_goals exact⟨cy,_,_,bY,au,rfl,_,_,_,_,_,_,_,_,cC _,fU,cC _,fU,rfl⟩
 all_goals(rcases _ with h;exact h)):P:=h
theorem zbn (h:P:=by
 rw[e];refine aX f50 ?_;refine' Mz;all_goals try refine nU
 all_goals refine' ax
 all_goals rfl
 all_goals(rcases _ with h;exact h)):P:=h
end Go
namespace Go.Pl
open Go Go.Ev Go.Lg Go.Proofs
variable {E:iq}{X:fY}{Γ:qN}{l:Kn}{L R:dy}{K:KO}{g:FuncId}{xs:List Operand}{ts:Array TypeId}{vs:aY}{b b2 b5:Nat}{k:Int}{a a':aS}{c c':Nat}{q:gD}{r:Value}{s:St}
abbrev UJ (b:Nat):Value:=.iface 99 (bk b)
theorem HC:ml 99 "loop.example/poolfiles/impl.lead" bf.rY=some 82:=by kernel_rfl
theorem Mi:ml 99 "loop.example/poolfiles/impl.folder" bf.rY=some 306:=by kernel_rfl
theorem JM:ml 99 "loop.example/poolfiles/impl.entries" bf.rY=some 305:=by kernel_rfl
theorem Pq:ml 99 "loop.example/poolfiles/impl.links" bf.rY=some 87:=by kernel_rfl
theorem TQ:ml 99 "loop.example/poolfiles/impl.room" bf.rY=some 83:=by kernel_rfl
structure wN (s:St)(b:Nat)(a:aS)(c:Nat)(p:List bE)(a':aS)(c':Nat)(q:gD)(b2 b5:Nat)(k:Int):Prop where
 p:iW s b a c p a' c' q
 i:bM s (iJ b2) 1 1 [UJ b]
 n:bM s (iJ b5) 1 1 [iv k]
structure Pr (Γ:qN)(L:dy)(b:Nat)(a:aS)(c:Nat)(p:List bE)(a':aS)(c':Nat)(q:gD)(b2 b5:Nat)(k:Int):Prop where
 p:wL Γ L b a c p a' c' q
 i:kr Γ L (iJ b2) 1 1 [UJ b]
 n:kr Γ L (iJ b5) 1 1 [iv k]
abbrev KC (b:Nat)(a a':aS)(b2 b5:Nat):List Nat:=rD b a a'++[b2,b5]
section
variable {p:List bE}
theorem Pr.row (h:Pr Γ L b a c p a' c' q b2 b5 k)(hi:Inv Γ s L):wN s b a c p a' c' q b2 b5 k/\∀i∈KC b a a' b2 b5,Ca Γ s i:=by
 refine⟨⟨(h.p.row hi).1,(h.i.row hi).1,(h.n.row hi).1⟩,λi hb=>?_⟩;rcases eW.1 hb with hb|hb
 .exact(h.p.row hi).2 i hb
 .rcases bH.1 hb with rfl|hb
  .exact(h.i.row hi).2 _ (by simp[aj])
  .rw[fJ] at hb;subst hb;exact(h.n.row hi).2 _ (by simp[aj])
theorem WO.XR (hx:jY l xs vs)(h:∀s,wN s b a c p a' c' q b2 b5 k->l7 E X g vs s (KC b a a' b2 b5) r)(hh:Pr Γ L b a c p a' c' q b2 b5 k)(kk:∀m m',iY L m->m<=m'->K r L m m' (mV (KC b a a' b2 b5) [] m m') (mW [] m m')):WC E X Γ l g xs ts L K:=
 WO.nu hx (λs hi=>⟨(hh.row hi).2,h s (hh.row hi).1⟩) kk
theorem E8.x (h:wN s b a c p a' c' q b2 b5 k):Rd ⟨s,([]:dy).flatMap It.cr,KC b a a' b2 b5⟩ (iJ b) 1 2 (qb a c p a' c' q):=Rd.of h.p.b λi hb=>by rw[show i=b by simpa[aj] using hb];exact ga
theorem E8.n (h:wN s b a c p a' c' q b2 b5 k):Rd ⟨s,([]:dy).flatMap It.cr,KC b a a' b2 b5⟩ a p.length 2 (ai p):=Rd.of h.p.n λ_ hb=>cA _ (iV _ (cA _ hb))
theorem E8.t (h:wN s b a c p a' c' q b2 b5 k):Rd ⟨s,([]:dy).flatMap It.cr,KC b a a' b2 b5⟩ a' q.length 3 (ai q):=Rd.of h.p.t λ_ hb=>cA _ (iV _ (dt _ hb))
theorem E8.i (h:wN s b a c p a' c' q b2 b5 k):Rd ⟨s,([]:dy).flatMap It.cr,KC b a a' b2 b5⟩ (iJ b2) 1 1 [UJ b]:=Rd.of h.i λi hb=>by rw[show i=b2 by simpa[aj] using hb];exact dt _ ay
theorem E8.kk (h:wN s b a c p a' c' q b2 b5 k):Rd ⟨s,([]:dy).flatMap It.cr,KC b a a' b2 b5⟩ (iJ b5) 1 1 [iv k]:=Rd.of h.n λi hb=>by rw[show i=b5 by simpa[aj] using hb];exact dt _ ay
end
structure Kg (p:List bE)(q:gD):Prop where
 sn:l5 p
 st:ik q
 pl:p.length<=1000
 ql:q.length<=1000
 ps:∀x∈p,x.ag.length<=5000
 th:∀z,0<=ia p z->(pc q (ia p z)).isSome=true
 id:∀x∈p,-1000<=x.id/\x.id<=1000
theorem Zy (q:gD):∀n k,J0 q n k=Ci q n k
 |0,_=>rfl
 |n+1,k=>by unfold J0 Ci;rw[Zy q n]
section
variable {p:List bE}(hV:Kg p q)
include hV
theorem R9:∀s z,iW s b a c p a' c' q->bL 82 [bk b,sv z] s (rD b a a') (iv (ia p z)):=λs z hr=>RX s b a c p a' c' q hV.sn hV.pl z hr
theorem Zz:∀s k,(pc q k).isSome=true->iW s b a c p a' c' q->bL 306 [bk b,iv k] s (rD b a a') (.bool (lH q k)):=λs k hk hr=>by
 obtain⟨t,ht⟩:=lV.1 hk;have:=UC s b a c p a' c' q hV.st hV.ql k t ht hr;unfold lH;rw[ht];exact this
theorem ZA:∀s k,iW s b a c p a' c' q->bL 305 [bk b,iv k] s (rD b a a') (iv (YT p k:Int)):=λs k hr=>P6 s b a c p a' c' q hV.sn hV.pl hV.ps k hr
theorem aji:∀s k,iW s b a c p a' c' q->bL 87 [bk b,iv k] s (rD b a a') (iv (xb p k:Int)):=λs k hr=>No s b a c p a' c' q hV.pl k hr
theorem adP:∀s,iW s b a c p a' c' q->bL 83 [bk b] s (rD b a a') (iv (Ci q 16 0)):=λs hr=>by
 have:=abT s b a c p a' c' q hV.st hV.ql hr
 rwa [Zy] at this
end
theorem afW (s:St)(b:Nat)(a:aS)(c:Nat)(p:List bE)(a':aS)(c':Nat)(q:gD)(b2 b5:Nat)(k n:Int)(hV:Kg p q)(hr:wN s b a c p a' c' q b2 b5 k):bL 78 [iv n,bk b2] s (KC b a a' b2 b5) (.bool (decide (Ci q 16 0<0))):=by
 have hdx:=E8.x hr;have pL:=E8.n hr;have sj:=E8.t hr;have hdi:=E8.i hr;have hrm:=adP (b:=b) (a:=a) (c:=c) (a':=a') (c':=c') hV;refine aX f78 ?_;repeat' (first|refine' aZ|refine' abk|refine' rv|refine' acW|refine' av|fail)
 all_goals refine' ax
 all_goals rfl
theorem afX (s:St)(b:Nat)(a:aS)(c:Nat)(p:List bE)(a':aS)(c':Nat)(q:gD)(b2 b5:Nat)(k n:Int)(hV:Kg p q)(hr:wN s b a c p a' c' q b2 b5 k):bL 79 [iv n,bk b2,bk b5] s (KC b a a' b2 b5) (.bool (decide (9<=xb p k))):=by
 have hdx:=E8.x hr;have pL:=E8.n hr;have sj:=E8.t hr;have hdi:=E8.i hr;have hdk:=E8.kk hr;have N4:=aji (b:=b) (a:=a) (c:=c) (a':=a') (c':=c') hV;refine aX f79 ?_;(repeat' (first|refine' aZ|refine' abk|refine' rv|((with_reducible apply WO.tT);exact aD;(intro s hr;exact N4 s _ hr);(exact wL.mk cD cD cD);intros)|refine' av|fail));all_goals refine' ax
 all_goals(refine eC Value.bool ?_;rw[CW];omega)
theorem Nz (s:St)(b:Nat)(a:aS)(c:Nat)(p:List bE)(a':aS)(c':Nat)(q:gD)(b2 b5:Nat)(k:Int)(hV:Kg p q)(z:aC)(hz:z∈Ev.dL)(hr:wN s b a c p a' c' q b2 b5 k):bL 77 [UJ b,sv z,.func (.func 78) ⟨[]⟩ ⟨[bk b2]⟩] s (KC b a a' b2 b5) (iv (xc p q z (decide (Ci q 16 0<0)))):=by
 have hdx:=E8.x hr;have pL:=E8.n hr;have sj:=E8.t hr;have hdi:=E8.i hr;have hdk:=E8.kk hr;have hld:=R9 (b:=b) (a:=a) (c:=c) (a':=a') (c':=c') hV;have vu:=Zz (b:=b) (a:=a) (c:=c) (a':=a') (c':=c') hV;have Wp:=ZA (b:=b) (a:=a) (c:=c) (a':=a') (c':=c') hV;have uA:∀s n,wN s b a c p a' c' q b2 b5 k->bL 78 [iv n,bk b2] s (KC b a a' b2 b5) (.bool (decide (Ci q 16 0<0))):=λs n hr=>afW s b a c p a' c' q b2 b5 k n hV hr
 generalize decide (Ci q 16 0<0)=cq at *
 by_cases h1:z=[47]
 .have e:xc p q z cq=3:=by unfold xc;rw[if_pos h1]
  rw[e];refine aX f77 ?_;refine' abv;all_goals try refine cI
  all_goals refine' ax
  all_goals rfl
 by_cases h2:ia p (Ev.eE z)<0
 .have e:xc p q z cq=2:=by unfold xc;rw[if_neg h1,if_pos h2]
  rw[e];refine aX f77 ?_;refine' abv;all_goals try refine cI
  all_goals refine' ax
  all_goals rfl
 by_cases h3:lH q (ia p (Ev.eE z))=false
 .have e:xc p q z cq=4:=by unfold xc;rw[if_neg h1,if_neg h2,if_pos h3]
  rw[e];refine aX f77 ?_;refine' abw;all_goals try refine nU
  all_goals refine' ax
  all_goals rfl
 have h3t:lH q (ia p (Ev.eE z))=true:=by simpa using h3
 by_cases h4:0<=ia p z
 .have e:xc p q z cq=3:=by unfold xc;rw[if_neg h1,if_neg h2,if_neg h3,if_pos h4]
  rw[e];refine aX f77 ?_;refine' abw;all_goals try refine nU
  all_goals refine' ax
  all_goals rfl
 .have e:xc p q z cq=if cq=true\/12<=YT p (ia p (Ev.eE z)) then 6 else 0:=by unfold xc;rw[if_neg h1,if_neg h2,if_neg h3,if_neg h4]
  rw[e];refine aX f77 ?_;refine' aiA;all_goals refine' zaH
theorem NA (s:St)(b:Nat)(a:aS)(c:Nat)(p:List bE)(a':aS)(c':Nat)(q:gD)(b2 b5:Nat)(k:Int)(hV:Kg p q)(z:aC)(hz:z∈Ev.dL)(hr:wN s b a c p a' c' q b2 b5 k):bL 77 [UJ b,sv z,.func (.func 79) ⟨[]⟩ ⟨[bk b2,bk b5]⟩] s (KC b a a' b2 b5) (iv (xc p q z (decide (9<=xb p k)))):=by
 have hdx:=E8.x hr;have pL:=E8.n hr;have sj:=E8.t hr;have hdi:=E8.i hr;have hdk:=E8.kk hr;have hld:=R9 (b:=b) (a:=a) (c:=c) (a':=a') (c':=c') hV;have vu:=Zz (b:=b) (a:=a) (c:=c) (a':=a') (c':=c') hV;have Wp:=ZA (b:=b) (a:=a) (c:=c) (a':=a') (c':=c') hV;have uA:∀s n,wN s b a c p a' c' q b2 b5 k->bL 79 [iv n,bk b2,bk b5] s (KC b a a' b2 b5) (.bool (decide (9<=xb p k))):=λs n hr=>afX s b a c p a' c' q b2 b5 k n hV hr
 generalize decide (9<=xb p k)=cq at *
 by_cases h1:z=[47]
 .have e:xc p q z cq=3:=by unfold xc;rw[if_pos h1]
  rw[e];refine aX f77 ?_;refine' abv;all_goals try refine cI
  all_goals refine' ax
  all_goals rfl
 by_cases h2:ia p (Ev.eE z)<0
 .have e:xc p q z cq=2:=by unfold xc;rw[if_neg h1,if_pos h2]
  rw[e];refine aX f77 ?_;refine' abv;all_goals try refine cI
  all_goals refine' ax
  all_goals rfl
 by_cases h3:lH q (ia p (Ev.eE z))=false
 .have e:xc p q z cq=4:=by unfold xc;rw[if_neg h1,if_neg h2,if_pos h3]
  rw[e];refine aX f77 ?_;refine' abw;all_goals try refine nU
  all_goals refine' ax
  all_goals rfl
 have h3t:lH q (ia p (Ev.eE z))=true:=by simpa using h3
 by_cases h4:0<=ia p z
 .have e:xc p q z cq=3:=by unfold xc;rw[if_neg h1,if_neg h2,if_neg h3,if_pos h4]
  rw[e];refine aX f77 ?_;refine' abw;all_goals try refine nU
  all_goals refine' ax
  all_goals rfl
 .have e:xc p q z cq=if cq=true\/12<=YT p (ia p (Ev.eE z)) then 6 else 0:=by unfold xc;rw[if_neg h1,if_neg h2,if_neg h3,if_neg h4]
  rw[e];refine aX f77 ?_;refine' aiA;all_goals refine' zaH
variable {g2:FuncId}{ca:aY}{p:List bE}{z:aC}
theorem WO.ZB (hx:jY l xs [UJ b,sv z,.func (.func g2) ⟨[]⟩ ⟨bk b2::ca⟩])(hh:Pr Γ L b a c p a' c' q b2 b5 k)(h:∀s,wN s b a c p a' c' q b2 b5 k->l7 E X g [UJ b,sv z,.func (.func g2) ⟨[]⟩ ⟨bk b2::ca⟩] s (KC b a a' b2 b5) r)(kk:∀m m',iY L m->m<=m'->K r L m m' (mV (KC b a a' b2 b5) [] m m') (mW [] m m')):WC E X Γ l g xs ts L K:=WO.XR hx h hh kk
end Go.Pl
