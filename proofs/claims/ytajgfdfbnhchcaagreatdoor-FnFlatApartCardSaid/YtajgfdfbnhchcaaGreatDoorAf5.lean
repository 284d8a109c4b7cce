/- Lemmas of the proof. No conditions. -/
import Derived.Test.YtajgfdfbnhchcaaGreatDoorAf4
set_option maxRecDepth 100000
set_option maxHeartbeats 4000000
set_option linter.unusedVariables false
set_option linter.unusedSimpArgs false
open Go.Proofs.Tryz
namespace Go.Pl
open Go Go.Ev Go.Lg Go.Proofs
section
variable {f:Flat}{o:Op}
theorem ic.adn (h:ic f)(hN:∀x∈f.ad,sE x.af):fU f:=by
 have hp:=h.g.p;have hl:=h.ajf;refine⟨hl,hp.tl.2,λx hx=>?_,λx hx=>?_⟩
 .obtain⟨y,hy,e⟩:=hp.th x hx;have h1:=(hp.tx y hy).1;have hNx:=hN x hx;obtain⟨j,hj,rfl⟩:=iZ hx;have h2:=h.ajg j j (cA _) hj;rw[show f.ad.getD j cu=f.ad[j] by rw[aR,bd hj];rfl] at h2;exact⟨⟨ag,h2.2,hNx⟩,ag,ag⟩
 .have h1:=hp.tx x hx;exact⟨h1.1.1,ag,h1.2.2⟩
theorem T2.w (h:T2 o):T2 ⟨3,o.af,[],o.at_,o.aW⟩:=⟨h.af,M3,h.aW,h.at_,by dsimp only;omega⟩
theorem wX (s:St)(a:aK)(c:Nat)(a':aK)(c':Nat)(f:Flat)(hf:H0 f)(hN:Q2 f=false)(z:aA)(hr:cl s a a' f):bP 7 [js a c a' c' f,sv z] s (kF a a') (.tuple ⟨[iv 0,.bool false]⟩):=by
 have oR:=fN.n hr;have qI:=fN.t hr;have tE:∀s,cl s a a' f->bP 11 [js a c a' c' f] s (kF a a') (.bool false):=λs hr=>by
  have:=tQ s a c a' c' f hf hr
  rwa [hN] at this
 clear hN hf;refine aU f7 ?_;(repeat' (first|refine' a7|refine' DP|refine' aw|fail))
 all_goals try refine cM
 all_goals(refine' ax)
 all_goals rfl
theorem Nr (hD:fU f)(fF:ic f){o q:Op}(hO:T2 o)(hQ:T2 q)(ho:o.kind=3)(hq:q.kind=3)(fK:dy f.ad o.af≠dy f.ad q.af)(an:aK)(cn:Nat)(at_:aK)(ct:Nat):
  ∃(G K H:Flat)(co cq:Int),(∀s,cl s an at_ f->vo a8 bj 8 [js an cn at_ ct f,ov o] s an at_ G co)/\(∀s,cl s an at_ f->vo a8 bj 9 [js an cn at_ ct f,ov o] s an at_ G co)/\(∀s a c a' c',cl s a a' G->vo a8 bj 8 [js a c a' c' G,ov q] s a a' H cq)/\(∀s,cl s an at_ f->vo a8 bj 8 [js an cn at_ ct f,ov q] s an at_ K cq)/\(∀s a c a' c',cl s a a' K->vo a8 bj 8 [js a c a' c' K,ov o] s a a' H co)/\(G.ad.length<=1000/\G.ae.length<=1000)/\(H.ad.length<=1000/\H.ae.length<=1000):=by
 have z1:=rv _ hO.af;have z2:=rv _ hO.to;have z3:=rv _ hQ.af;have z4:=rv _ hQ.to;have g1:=vn fF z1 z2;have k1:=vn fF z3 z4;have gN:=Zh fF hD.P z1 z2;have kN:=Zh fF hD.P z3 z4;have h1:=vn g1 z3 z4;obtain⟨e1,e2,e3⟩:=Zi fF ho hq ⟨z1,z2⟩ ⟨z3,z4⟩ fK;have gD:=g1.adn gN;have kD:=k1.adn kN;refine⟨(im f o).1,(im f q).1,(im (im f o).1 q).1,(im f o).2,(im f q).2,λs hr=>Nq hD hO fF an cn at_ ct s hr,λs hr=>adm hD hO fF an cn at_ ct s hr,λs a c a' c' hr=>?_,λs hr=>Nq hD hQ fF an cn at_ ct s hr,λs a c a' c' hr=>?_,?_,?_⟩
 .have:=Nq gD hQ g1 a c a' c' s hr;rw[e2] at this;exact this
 .have:=Nq kD hO k1 a c a' c' s hr;rw[e3,<-e1] at this;exact this
 .have:=gD.nl;have:=gD.tl;omega
 .have:=h1.ajf;have:=h1.g.p.tl;omega
theorem Uq (s:St)(a:aK)(code:aA)(c:Nat)(a2:aK)(more:aA)(c2:Nat)(hr:pH s a code)(hv:M1 code.length c)(nG:pH s a2 more)(GH:M1 more.length c2):bP 3 [.slice a code.length c,.slice a2 more.length c2] s (aj a++aj a2) (.bool true):=by
 have hd:sy ⟨s,([]:bE).flatMap It.aY,aj a++aj a2⟩ a code:=sy.of hr λ_ hb=>cP _ hb
 have Qw:sy ⟨s,([]:bE).flatMap It.aY,aj a++aj a2⟩ a2 more:=sy.of nG λ_ hb=>dz _ hb
 have hv':M1 code.length c:=hv;have anU:M1 more.length c2:=GH;refine aU f3 ?_;(repeat' (first|refine' a7|((with_reducible apply WO.Zj);exact aE;(intro s h1 h2;exact wV s a code c h1 h2);assumption;assumption;intro _ _ f o an cn a0 p0 c0 at_ ct hD hO hs _ _;obtain⟨kd,pa,tq9,ao,tx⟩:=o)|((with_reducible apply WO.Zj);exact aE;(intro s h1 h2;exact wV s a2 more c2 h1 h2);assumption;assumption;intro _ _ f2 q an2 cn2 a02 p02 c02 at2 ct2 hD2 hQ hs2 _ _;obtain⟨kd2,ZG,to2,ao2,tx2⟩:=q)|refine' aw|fail))
 all_goals try refine cM
 all_goals try(focus((refine' ax);rfl;done))
 have hO':=hO.w;have hQ':=hQ.w;clear hO hQ;dsimp only at hO' hQ';by_cases fF:f.ok=true
 .have hOk:=(Jn hD.P).1 fF;have hio:Q2 f=true:=(zm f).2 hOk;have hF:∀z,∀s,cl s an at_ f->bP 7 [js an cn at_ ct f,sv z] s (kF an at_) (.tuple ⟨[iv (max (dy f.ad z) 0),.bool (decide (0<=dy f.ad z))]⟩):=λz s hr=>JU s an cn at_ ct f hD.e hOk z hr
  have Xg:=hF pa;have Xi:=hF ZG;clear hF;by_cases ET:0<=dy f.ad pa/\0<=dy f.ad ZG/\dy f.ad pa≠dy f.ad ZG
  .obtain⟨k1,k2,k3⟩:=ET;obtain⟨G,K,H,co,cq,hwi,hws,hwh,hwk,X6,hlG,hlH⟩:=Nr hD hOk hO' hQ' rfl rfl k3 an cn at_ ct;rw[dt k1] at Xg;rw[dt k2] at Xi;have kK:decide (max (dy f.ad pa) 0=max (dy f.ad ZG) 0)=false:=gS ag;have Oh:=λs a c a' c' a2 c2 zW Ue=>v8 s a c a' c' a2 c2 zW Ue G.ad G.ae ag ag
   have alW:=λs a c a' c' a2 c2 zW Ue=>v8 s a c a' c' a2 c2 zW Ue H.ad H.ae ag ag
   have Qm:(!decide (co=co))=false:=by rw[dt rfl];rfl
   have hcd:decide (co=co)=true:=dt rfl;have hcq:decide (cq=cq)=true:=dt rfl;generalize dy f.ad pa=A at *
   generalize dy f.ad ZG=B at *
   clear fF hOk hio hr hv nG GH hO' hQ';(repeat' (first|refine' a7|refine' Xf|refine' Xh|refine' acI|refine' acJ|((with_reducible apply WO.DS);exact aE;(intro s hr;exact hwh s _ _ _ _ hr);exact ia;intro _ _ anV anW anX anY anZ an0 an1 an3 an4 an5 an6 an7 _ _)|((with_reducible apply WO.DS);exact aE;(intro s hr;exact hwk s hr);exact ia;intro _ _ an8 an9 aoa aob aoc aod aoe aof aog aoh aoi aoj _ _)|((with_reducible apply WO.DS);exact aE;(intro s hr;exact X6 s _ _ _ _ hr);exact ia;intro _ _ aok aol aom aon aoo aop aoq aor aos aot aou aov _ _)|refine' Xj|((with_reducible apply WO.Xk);exact aE;(intro s h1 h2 h3 h4;exact alW s _ _ _ _ _ _ _ _ h1 h2 h3 h4);exact cg;exact cg;exact cg;exact cg;intro _ _ _ _)|refine' aw|fail))
   all_goals try refine cM
   all_goals(refine' ax)
   all_goals rfl
  .have hwi:=Nq hD hO' hOk an cn at_ ct;have hws:=adm hD hO' hOk an cn at_ ct;have c8:=Zk hOk ⟨3,pa,[],ao,tx⟩;have nC:=hD.nl;have pz:=hD.tl;have Oh:=λs a c a' c' a2 c2 zW Ue=>v8 s a c a' c' a2 c2 zW Ue (im f ⟨3,pa,[],ao,tx⟩).1.ad (im f ⟨3,pa,[],ao,tx⟩).1.ae ag ag
   generalize(im f ⟨3,pa,[],ao,tx⟩).1=G at *
   generalize(im f ⟨3,pa,[],ao,tx⟩).2=co at *
   have Qm:(!decide (co=co))=false:=by rw[dt rfl];rfl
   have hcd:decide (co=co)=true:=dt rfl;have kK:0<=dy f.ad pa->0<=dy f.ad ZG->decide (max (dy f.ad pa) 0=max (dy f.ad ZG) 0)=true:=λh1 h2=>dt ag
   generalize dy f.ad pa=A at *
   generalize dy f.ad ZG=B at *
   clear fF hOk hio hr hv nG GH hO' hQ';by_cases h1:0<=A
   .rw[dt h1] at Xg;by_cases h2:0<=B
    .rw[dt h2] at Xi;have kK:=kK h1 h2;(refine' Xr)
     all_goals try refine cM
     all_goals(refine' ax)
     all_goals rfl
    .rw[gS h2] at Xi;clear kK;(refine' Xr)
     all_goals try refine cM
     all_goals(refine' ax)
     all_goals rfl
   .rw[gS h1] at Xg;clear kK;(refine' Xr)
    all_goals try refine cM
    all_goals(refine' ax)
    all_goals rfl
 .have afE:f.ok=false:=Bool.eq_false_iff.2 fF;have hik:Q2 f=false:=by rw[aeK hD.P];exact afE
  have Xg:∀s,cl s an at_ f->bP 7 [js an cn at_ ct f,sv pa] s (kF an at_) (.tuple ⟨[iv 0,.bool false]⟩):=λs hr=>wX s an cn at_ ct f hD.e hik pa hr
  have Xi:∀s,cl s an at_ f->bP 7 [js an cn at_ ct f,sv ZG] s (kF an at_) (.tuple ⟨[iv 0,.bool false]⟩):=λs hr=>wX s an cn at_ ct f hD.e hik ZG hr
  have UD:∀s,cl s an at_ f->bP 8 [js an cn at_ ct f,ov ⟨3,pa,[],ao,tx⟩] s (kF an at_) (.tuple ⟨[.agg ⟨iw none 0 [] none 0 []⟩,iv 1]⟩):=λs hr=>Ng s an cn at_ ct f _ hD hik hr
  have uv:∀s,cl s an at_ f->bP 9 [js an cn at_ ct f,ov ⟨3,pa,[],ao,tx⟩] s (kF an at_) (.tuple ⟨[.agg ⟨iw none 0 [] none 0 []⟩,iv 1]⟩):=λs hr=>EZ s an cn at_ ct f _ hD afE hr
  have Oh:∀s a c a' c' a2 c2 zW Ue,bO s a ([]:List a6).length 2 (ai ([]:List a6))->bO s a' ([]:eG).length 3 (ai ([]:eG))->bO s a2 ([]:List a6).length 2 (ai ([]:List a6))->bO s zW ([]:eG).length 3 (ai ([]:eG))->bP 10 [.agg ⟨iw a c [] a' c' []⟩,.agg ⟨iw a2 c2 [] zW Ue []⟩] s ((aj a++aj a')++(aj a2++aj zW)) (.bool true):=λs a c a' c' a2 c2 zW Ue h1 h2 h3 h4=>v8 s a c a' c' a2 c2 zW Ue [] [] (iJ _) (iJ _) h1 h2 h3 h4
  have hz1:Rd ⟨s,([]:bE).flatMap It.aY,aj a++aj a2⟩ none ([]:List a6).length 2 (ai ([]:List a6)):=Rd.abM;have hz2:Rd ⟨s,([]:bE).flatMap It.aY,aj a++aj a2⟩ none ([]:eG).length 3 (ai ([]:eG)):=Rd.abM;clear hik afE fF hr hv nG GH;(repeat' (first|refine' a7|refine' Xf|refine' Xh|((with_reducible apply WO.kv);exact aE;(intro s hr;exact UD s hr);exact ia;intro _ _ _ _)|((with_reducible apply WO.kv);exact aE;(intro s hr;exact uv s hr);exact ia;intro _ _ _ _)|refine' Xj|refine' aw|fail))
  all_goals try refine cM
  all_goals(refine' ax)
  all_goals rfl
end
end Go.Pl
