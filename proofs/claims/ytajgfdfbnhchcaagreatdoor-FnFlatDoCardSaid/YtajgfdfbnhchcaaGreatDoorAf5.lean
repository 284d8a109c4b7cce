/- Lemmas of the proof. No conditions. -/
import Derived.Test.YtajgfdfbnhchcaaGreatDoorAf4
set_option maxRecDepth 100000
set_option maxHeartbeats 4000000
set_option linter.unusedVariables false
set_option linter.unusedSimpArgs false
open Go.Proofs.Tryz
namespace Go.Pl
open Go Go.Ev Go.Lg Go.Proofs
variable {l:Kn}{L:bZ}{a:aM}{c:Nat}{code:az}
theorem QH (s:St)(a:aM)(code:az)(c:Nat)(hr:sZ s a code)(hv:UL code.length c):bF 4 [.slice a code.length c] s (aj a) (.bool true):=by
 refine' za4;have hUn:∀(s:St)(z t:az),vD z->vD t->bF 12 [sv z,sv t] s [] (.bool (under z t)):=λs z t h1 h2=>xh s z t (gK h1.1 bJ) h1.2.1 (gK h2.1 bJ) h2.2.1
 have hPo:∀(s:St)(z:az),vD z->bF 13 [sv z] s [] (.bool (aP z)):=λs z h1=>EV s z (gK h1.1 bJ) h1.2.1
 have hv':UL code.length c:=hv;refine aT f4 ?_;(repeat' (first|refine' aW|((with_reducible apply WO.af8);exact aC;(intro s h1 h2;exact Gy s _ _ _ h1 h2);assumption;assumption;intro _ _ f o an cn a0 p0 c0 at_ ct hD hO hs _ _;obtain⟨kd,pa,tq9,ao,tx⟩:=o)|refine' av|fail));all_goals try refine cj
 ·(refine' ax)
  rfl
 have KA:=wB _ hO.af;have GB:=wB _ hO.to;by_cases fm:f.ok=true
 .have hOk:=(JT hD.P).1 fm;have hio:RL f=true:=(wg f).2 hOk;have hwi:=aj2 hD hO hOk an cn at_ ct;have hws:=aj3 hD hO hOk an cn at_ ct;have cX:=ZY hOk ⟨kd,pa,tq9,ao,tx⟩;have nB:=hD.nl;have pO:=hD.tl;have Vb:∀s,cD s an at_ f->bF 11 [jC an cn at_ ct f] s (kb an at_) (.bool true):=λs hr=>by
   have:=oC s an cn at_ ct f hD.e hr
   rwa [hio] at this
  by_cases pj:(oF f ⟨kd,pa,tq9,ao,tx⟩).2=0
  .have Lo:ik ⟨kd,pa,tq9,ao,tx⟩=true:=by
    unfold oF at pj;cases ho:ik ⟨kd,pa,tq9,ao,tx⟩ with
    |true=>rfl
    |false=>rw[ho,if_neg iZ] at pj;cases pj
   have Lp:lM f.ad f.ae ⟨kd,pa,tq9,ao,tx⟩=0:=by
    unfold oF at pj;rw[if_pos Lo] at pj;(refine lP λe=>?_);rw[if_neg e] at pj;exact e pj
   have hF:=amI hOk Lo KA GB Lp;have hN:=ajZ hOk hD.P Lo KA GB Lp;have e1:(oF f ⟨kd,pa,tq9,ao,tx⟩).1=Gq f.ad f.ae ⟨kd,pa,tq9,ao,tx⟩:=by unfold oF;rw[if_pos Lo,if_pos Lp]
   have hk:=(gZ Lo).1;rw[e1] at hwi hws cX;rw[pj] at hwi hws;clear pj e1 Lp;generalize Gq f.ad f.ae ⟨kd,pa,tq9,ao,tx⟩=F at *
   have hE:=(hF.ok.aj4 hN).e;have hgi:RL F=true:=(wg F).2 hF.ok;have aga:∀s a c a' c',cD s a a' F->bF 11 [jC a c a' c' F] s (kb a a') (.bool true):=λs a c a' c' hr=>by
    have:=oC s a c a' c' F hE hr
    rwa [hgi] at this
   (have Ly:=λs a c a' c' a2 c2 Fw ZH=>Bc s a c a' c' a2 c2 Fw ZH F.ad F.ae ag ag);(have aeV:∀s,cD s an at_ f->bF 7 [jC an cn at_ ct f,sv pa] s (kb an at_) (.tuple ⟨[iv (max (de f.ad pa) 0),.bool (decide (0<=de f.ad pa))]⟩):=λs hr=>pW s an cn at_ ct f hD.e hOk pa hr);(have agb:∀s a c a' c',cD s a a' F->bF 7 [jC a c a' c' F,sv pa] s (kb a a') (.tuple ⟨[iv (max (de F.ad pa) 0),.bool (decide (0<=de F.ad pa))]⟩):=λs a c a' c' hr=>pW s a c a' c' F hE hF.ok pa hr);(have agc:∀s a c a' c',cD s a a' F->bF 7 [jC a c a' c' F,sv tq9] s (kb a a') (.tuple ⟨[iv (max (de F.ad tq9) 0),.bool (decide (0<=de F.ad tq9))]⟩):=λs a c a' c' hr=>pW s a c a' c' F hE hF.ok tq9 hr);have iK:=hF.stay;have yC:=hF.yC;have k5:=hF.k5;have k6:=hF.k6;have k7:=hF.k7;have N1:=hF.N1;have ZZ:∀z s a c a' c',cD s a a' F->bF 7 [jC a c a' c' F,sv z] s (kb a a') (.tuple ⟨[iv (max (de F.ad z) 0),.bool (decide (0<=de F.ad z))]⟩):=λz s a c a' c' hr=>pW s a c a' c' F hE hF.ok z hr
   have zI:=hD.nm;have Zj:=Ky _ KA;dsimp only at iK yC k5 k6 k7 N1 hk Zj;clear hF hE hgi hio hOk fm hN Lo hO KA GB hD hr hv;generalize de f.ad pa=A at *
   generalize de F.ad pa=B at *
   generalize de F.ad tq9=C at *
   (repeat' (first|refine' aW|refine' XV|refine' XY|refine' RC|((with_reducible apply WO.gM);exact aC;(intro s hr;exact Vb s hr);exact fZ;intros)|refine' adb|((with_reducible apply WO.gM);exact aC;(intro s hr;exact agb s _ _ _ _ hr);exact fZ;intros)|((with_reducible apply WO.gM);exact aC;(intro s hr;exact agc s _ _ _ _ hr);exact fZ;intros)|((with_reducible apply WO.gM);exact aC;(intro s hr;exact aga s _ _ _ _ hr);exact fZ;intros)|refine' av|fail));all_goals try refine cj
   refine W.bN (λm l L=>∃(i b3 b4 b5:Nat)(T:Bool),Le [(3,bg b3),(4,bg b4),(5,bg b5),(10,iv (max A 0)),(11,.bool (decide (0<=A))),(12,iv (max B 0)),(13,.bool (decide (0<=B))),(14,iv (max C 0)),(15,.bool (decide (0<=C))),(16,.bool T),(17,iv (i:Int))] l/\cC [.box b3 (ie an cn f.ad at_ ct f.ae) 26 false,.box b4 (nc ⟨kd,pa,tq9,ao,tx⟩) 28 false,.box b5 (ie aiD aiE F.ad aiI aiJ F.ae) 26 false,cv a0 c0 p0,dK at_ ct f.ae,cv aiF aiG aiH,dK aiK aiL aiM] L/\m=f.ad.length-i/\i<=f.ad.length/\T=true)
    (λl L=>∃(b3 b4 b5:Nat),Le [(3,bg b3),(4,bg b4),(5,bg b5),(10,iv (max A 0)),(11,.bool (decide (0<=A))),(12,iv (max B 0)),(13,.bool (decide (0<=B))),(14,iv (max C 0)),(15,.bool (decide (0<=C))),(16,.bool true)] l/\cC [.box b3 (ie an cn f.ad at_ ct f.ae) 26 false,.box b4 (nc ⟨kd,pa,tq9,ao,tx⟩) 28 false,.box b5 (ie aiD aiE F.ad aiI aiJ F.ae) 26 false,cv a0 c0 p0,dK at_ ct f.ae,cv aiF aiG aiH,dK aiK aiL aiM] L) _ ⟨0,_,_,_,_,bj,ar,rfl,ag,rfl⟩ ?_ ?_
   .rintro m l L ⟨i,b3,b4,b5,T,hl,hL,rfl,g1,rfl⟩;refine W.le ?_ hl hL;clear hl hL hwi hws Vb aga Ly aeV agb agc yC k5 k6 k7 N1;by_cases hi:i<f.ad.length
    .have hx:=aK hi ak.ah;have Om:=(zI _ hx).1;have iK:=iK _ hx;cases hu:under (f.ad.getD i ak.ah).af pa with
     |true=>
      have CE:∀s,bF 12 [sv (f.ad.getD i ak.ah).af,sv pa] s [] (.bool true):=λs=>by
       have:=hUn s (f.ad.getD i ak.ah).af pa Om Zj
       rwa [hu] at this
      clear iK ZZ;(repeat' (first|refine' aW|((with_reducible apply WO.aV);exact aC;(exact CE);intros)|refine' av|fail));(all_goals try refine cj);all_goals exact⟨_,ag,i+1,b3,b4,b5,_,bj,ar,rfl,ag,rfl⟩
     |false=>
      have CE:∀s,bF 12 [sv (f.ad.getD i ak.ah).af,sv pa] s [] (.bool false):=λs=>by
       have:=hUn s (f.ad.getD i ak.ah).af pa Om Zj
       rwa [hu] at this
      cases hq:aP (f.ad.getD i ak.ah).af with
      |false=>
       have yA:∀s,bF 13 [sv (f.ad.getD i ak.ah).af] s [] (.bool false):=λs=>by
        have:=hPo s (f.ad.getD i ak.ah).af Om
        rwa [hq] at this
       clear iK ZZ;(repeat' (first|refine' aW|((with_reducible apply WO.aV);exact aC;(exact CE);intros)|((with_reducible apply WO.aV);exact aC;(exact yA);intros)|refine' av|fail));(all_goals try refine cj);all_goals exact⟨_,ag,i+1,b3,b4,b5,_,bj,ar,rfl,ag,rfl⟩
      |true=>
       have yA:∀s,bF 13 [sv (f.ad.getD i ak.ah).af] s [] (.bool true):=λs=>by
        have:=hPo s (f.ad.getD i ak.ah).af Om
        rwa [hq] at this
       obtain⟨q1,q2⟩:=iK hq hu;have amJ:∀s a c a' c',cD s a a' F->bF 7 [jC a c a' c' F,sv (f.ad.getD i ak.ah).af] s (kb a a') (.tuple ⟨[iv (f.ad.getD i ak.ah).id,.bool true]⟩):=λs a c a' c' hr=>by
        have:=ZZ (f.ad.getD i ak.ah).af s a c a' c' hr;rw[q1,bY q2,show max (f.ad.getD i ak.ah).id 0=(f.ad.getD i ak.ah).id by omega] at this;exact this
       clear iK ZZ;(repeat' (first|refine' aW|((with_reducible apply WO.aV);exact aC;(exact CE);intros)|((with_reducible apply WO.aV);exact aC;(exact yA);intros)|((with_reducible apply WO.gM);exact aC;(intro s hr;exact amJ s _ _ _ _ hr);exact fZ;intros)|refine' av|fail));(all_goals try refine cj);all_goals exact⟨_,ag,i+1,b3,b4,b5,_,bj,ar,rfl,ag,bY rfl⟩
    ·(refine' cR)
     (all_goals try refine cj);all_goals exact⟨b3,b4,b5,bj,ar⟩
   .rintro l L ⟨b3,b4,b5,hl,hL⟩;(repeat(first|(with_reducible first|refine aq ?_|refine dC ?_|refine ej ?_)))
    clear hwi hws Vb aga Ly aeV agb agc ZZ iK zI;rcases(by omega:kd=1\/kd=2\/kd=3\/kd=4\/kd=5\/kd=6\/kd=7) with rfl|rfl|rfl|rfl|rfl|rfl|rfl
    .obtain⟨q1,q2,q3⟩:=yC (.inl rfl);rw[eI (by omega:¬0<=A),bY q2] at hl;refine W.le ?_ hl hL;clear hl hL;refine' cR
     (all_goals try refine cj);all_goals refine' zai
    .obtain⟨q1,q2,q3⟩:=yC (.inr rfl);rw[eI (by omega:¬0<=A),bY q2] at hl;refine W.le ?_ hl hL;clear hl hL;refine' cR
     (all_goals try refine cj);all_goals refine' zai
    .obtain⟨q1,q2,q3⟩:=N1 (.inl rfl);subst q2;rw[bY q1] at hl;refine W.le ?_ hl hL;clear hl hL;refine' cR
     (all_goals try refine cj);all_goals refine' zai
    .obtain⟨q1,q2,q3⟩:=N1 (.inr rfl);subst q2;rw[bY q1] at hl;refine W.le ?_ hl hL;clear hl hL;refine' cR
     (all_goals try refine cj);all_goals refine' zai
    .obtain⟨q1,q2,q3⟩:=k5 rfl;rw[eI (by omega:¬0<=B),bY q1] at hl;refine W.le ?_ hl hL;clear hl hL;refine' cR
     (all_goals try refine cj);all_goals refine' zai
    .obtain⟨q1,q2,q3⟩:=k6 rfl;subst q2;subst q3;rw[bY q1] at hl;refine W.le ?_ hl hL;clear hl hL;refine' cR
     (all_goals try refine cj);all_goals refine' zai
    .obtain⟨q1,q2,q3,q4⟩:=k7 rfl;subst q3;rw[eI (by omega:¬0<=B),bY q1] at hl;refine W.le ?_ hl hL;clear hl hL;refine' cR
     (all_goals try refine cj);all_goals refine' zai
  .have e1:(oF f ⟨kd,pa,tq9,ao,tx⟩).1=f:=by
    unfold oF at pj⊢;split
    .rename_i ho;rw[if_pos ho] at pj;split
     .rename_i h0;rw[if_pos h0] at pj;exact absurd rfl pj
     .rfl
    .rfl
   rw[e1] at hwi hws;generalize(oF f ⟨kd,pa,tq9,ao,tx⟩).2=cd at *
   (have Ly:=λs a c a' c' a2 c2 Fw ZH=>Bc s a c a' c' a2 c2 Fw ZH f.ad f.ae ag ag);have hcd:decide (cd=cd)=true:=bY rfl;(have hc0:(!decide (cd=0))=true:=by rw[eI pj];rfl);clear fm hOk hio hr hv e1;(repeat' (first|refine' aW|refine' XV|refine' XY|refine' RC|((with_reducible apply WO.gM);exact aC;(intro s hr;exact Vb s hr);exact fZ;intros)|refine' av|fail));(all_goals try refine cj);(all_goals refine' ax);all_goals rfl
 .have agd:f.ok=false:=Bool.eq_false_iff.2 fm;have hik:RL f=false:=by rw[afc hD.P];exact agd
  have Vb:∀s,cD s an at_ f->bF 11 [jC an cn at_ ct f] s (kb an at_) (.bool false):=λs hr=>by
   have:=oC s an cn at_ ct f hD.e hr
   rwa [hik] at this
  have Vl:∀s,cD s an at_ f->bF 8 [jC an cn at_ ct f,ov ⟨kd,pa,tq9,ao,tx⟩] s (kb an at_) (.tuple ⟨[.agg ⟨ie none 0 [] none 0 []⟩,iv 1]⟩):=λs hr=>N3 s an cn at_ ct f _ hD hik hr
  have uG:∀s,cD s an at_ f->bF 9 [jC an cn at_ ct f,ov ⟨kd,pa,tq9,ao,tx⟩] s (kb an at_) (.tuple ⟨[.agg ⟨ie none 0 [] none 0 []⟩,iv 1]⟩):=λs hr=>Fy s an cn at_ ct f _ hD agd hr
  have Ly:∀s a c a' c' a2 c2 Fw ZH,bH s a ([]:List a7).length 2 (ai ([]:List a7))->bH s a' ([]:fg).length 3 (ai ([]:fg))->bH s a2 ([]:List a7).length 2 (ai ([]:List a7))->bH s Fw ([]:fg).length 3 (ai ([]:fg))->bF 10 [.agg ⟨ie a c [] a' c' []⟩,.agg ⟨ie a2 c2 [] Fw ZH []⟩] s ((aj a++aj a')++(aj a2++aj Fw)) (.bool true):=λs a c a' c' a2 c2 Fw ZH h1 h2 h3 h4=>Bc s a c a' c' a2 c2 Fw ZH [] [] (iG _) (iG _) h1 h2 h3 h4
  have hz1:Rd ⟨s,([]:bZ).flatMap It.a8,aj a⟩ none ([]:List a7).length 2 (ai ([]:List a7)):=Rd.acf;have hz2:Rd ⟨s,([]:bZ).flatMap It.a8,aj a⟩ none ([]:fg).length 3 (ai ([]:fg)):=Rd.acf;clear hik agd fm hr hv;(repeat' (first|refine' aW|((with_reducible apply WO.gM);exact aC;(intro s hr;exact Vl s hr);exact fZ;intros)|((with_reducible apply WO.gM);exact aC;(intro s hr;exact uG s hr);exact fZ;intros)|refine' RC|((with_reducible apply WO.gM);exact aC;(intro s hr;exact Vb s hr);exact fZ;intros)|refine' av|fail));all_goals try refine cj
  all_goals refine' ax
  all_goals rfl
end Go.Pl
