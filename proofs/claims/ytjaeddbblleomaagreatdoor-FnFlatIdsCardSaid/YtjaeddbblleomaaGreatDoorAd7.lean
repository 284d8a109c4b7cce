/- Lemmas of the proof. No conditions. -/
import Derived.Test.YtjaeddbblleomaaGreatDoorAd6
set_option maxRecDepth 100000
set_option maxHeartbeats 4000000
set_option linter.unusedVariables false
set_option linter.unusedSimpArgs false
open Go.Proofs.Tryz
namespace Go.Pl
open Go Go.Ev Go.Lg Go.Proofs
theorem do_ok (s:St)(b:Nat)(a:aH)(c:Nat)(p:dx)(a':aH)(c':Nat)(q:eV)(hV:IU p q)(o:Op)(hz:o.ag.length<=3000)(hy:o.to.length<=3000)(hk7:1<=o.kind/\o.kind<=7)(n4:0<=o.at_/\o.at_<=192)(AS:o.bh.length<=24)(hql:∀x∈q,x.bh.length<=5000)(hth0:o.kind=3\/o.kind=4->∃t,nS q (eC p o.ag)=some t)
  (hP1:1<=(uP p q o).1.length)(hQ1:1<=(uP p q o).2.length)(hPa:Ev.wK (uP p q o).1=true)(hQa:Ev.wL (uP p q o).2=true):Ad aU aW 35 [aP b,ov o] s b a c p a' c' q (.tuple ⟨[]⟩) (T3 p q o):=by
 obtain⟨kd,pa,to,at_,tx⟩:=o;dsimp only at hz hy hk7 n4 AS hth0;obtain⟨an,rfl⟩:=xI n4.1;have ri:=hV.pl;have hqlen:=hV.ql;have VX:∀s a n c (p0:dx) a' n' c' (q0:eV),p0.take n=(uP p q ⟨kd,pa,to,(an:Int),tx⟩).1->q0.take n'=(uP p q ⟨kd,pa,to,(an:Int),tx⟩).2->n<=p0.length/\p0.length<=100000->n'<=q0.length/\q0.length<=100000->AJ 81 [aP b] s (vv b a n c p0 a' n' c' q0) [] λR L=>R= .tuple ⟨[]⟩/\L=vv b a n c (Ev.iF (p0.take n)++p0.drop n) a' n' c' (Ev.ja (q0.take n')++q0.drop n'):=λs a n c p0 a' n' c' q0 h1 h2 h3 h4=>by
  have e1:n=(p0.take n).length:=by rw[dg];omega
  have e2:n'=(q0.take n').length:=by rw[dg];omega
  exact LY s b a n c p0 a' n' c' q0 (by rw[e1,h1];exact hP1) h3.1 h3.2 (by rw[h1];exact hPa) (by rw[e2,h2];exact hQ1) h4.1 h4.2 (by rw[h2];exact hQa)
 have P2:∀s z,iB s b a c p a' c' q->bO 20 [aP b,sv z] s (qz b a a') (iv (eC p z)):=LJ hV;have hrm:∀s,iB s b a c p a' c' q->bO 73 [aP b] s (qz b a a') (iv (zp q 16 0)):=rm_ok hV;show Ad aU aW 35 [aP b,.agg ⟨[iv kd,sv pa,sv to,iv (an:Int),sv tx]⟩] s b a c p a' c' q (.tuple ⟨[]⟩) (T3 p q ⟨kd,pa,to,(an:Int),tx⟩);unfold T3;clear hP1 hQ1 hPa hQa;generalize hJ:uP p q ⟨kd,pa,to,(an:Int),tx⟩=J at VX⊢;unfold uP at hJ;dsimp only at hJ;by_cases k1:kd=1\/kd=2
 .rw[if_pos k1] at hJ;subst hJ;rcases k1 with rfl|rfl
  .refine aO f35 ?_;dsimp only[vv];(repeat' (first|refine' aX|refine' qw|refine' zc71|refine' Sg|refine' VW|refine' NW|refine' yr|refine' yu|refine' ar|fail))
   all_goals try refine ry
   all_goals refine' zai
  .refine aO f35 ?_;dsimp only[vv];(repeat' (first|refine' aX|refine' qw|refine' zc71|refine' Sg|refine' VW|refine' NW|refine' yr|refine' yu|refine' ar|fail))
   all_goals try refine ry
   all_goals refine' zai
 rw[if_neg k1] at hJ;by_cases k6:kd=6
 .rw[if_neg af,if_neg af,if_neg af,if_pos k6] at hJ;subst hJ;subst k6;refine aO f35 ?_;dsimp only[vv];(repeat' (first|refine' aX|refine' qw|refine' Sg|refine' VW|refine' yu|refine' ar|fail))
  all_goals try refine ry
  all_goals refine' zai
 by_cases k3:kd=3
 .rw[if_pos k3] at hJ;subst k3;obtain⟨t,ht⟩:=hth0 af;have kh:∀s,iB s b a c p a' c' q->bO 28 [aP b,iv (eC p pa)] s (qz b a a') (da a' t 3 0):=λs hr=>by
   have:=fU s b a c p a' c' q hV.st hV.ql (eC p pa) hr;rw[ht] at this;exact this
  have qM:=lC ht;have BA:=hql _ (aF qM c9.lW);by_cases k30:tx=[]
  .rw[if_pos k30] at hJ;subst hJ;refine aO f35 ?_;dsimp only[vv];(repeat' (first|refine' aX|refine' qw|refine' Sa|refine' yu|refine' ar|fail))
   all_goals try refine ry
   all_goals refine' zai
  .rw[if_neg k30] at hJ;have hxp:0<tx.length:=oX.2 k30;have UB:=DW (max 0 ((an:Int)+(tx.length:Int)-((q.getD t c9.lW).bh.length:Int))).toNat;have hzl:((q.getD t c9.lW).bh++Ev.yf [0] (max 0 ((an:Int)+(tx.length:Int)-((q.getD t c9.lW).bh.length:Int))).toNat).length=(q.getD t c9.lW).bh.length+(max 0 ((an:Int)+(tx.length:Int)-((q.getD t c9.lW).bh.length:Int))).toNat:=by rw[bR,UB]
   unfold W7 at hJ;rw[ht] at hJ;subst hJ;refine aO f35 ?_;dsimp only[vv];(repeat' (first|refine' aX|refine' qw|refine' Sa|refine' Z4|((with_reducible apply WO.bG);exact aD;(first|exact λs=>Hc s _ af);intro _ _ _ _)|((with_reducible apply WO.cutB);exact gO;exact gO;exact rl;exact mv;intro _)|((with_reducible apply WO.copyB);(exact λ_=>rfl);exact gO;exact gO;exact wT;exact mv;intro _)|((with_reducible apply WO.strB);(exact λ_=>rfl);exact gO;exact rl;(simp only[bR,dg,gp];omega);intro _)|refine' P4|refine' yu|refine' ar|fail))
   all_goals try refine ry
   all_goals refine' zai
 rw[if_neg k3] at hJ;by_cases k4:kd=4
 .rw[if_pos k4] at hJ;subst k4;obtain⟨t,ht⟩:=hth0 af;have kh:∀s,iB s b a c p a' c' q->bO 28 [aP b,iv (eC p pa)] s (qz b a a') (da a' t 3 0):=λs hr=>by
   have:=fU s b a c p a' c' q hV.st hV.ql (eC p pa) hr;rw[ht] at this;exact this
  have qM:=lC ht;have BA:=hql _ (aF qM c9.lW);have UB:=DW (max 0 ((an:Int)-((q.getD t c9.lW).bh.length:Int))).toNat;have hzl:((q.getD t c9.lW).bh++Ev.yf [0] (max 0 ((an:Int)-((q.getD t c9.lW).bh.length:Int))).toNat).length=(q.getD t c9.lW).bh.length+(max 0 ((an:Int)-((q.getD t c9.lW).bh.length:Int))).toNat:=by rw[bR,UB]
  unfold W7 at hJ;rw[ht] at hJ;subst hJ;refine aO f35 ?_;dsimp only[vv];(repeat' (first|refine' aX|refine' qw|refine' Sa|refine' Z4|((with_reducible apply WO.bG);exact aD;(first|exact λs=>Hc s _ af);intro _ _ _ _)|refine' P4|refine' yu|refine' ar|fail))
  all_goals try refine ry
  all_goals refine' zai
 rw[if_neg k4] at hJ;by_cases k5:kd=5
 .rw[if_pos k5] at hJ;subst k5;have Bg:(p.filter λx=>!decide (x.ag=pa)).length<=p.length:=B9 _ _;have hfl2:(q.filter λx=>!decide (x.id=eC p pa)).length<=q.length:=B9 _ _;have hli:∀s,iB s b a c (p.filter λx=>!decide (x.ag=pa)) a' c' q->bO 77 [aP b,iv (eC p pa)] s (qz b a a') (iv (zo (p.filter λx=>!decide (x.ag=pa)) (eC p pa):Int)):=λs hr=>LI s b a c _ a' c' q af _ hr
  unfold DK at hJ;by_cases k50:zo (p.filter λx=>!decide (x.ag=pa)) (eC p pa)=0
  .rw[if_pos k50] at hJ;subst hJ;refine aO f35 ?_;dsimp only[vv];(repeat' (first|refine' aX|refine' qw|refine' yq|refine' zc107|refine' zc108|refine' zc109|refine' yu|refine' ar|fail))
   all_goals try refine ry
   all_goals refine' zai
  .rw[if_neg k50] at hJ;subst hJ;refine aO f35 ?_;dsimp only[vv];(repeat' (first|refine' aX|refine' qw|refine' yq|refine' zc107|refine' zc108|refine' zc109|refine' yu|refine' ar|fail))
   all_goals try refine ry
   all_goals refine' zai
 rw[if_neg k5,if_neg k6] at hJ;obtain rfl:kd=7:=by omega
 subst hJ;refine aO f35 ?_;dsimp only[vv];(repeat' (first|refine' aX|refine' qw|refine' ar|fail))
 all_goals try refine ry
 refine W.bH (λm l L=>∃(i b3:Nat)(w:dx),Le [(0,aP b),(3,aP b3),(22,.slice a p.length c),(23,iv (p.length:Int)),(24,iv (i:Int))] l/\cr [.box b [.slice a p.length c,.slice a' q.length c'] 26 false,.aJ (.slice a p.length c) 70 2 (ah w),.aJ (.slice a' q.length c') 37 3 (ah q),.box b3 [iv 7,sv pa,sv to,iv (an:Int),sv tx] 28 false] L/\m=p.length-i/\i<=p.length/\w=(p.take i).map (LA pa to)++p.drop i)
  (λl L=>Le [(0,aP b)] l/\cr [.box b [.slice a p.length c,.slice a' q.length c'] 26 false,.aJ (.slice a p.length c) 70 2 (ah (p.map (LA pa to))),.aJ (.slice a' q.length c') 37 3 (ah q)] L) _ ⟨0,_,p,bd,aq,rfl,af,by simp⟩ ?_ ?_
 .rintro m l L ⟨i,b3,w,hl,hL,rfl,g1,g2⟩;refine W.le ?_ hl hL;clear hl hL;have hwl:w.length=p.length:=by rw[g2,bR,vL,dg,gp];omega
  by_cases hi:i<p.length
  .have hwi:w.getD i c9.lW=p.getD i c9.lW:=by
    rw[g2,aY,zu (by rw[vL,dg];omega),xF,vL,dg,aY]
    congr 2;omega
   have BA:=hV.ps _ (aF hi c9.lW);have o7:∀y,y=LA pa to (p.getD i c9.lW)->w.set i y=(p.take (i+1)).map (LA pa to)++p.drop (i+1):=λy hy=>by
    rw[g2,List.set_append,if_neg (by rw[vL,dg];omega),vQ,Jw,kA]
    congr 1
    rw[drop_cons hi,vL,dg,show i-min i p.length=0 by omega,List.set_cons_zero,hy,bk hi,aY,bk hi];rfl
   rw[<-hwi] at BA o7;have hcp0:=λs=>IW s (w.getD i c9.lW).ag pa af af
   have Cv:w.set i (w.getD i c9.lW)=w:=by
    rw[aY,bk af];exact List.set_getElem_self _
   have UB:((w.getD i c9.lW).ag.drop pa.length).length=(w.getD i c9.lW).ag.length-pa.length:=gp;clear hwi g2;cases hh:DV (w.getD i c9.lW).ag pa with
   |false=>
    have T0:∀s,bO 80 [sv (w.getD i c9.lW).ag,sv pa] s [] (.tuple ⟨[sv (w.getD i c9.lW).ag,.bool false]⟩):=λs=>by have:=hcp0 s;rwa [if_neg (by rw[hh];exact jL)] at this
    have TZ:(w.getD i c9.lW)=LA pa to (w.getD i c9.lW):=by
     unfold LA Bn;unfold DV at hh;rw[if_neg (λh=>by rw[dO h.1,dO h.2] at hh;cases hh)]
    have oo:=o7 _ TZ;rw[Cv] at oo;clear hh hcp0 o7 TZ Cv;(repeat' (first|refine' aX|refine' Sf|refine' ar|fail))
    all_goals try refine cI
    all_goals exact⟨_,af,i+1,b3,w,bd,aq,rfl,af,oo⟩
   |true=>
    have T0:∀s,bO 80 [sv (w.getD i c9.lW).ag,sv pa] s [] (.tuple ⟨[sv ((w.getD i c9.lW).ag.drop pa.length),.bool true]⟩):=λs=>by have:=hcp0 s;rwa [if_pos hh] at this
    have oS:Bn (w.getD i c9.lW).ag pa=if((w.getD i c9.lW).ag.drop pa.length)=[]\/((w.getD i c9.lW).ag.drop pa.length).getD 0 0=47 then some ((w.getD i c9.lW).ag.drop pa.length) else none:=by
     unfold Bn;unfold DV at hh;rw[cv,cl,cl] at hh;rw[if_pos hh]
    clear hh hcp0;by_cases e1:((w.getD i c9.lW).ag.drop pa.length)=[]\/((w.getD i c9.lW).ag.drop pa.length).getD 0 0=47
    .have oo:=o7 ⟨to++((w.getD i c9.lW).ag.drop pa.length),(w.getD i c9.lW).id⟩ (by unfold LA;rw[oS,if_pos e1]);clear o7 Cv oS;rcases Classical.em (((w.getD i c9.lW).ag.drop pa.length)=[]) with e2|e2
     ·(repeat' (first|refine' aX|refine' Sf|refine' P5|refine' ar|fail))
      all_goals try refine cI
      all_goals exact⟨_,af,i+1,b3,_,bd,aq,rfl,af,oo⟩
     .have e3:(((w.getD i c9.lW).ag.drop pa.length).getD 0 0).toNat=47:=by rw[e1.resolve_left e2];rfl
      have e4:0<((w.getD i c9.lW).ag.drop pa.length).length:=oX.2 e2;(repeat' (first|refine' aX|refine' Sf|refine' P5|refine' ar|fail))
      all_goals try refine cI
      all_goals exact⟨_,af,i+1,b3,_,bd,aq,rfl,af,oo⟩
    .have oo:=o7 (w.getD i c9.lW) (by unfold LA;rw[oS,if_neg e1]);rw[Cv] at oo;clear o7 Cv oS;have e2:¬((w.getD i c9.lW).ag.drop pa.length)=[]:=λh=>e1 (.inl h)
     have e3:¬(((w.getD i c9.lW).ag.drop pa.length).getD 0 0).toNat=47:=λh=>e1 (.inr (wu.1 h))
     have e4:0<((w.getD i c9.lW).ag.drop pa.length).length:=oX.2 e2;(repeat' (first|refine' aX|refine' Sf|refine' P5|refine' ar|fail))
     all_goals try refine cI
     all_goals exact⟨_,af,i+1,b3,w,bd,aq,rfl,af,oo⟩
  .have fG:i=p.length:=by omega
   subst fG;rw[gS,ig,iH] at g2;subst g2;(refine' cO)
   all_goals try refine cI
   all_goals exact⟨bd,aq⟩
 .rintro l L ⟨hl,hL⟩;(repeat(first|(with_reducible refine aj ?_)|(with_reducible refine cP ?_)|(with_reducible refine dC ?_)))
  refine W.le ?_ hl hL;clear hl hL;(repeat' (first|refine' aX|refine' yu|refine' ar|fail))
  all_goals try refine ry
  all_goals refine' zai
end Go.Pl
