/- Lemmas of the proof. No conditions. -/
import Derived.Test.YtoiielhpadnflaaGreatDoorAf3
set_option maxRecDepth 100000
set_option maxHeartbeats 4000000
set_option linter.unusedVariables false
set_option linter.unusedSimpArgs false
open Go.Proofs.Tryz
namespace Go.Pl
open Go Go.Ev Go.Lg Go.Proofs
variable {E:iq}{X:fY}{Γ:qN}{l:Kn}{L R:dy}{K:KO}{g:FuncId}{xs:List Operand}{ts:Array TypeId}{vs:aY}{b:Nat}{k:Int}{a a':aS}{c c':Nat}{q:gD}{r:Value}{s:St}{g2:FuncId}{p:List bE}{z:aC}{x y:It}{a2:aS}{n n2 sz:Nat}{P:List bE}
theorem ajj (s:St)(b:Nat)(a:aS)(c:Nat)(p:List bE)(a':aS)(c':Nat)(q:gD)(hV:Kg p q)(o:Op)(hz:o.ag.length<=3000)(hy:o.to.length<=3000)(hk7:1<=o.kind/\o.kind<=7)(pD:0<=o.at_/\o.at_<=192)(Cb:o.a8.length<=24)(hql:∀x∈q,x.a8.length<=5000)(af0:o.kind=3\/o.kind=4->∃t,pc q (ia p o.ag)=some t)
  (hP1:1<=(AX p q o).1.length)(hQ1:1<=(AX p q o).2.length)(hPa:Ev.xD (AX p q o).1=true)(hQa:Ev.xE (AX p q o).2=true):yi bf bw 51 [bk b,ov o] s b a c p a' c' q (.tuple ⟨[]⟩) (RQ p q o):=by
 obtain⟨kd,pa,tq9,at_,tx⟩:=o;dsimp only at hz hy hk7 pD Cb af0;obtain⟨an,rfl⟩:=yC pD.1;have sS:=hV.pl;have adG:=hV.ql;have Xo:∀s a n c (p0:List bE) a' n' c' (q0:gD),p0.take n=(AX p q ⟨kd,pa,tq9,(an:Int),tx⟩).1->q0.take n'=(AX p q ⟨kd,pa,tq9,(an:Int),tx⟩).2->n<=p0.length/\p0.length<=100000->n'<=q0.length/\q0.length<=100000->FC 91 [bk b] s (uH b a n c p0 a' n' c' q0) [] λR L=>R= .tuple ⟨[]⟩/\L=uH b a n c (Ev.jV (p0.take n)++p0.drop n) a' n' c' (Ev.jW (q0.take n')++q0.drop n'):=λs a n c p0 a' n' c' q0 h1 h2 h3 h4=>by
  have e1:n=(p0.take n).length:=by rw[cO];omega
  have e2:n'=(q0.take n').length:=by rw[cO];omega
  exact NH s b a n c p0 a' n' c' q0 (by rw[e1,h1];exact hP1) h3.1 h3.2 (by rw[h1];exact hPa) (by rw[e2,h2];exact hQ1) h4.1 h4.2 (by rw[h2];exact hQa)
 have hld:∀s z,iW s b a c p a' c' q->bL 82 [bk b,sv z] s (rD b a a') (iv (ia p z)):=R9 hV;have hrm:∀s,iW s b a c p a' c' q->bL 83 [bk b] s (rD b a a') (iv (Ci q 16 0)):=adP hV;show yi bf bw 51 [bk b,.agg ⟨[iv kd,sv pa,sv tq9,iv (an:Int),sv tx]⟩] s b a c p a' c' q (.tuple ⟨[]⟩) (RQ p q ⟨kd,pa,tq9,(an:Int),tx⟩);unfold RQ;clear hP1 hQ1 hPa hQa;generalize hJ:AX p q ⟨kd,pa,tq9,(an:Int),tx⟩=J at Xo⊢;unfold AX at hJ;dsimp only at hJ;by_cases k1:kd=1\/kd=2
 .rw[if_pos k1] at hJ;subst hJ;rcases k1 with rfl|rfl
  .refine aX f51 ?_;dsimp only[uH];refine' ado
   (all_goals try refine nU);all_goals refine' zak
  .refine aX f51 ?_;dsimp only[uH];refine' ado
   (all_goals try refine nU);all_goals refine' zak
 rw[if_neg k1] at hJ;by_cases k6:kd=6
 .rw[if_neg af,if_neg af,if_neg af,if_pos k6] at hJ;subst hJ;subst k6;refine aX f51 ?_;dsimp only[uH];repeat' (first|refine' aZ|refine' rO|refine' acZ|refine' ac0|refine' BH|refine' av|fail)
  all_goals try refine nU
  all_goals refine' zak
 by_cases k3:kd=3
 .rw[if_pos k3] at hJ;subst k3;obtain⟨t,ht⟩:=af0 af;have sU:∀s,iW s b a c p a' c' q->bL 22 [bk b,iv (ia p pa)] s (rD b a a') (dh a' t 3 0):=λs hr=>by
   have:=fV s b a c p a' c' q hV.st hV.ql (ia p pa) hr;rw[ht] at this;exact this
  have qM:=lR ht;have FL:=hql _ (aL qM aq.ah);by_cases k30:tx=[]
  .rw[if_pos k30] at hJ;subst hJ;refine aX f51 ?_;dsimp only[uH];repeat' (first|refine' aZ|refine' rO|refine' TL|refine' BH|refine' av|fail)
   (all_goals try refine nU);all_goals refine' zak
  .rw[if_neg k30] at hJ;have hxp:0<tx.length:=nO.2 k30;have VV:=Fc (max 0 ((an:Int)+(tx.length:Int)-((q.getD t aq.ah).a8.length:Int))).toNat;have hzl:((q.getD t aq.ah).a8++Ev.yY [0] (max 0 ((an:Int)+(tx.length:Int)-((q.getD t aq.ah).a8.length:Int))).toNat).length=(q.getD t aq.ah).a8.length+(max 0 ((an:Int)+(tx.length:Int)-((q.getD t aq.ah).a8.length:Int))).toNat:=by rw[bn,VV]
   unfold Vp at hJ;rw[ht] at hJ;subst hJ;refine aX f51 ?_;dsimp only[uH];(repeat' (first|refine' aZ|refine' rO|refine' TL|refine' abh|((with_reducible apply WO.aW);exact aD;exact λs=>Is s _ af;intros)|((with_reducible apply WO.alc);exact fS;exact fS;exact oX;exact lT;intro _)|((with_reducible apply WO.ahC);(exact λ_=>rfl);exact fS;exact fS;exact xW;exact lT;intro _)|((with_reducible apply WO.amh);(exact λ_=>rfl);exact fS;exact oX;(simp only[bn,cO,eP];omega);intro _)|refine' XS|refine' BH|refine' av|fail));(all_goals try refine nU);all_goals refine' zak
 rw[if_neg k3] at hJ;by_cases k4:kd=4
 .rw[if_pos k4] at hJ;subst k4;obtain⟨t,ht⟩:=af0 af;have sU:∀s,iW s b a c p a' c' q->bL 22 [bk b,iv (ia p pa)] s (rD b a a') (dh a' t 3 0):=λs hr=>by
   have:=fV s b a c p a' c' q hV.st hV.ql (ia p pa) hr;rw[ht] at this;exact this
  have qM:=lR ht;have FL:=hql _ (aL qM aq.ah);have VV:=Fc (max 0 ((an:Int)-((q.getD t aq.ah).a8.length:Int))).toNat;have hzl:((q.getD t aq.ah).a8++Ev.yY [0] (max 0 ((an:Int)-((q.getD t aq.ah).a8.length:Int))).toNat).length=(q.getD t aq.ah).a8.length+(max 0 ((an:Int)-((q.getD t aq.ah).a8.length:Int))).toNat:=by rw[bn,VV]
  unfold Vp at hJ;rw[ht] at hJ;subst hJ;refine aX f51 ?_;dsimp only[uH];(repeat' (first|refine' aZ|refine' rO|refine' TL|refine' abh|((with_reducible apply WO.aW);exact aD;exact λs=>Is s _ af;intros)|refine' XS|refine' BH|refine' av|fail));all_goals try refine nU
  all_goals refine' zak
 rw[if_neg k4] at hJ;by_cases k5:kd=5
 .rw[if_pos k5] at hJ;subst k5;have AB:(p.filter λx=>!decide (x.ag=pa)).length<=p.length:=Bm _ _;have af1:(q.filter λx=>!decide (x.id=ia p pa)).length<=q.length:=Bm _ _;have N4:∀s,iW s b a c (p.filter λx=>!decide (x.ag=pa)) a' c' q->bL 87 [bk b,iv (ia p pa)] s (rD b a a') (iv (xb (p.filter λx=>!decide (x.ag=pa)) (ia p pa):Int)):=λs hr=>No s b a c _ a' c' q af _ hr
  unfold Ia at hJ;by_cases k50:xb (p.filter λx=>!decide (x.ag=pa)) (ia p pa)=0
  .rw[if_pos k50] at hJ;subst hJ;refine aX f51 ?_;dsimp only[uH];repeat' (first|refine' aZ|refine' rO|refine' ry|refine' ac2|refine' ac3|refine' ac4|refine' BH|refine' av|fail)
   (all_goals try refine nU);all_goals refine' zak
  .rw[if_neg k50] at hJ;subst hJ;refine aX f51 ?_;dsimp only[uH];repeat' (first|refine' aZ|refine' rO|refine' ry|refine' ac2|refine' ac3|refine' ac4|refine' BH|refine' av|fail)
   (all_goals try refine nU);all_goals refine' zak
 rw[if_neg k5,if_neg k6] at hJ;obtain rfl:kd=7:=by omega
 subst hJ;refine aX f51 ?_;dsimp only[uH];repeat' (first|refine' aZ|refine' rO|refine' av|fail)
 all_goals try refine nU
 refine W.bK (λm l L=>∃(i b3:Nat)(w:List bE),Le [(0,bk b),(3,bk b3),(22,.slice a p.length c),(23,iv (p.length:Int)),(24,iv (i:Int))] l/\cx [.box b [.slice a p.length c,.slice a' q.length c'] 26 false,.aQ (.slice a p.length c) 52 2 (ai w),.aQ (.slice a' q.length c') 54 3 (ai q),.box b3 [iv 7,sv pa,sv tq9,iv (an:Int),sv tx] 30 false] L/\m=p.length-i/\i<=p.length/\w=(p.take i).map (AW pa tq9)++p.drop i)
  (λl L=>Le [(0,bk b)] l/\cx [.box b [.slice a p.length c,.slice a' q.length c'] 26 false,.aQ (.slice a p.length c) 52 2 (ai (p.map (AW pa tq9))),.aQ (.slice a' q.length c') 54 3 (ai q)] L) _ ⟨0,_,p,bp,au,rfl,af,ay⟩ ?_ ?_
 .rintro m l L ⟨i,b3,w,hl,hL,rfl,g1,g2⟩;refine W.le ?_ hl hL;clear hl hL;have Uc:w.length=p.length:=by rw[g2,bn,uI,cO,eP];omega
  by_cases hi:i<p.length
  .have hwi:w.getD i aq.ah=p.getD i aq.ah:=by
    rw[g2,a7,Ad (by rw[uI,cO];omega),wP,uI,cO,a7]
    congr 2;omega
   have FL:=hV.ps _ (aL hi aq.ah);have pA:∀y,y=AW pa tq9 (p.getD i aq.ah)->w.set i y=(p.take (i+1)).map (AW pa tq9)++p.drop (i+1):=λy hy=>by
    rw[g2,List.set_append,if_neg (by rw[uI,cO];omega),ui,Qw,iL]
    congr 1
    rw[drop_cons hi,uI,cO,show i-min i p.length=0 by omega,List.set_cons_zero,hy,bc hi,a7,bc hi];rfl
   rw[<-hwi] at FL pA;have ab6:=λs=>Ki s (w.getD i aq.ah).ag pa af af
   have Dj:w.set i (w.getD i aq.ah)=w:=by
    rw[a7,bc af];exact List.set_getElem_self _
   have VV:((w.getD i aq.ah).ag.drop pa.length).length=(w.getD i aq.ah).ag.length-pa.length:=eP;clear hwi g2;cases hh:Fb (w.getD i aq.ah).ag pa with
   |false=>
    have Oa:∀s,bL 90 [sv (w.getD i aq.ah).ag,sv pa] s [] (.tuple ⟨[sv (w.getD i aq.ah).ag,.bool false]⟩):=λs=>by have:=ab6 s;rwa [if_neg (by rw[hh];exact iB)] at this
    have hmv:(w.getD i aq.ah)=AW pa tq9 (w.getD i aq.ah):=by
     unfold AW o7;unfold Fb at hh;rw[if_neg (λh=>by rw[du h.1,du h.2] at hh;cases hh)]
    have oN:=pA _ hmv;rw[Dj] at oN;clear hh ab6 pA hmv Dj;(repeat' (first|refine' aZ|refine' HD|refine' av|fail));(all_goals try refine cI);all_goals exact⟨_,af,i+1,b3,w,bp,au,rfl,af,oN⟩
   |true=>
    have Oa:∀s,bL 90 [sv (w.getD i aq.ah).ag,sv pa] s [] (.tuple ⟨[sv ((w.getD i aq.ah).ag.drop pa.length),.bool true]⟩):=λs=>by have:=ab6 s;rwa [if_pos hh] at this
    have oz:o7 (w.getD i aq.ah).ag pa=if((w.getD i aq.ah).ag.drop pa.length)=[]\/((w.getD i aq.ah).ag.drop pa.length).getD 0 0=47 then some ((w.getD i aq.ah).ag.drop pa.length) else none:=by
     unfold o7;unfold Fb at hh;rw[bI,bR,bR] at hh;rw[if_pos hh]
    clear hh ab6;by_cases e1:((w.getD i aq.ah).ag.drop pa.length)=[]\/((w.getD i aq.ah).ag.drop pa.length).getD 0 0=47
    .have oN:=pA ⟨tq9++((w.getD i aq.ah).ag.drop pa.length),(w.getD i aq.ah).id⟩ (by unfold AW;rw[oz,if_pos e1]);clear pA Dj oz;rcases Classical.em (((w.getD i aq.ah).ag.drop pa.length)=[]) with e2|e2
     ·(repeat' (first|refine' aZ|refine' HD|refine' Rt|refine' av|fail))
      (all_goals try refine cI);all_goals exact⟨_,af,i+1,b3,_,bp,au,rfl,af,oN⟩
     .have e3:(((w.getD i aq.ah).ag.drop pa.length).getD 0 0).toNat=47:=by rw[e1.resolve_left e2];rfl
      have e4:0<((w.getD i aq.ah).ag.drop pa.length).length:=nO.2 e2;(repeat' (first|refine' aZ|refine' HD|refine' Rt|refine' av|fail));(all_goals try refine cI);all_goals exact⟨_,af,i+1,b3,_,bp,au,rfl,af,oN⟩
    .have oN:=pA (w.getD i aq.ah) (by unfold AW;rw[oz,if_neg e1]);rw[Dj] at oN;clear pA Dj oz;have e2:¬((w.getD i aq.ah).ag.drop pa.length)=[]:=λh=>e1 (.inl h)
     (have e3:¬(((w.getD i aq.ah).ag.drop pa.length).getD 0 0).toNat=47:=λh=>e1 (.inr (sW.1 h)));have e4:0<((w.getD i aq.ah).ag.drop pa.length).length:=nO.2 e2;(repeat' (first|refine' aZ|refine' HD|refine' Rt|refine' av|fail));(all_goals try refine cI);all_goals exact⟨_,af,i+1,b3,w,bp,au,rfl,af,oN⟩
  .have fb:i=p.length:=by omega
   subst fb;rw[fU,kG,gJ] at g2;subst g2;refine' cM;(all_goals try refine cI);all_goals exact⟨bp,au⟩
 .rintro l L ⟨hl,hL⟩;(repeat(first|(with_reducible first|refine ak ?_|refine fe ?_|refine gS ?_)))
  refine W.le ?_ hl hL;clear hl hL;repeat' (first|refine' aZ|refine' BH|refine' av|fail)
  all_goals try refine nU
  all_goals refine' zak
end Go.Pl
namespace Go.Pl
open Go.Lg
variable {f:Flat}{y z:aC}
theorem Sb:∀n:Nat,Ev.yY [0] n=List.replicate n 0
 |0=>rfl
 |n+1=>by
  show [0]++Ev.yY [0] n=_;rw[Sb n,List.replicate_succ];rfl
theorem ab7 (t:aC)(n:Int):YU t n=t++List.replicate (n-t.length).toNat 0:=by unfold YU;rw[Sb,show(max 0 (n-(t.length:Int))).toNat=(n-(t.length:Int)).toNat by omega]
theorem UM {q:gD}(hs:ik q){x:Nat}{y:bS}(hy:y.id=(q.getD x fO).id):ik (q.set x y):=by
 refine uk.2 λi j hi hj nI=>?_
 rw[gy] at hi hj;have h0:=uk.1 hs i j hi hj nI;have key:∀k (hk:k<q.length),((q.set x y)[k]'(by rw[gy];exact hk)).id=q[k].id:=λk hk=>by
  rw[List.getElem_set];split
  .rename_i e;subst e;rw[hy,a7,bc hk];rfl
  .rfl
 rw[key i hi,key j hj];exact h0
theorem zS:∀(z:aC)(t:Nat),dM z=some t->∀i,t<i->i<z.length->z.getD i 0≠47
 |[],t,h,i,hi,hl=>by cases h
 |c::z,t,h,i,hi,hl=>by
  unfold dM at h;obtain⟨i,rfl⟩:∃k,i=k+1:=⟨i-1,af⟩;rw[Bi];split at h
  .rename_i j hj;cases h
   exact zS z j hj i af (by simpa using hl)
  .rename_i hz;have hl:i<z.length:=by simpa using hl
   exact AU z hz _ (by rw[a7,bc hl];exact rX hl)
theorem kE.closed (h:kE f)(hy:y≠[]):∀(n j:Nat),j<=n->j<f.ad.length->∀r,(f.ad.getD j cR).ag=y++47::r->∃m,m<f.ad.length/\(f.ad.getD m cR).ag=y
 |n,j,hjn,hj,r,hp=>by
  have hyl:0<y.length:=nO.2 hy;by_cases h0:j=0
  .subst h0;rw[h.nr] at hp;have:=eC List.length hp;simp at this;omega
  .obtain⟨m,hm,FE,hfm,hpm⟩:=h.par (show 1<=j by omega) hj;have pR:=((h.nm j hj).2.1 af).2.2.1;cases hl:dM (f.ad.getD j cR).ag with
   |none=>unfold aw at pR;rw[hl] at pR;cases pR
   |some t=>
    have pD:y.length<=t:=by
     (refine nP λdz=>?_);have h1:=zS _ t hl y.length af (by rw[hp,bn];simp);rw[hp] at h1;exact h1 (by simp[a7])
    have lS:(aw (f.ad.getD j cR).ag).1=(f.ad.getD j cR).ag.take t:=by
     unfold aw;rw[hl];show List.take (max t 1) _=_;rw[Nat.max_eq_left af]
    by_cases he:t=y.length
    .refine⟨m,af,?_⟩;rw[hpm,lS,hp,he];simp
    .cases n with
     |zero=>omega
     |succ n=>
      refine h.closed hy n m af af (r.take (t-y.length-1)) ?_;rw[hpm,lS,hp,KI,rT af]
      congr 1
      rw[show t-y.length=(t-y.length-1)+1 by omega,x_5]
      congr 2
theorem iz {x z r:aC}:o7 x z=some r↔x=z++r/\(r=[]\/r.getD 0 0=47):=by
 unfold o7;constructor
 .intro h;split at h
  .rename_i h1;split at h
   .rename_i h2;cases h
    refine⟨?_,h2⟩;have:=yy z.length x;rw[h1.2] at this;exact this.symm
   .cases h
  .cases h
 .rintro⟨rfl,h⟩;rw[if_pos ⟨ay,ay⟩];have:(z++r).drop z.length=r:=by simp
  rw[this,if_pos h]
theorem Fe (h:kE f)(hy:y≠[])(hn:vT f.ad y=none):((f.ad.map (AW z y)).map bE.ag).Nodup:=by
 rw[List.map_map,CX,CY];refine uk.2 λi j hi hj nI=>?_
 have gh:=uk.1 h.sn i j hi hj nI;have gh:=nk gh;have one:∀(a b:Nat)(ha:a<f.ad.length)(hb:b<f.ad.length)(r:aC),o7 f.ad[a].ag z=some r->o7 f.ad[b].ag z=none->y++r≠f.ad[b].ag:=λa b ha hb r h1 h2 e=>by
  obtain⟨g1,g2⟩:=iz.1 h1;rcases g2 with rfl|g2
  .rw[gJ] at e;exact ue hn _ (rX hb) e.symm
  .cases r with
   |nil=>exact absurd g2 bT
   |cons c r=>
    (have:c=47:=by simpa using g2);subst this;obtain⟨m,hm,hmp⟩:=h.closed hy b b (cC _) hb r (by rw[a7,bc hb];exact e.symm);exact ue hn _ (dG cR hm) hmp
 show(AW z y f.ad[i]).ag≠(AW z y f.ad[j]).ag;unfold AW;cases c1:o7 f.ad[i].ag z with
 |some r1=>
  cases c2:o7 f.ad[j].ag z with
  |some r2=>
   intro e;have e:y++r1=y++r2:=e;have e:=List.append_cancel_left e;exact gh (by rw[(iz.1 c1).1,(iz.1 c2).1,e])
  |none=>exact one i j hi hj r1 c1 c2
 |none=>
  cases c2:o7 f.ad[j].ag z with
  |some r2=>exact λe=>one j i hj hi r2 c2 c1 e.symm
  |none=>exact gh
theorem A6 (h:aT y=true):y≠[]:=λe=>by rw[e] at h;cases h
variable {o:Op}
theorem mP (h:kV o=true):(1<=o.kind/\o.kind<=7)/\aT o.ag=true/\(o.kind=6\/o.kind=7->aT o.to=true)/\(0<=o.at_/\o.at_<=192)/\o.a8.length<=24:=by obtain⟨kd,pa,tq9,at_,tx⟩:=o;unfold kV at h;unfold fM at h;dsimp only at h⊢;by_cases e1:1<=kd<;>by_cases e2:kd<=7<;>cases e3:aT pa<;>cases e4:aT tq9<;>by_cases e5:kd=7<;>by_cases e55:kd=6<;>by_cases e6:0<=at_<;>by_cases e7:at_<=192<;>by_cases e8:24<tx.length<;>simp_all<;>omega
theorem UN {l:List bE}(h:(l.map bE.ag).Nodup):Ev.xD l=true:=du h
theorem UO {l:gD}(h:(l.map bS.id).Nodup):Ev.xE l=true:=du h
theorem wy {f:Flat}(h:kE f)(ho:kV o=true)(h0:mM f.ad f.ae o=0):((AX f.ad f.ae o).1.map bE.ag).Nodup/\((AX f.ad f.ae o).2.map bS.id).Nodup/\1<=(AX f.ad f.ae o).1.length/\1<=(AX f.ad f.ae o).2.length:=by
 obtain⟨⟨h1,h2⟩,h3,h4,h5,h6⟩:=mP ho;obtain⟨kd,pa,tq9,at_,tx⟩:=o;dsimp only at h1 h2 h3 h4 h5 h6;have hn:=h.sn.nodup;have hq:=h.st.nodup;have QS:=h.n1;have W9:=h.q1;unfold mM at h0;dsimp only at h0;unfold AX;dsimp only;by_cases k12:kd=1\/kd=2
 .rw[if_pos k12] at h0⊢;rw[J8 h h3] at h0;have hf:¬0<f.cu pa:=λe=>by rw[if_pos e] at h0;omega
  rw[if_neg hf] at h0;obtain⟨g1,_⟩:=ud hf;have hr:=ajg f;have dz:f.fw<16:=by
   (refine nP λhh=>?_);rw[if_neg hh] at hr;rw[hr] at h0;have:(if decide ((-1:Int)<0)=true\/12<=f.vR (bW pa).1 then(6:Int) else 0)=6:=if_pos (.inl bT);rw[this] at h0;cases h0
  rw[if_pos dz] at hr;rw[hr];exact⟨oA bE.ag hn (ue g1),oA bS.id hq (CL (n:=(f.fw:Int)) (zO f).1),ay,ay⟩
 rw[if_neg k12] at h0⊢;by_cases c1:ia f.ad pa<0
 .rw[if_pos c1] at h0;cases h0
 rw[if_neg c1] at h0;have oN:∀g,((Vp f.ae (ia f.ad pa) g).map bS.id).Nodup/\1<=(Vp f.ae (ia f.ad pa) g).length:=λg=>by
  unfold Vp;cases pc f.ae (ia f.ad pa) with
  |none=>exact⟨hq,W9⟩
  |some t=>
   dsimp only;exact⟨(UM (y:=⟨(f.ae.getD t fO).id,(f.ae.getD t fO).aN,g (f.ae.getD t fO).a8⟩) h.st rfl).nodup,by rw[gy];exact W9⟩
 by_cases k3:kd=3
 .rw[if_pos k3];dsimp only;refine⟨hn,?_,QS,?_⟩
  .split
   .exact hq
   .exact(oN _).1
  .split
   .exact W9
   .exact(oN _).2
 rw[if_neg k3];by_cases k4:kd=4
 .rw[if_pos k4];exact⟨hn,(oN _).1,QS,(oN _).2⟩
 rw[if_neg k4];rw[if_neg (show ¬(kd=3\/kd=4) by omega)] at h0;by_cases k5:kd=5
 .rw[if_pos k5] at h0⊢;unfold Ia;dsimp only;have ajk:¬ia f.ad pa=0:=λe=>by rw[if_pos (.inl e)] at h0;cases h0
  have ajl:(vT f.ad pa).isSome=true:=(h.ld0 pa).1 af;obtain⟨k,hk⟩:=lV.1 ajl;have Vj:pa≠[47]:=λe=>ajk ((h.J7 hk).2 e)
  refine⟨(UF h.sn Gy).nodup,?_,?_,?_⟩
  .split
   .exact(UG h.st Gy).nodup
   .exact hq
  .refine KN (a:=f.ad.getD 0 cR) (rW.2 ⟨dG cR QS,?_⟩);rw[h.nr];show(!decide (([47]:aC)=pa))=true;rw[ec (λe=>Vj e.symm)];rfl
  .split
   .refine KN (a:=f.ae.getD 0 fO) (rW.2 ⟨dG fO W9,?_⟩);rw[h.t0,ec (λe=>ajk e.symm)];rfl
   .exact W9
 rw[if_neg k5] at h0⊢;by_cases k6:kd=6
 .rw[if_pos k6] at h0⊢;have AB:¬lH f.ae (ia f.ad pa)=true:=λe=>by rw[if_pos e] at h0;cases h0
  rw[if_neg AB,J8 h (h4 (.inl k6))] at h0;have hf:¬0<f.cu tq9:=λe=>by rw[if_pos e] at h0;omega
  obtain⟨g1,_⟩:=ud hf;exact⟨oA bE.ag hn (ue g1),hq,ay,W9⟩
 rw[if_neg k6] at h0⊢;have k7:kd=7:=by omega
 refine' zaN;have pR:vT f.ad tq9=none:=(h.Zo tq9).1 af;exact⟨Fe h (A6 Vm) pR,hq,by rw[uI];exact QS,W9⟩
end Go.Pl
namespace Go.Pl
open Go Go.Ev Go.Lg Go.Proofs
variable {E:iq}{X:fY}{Γ:qN}{l:Kn}{L R:dy}{K:KO}{g:FuncId}{xs:List Operand}{ts:Array TypeId}{vs:aY}{t t2 e:TypeId}{a a':aS}{n sz c b c':Nat}{α:Type}{enc:aq α sz}{w:List α}{p:List bE}{q:gD}{r:Value}{F:Flat}
section
variable {x y:Operand}
theorem WO.Iu [ht:TT E t e sz α enc](hx:Ev l x (.slice a n c))(hy:Ev l y (eM))(hh:kr Γ L a n sz (ai (sz:=sz) w))(hi:0<w.length)(k:∀n,K (.bool false) L n n Z Z):WO E X Γ l (.binOp .eql t x y t2) L K:=λtm s hl h2=>by
 obtain⟨b,o,_,_,_,rfl,_⟩:=(hh.row h2).1.at_ hi;exact WO.bin (r:=.bool false) hx hy (λcc=>by
  show ob (gX E t) (λd=>Ai .eql (Z2 E d (.slice (some ⟨b,o,none⟩) n c) (eM)))=_;obtain⟨z,F1,_⟩:=ht.h;rw[F1.h.1];rfl) k tm s hl h2
theorem WO.af2 (hx:jY l xs vs)(h:∀s,yi E X g vs s b a c p a' c' q r F)(hp:nM (uH b a p.length c p a' q.length c' q) L R)
  (k:∀m m' a1 n1 c1 p1 a2 n2 c2 q2,iY L m->m<=m'->n1<=p1.length->p1.take n1=F.ad->n2<=q2.length->q2.take n2=F.ae->K r (uH b a1 n1 c1 p1 a2 n2 c2 q2++R) m m' (mV [] (uH b a p.length c p a' q.length c' q) m m') (mW (uH b a p.length c p a' q.length c' q) m m')):WC E X Γ l g xs ts L K:=
 WO.call (Lm:=uH b a p.length c p a' q.length c' q) (R:=R) (A:=[]) hx hp.cT (λs hi b hb=>by cases hb) (λs hi=>h s) (by rintro r' L' m m' ho hm ⟨rfl,a1,n1,c1,p1,a2,n2,c2,q2,h1,h2,h3,h4,rfl⟩;exact k m m' a1 n1 c1 p1 a2 n2 c2 q2 ho hm h1 h2 h3 h4)
end
theorem UP (s:St)(a:aS)(c:Nat)(p:List bE)(h0:0<p.length)(hp:p.length<=1000)(hr:bM s a p.length 2 (ai p)):eu bf bw 48 [.slice a p.length c] s (aj a) 52 p:=by
 have pL:=Rd.of (A:=aj a) hr λ_ hb=>hb
 refine aX f48 ?_;(repeat' (first|refine' aZ|((with_reducible apply WO.Iu);exact fS;exact fS;exact cD;exact lT;intro _)|((with_reducible apply WO.lit (α:=bE) (xs:=[]));exact zm;exact rfl;exact rfl;intro bl _)|refine' av|fail));all_goals try refine cI
 all_goals refine' jo
 all_goals rfl
theorem UQ (s:St)(a:aS)(c:Nat)(p:gD)(h0:0<p.length)(hp:p.length<=1000)(hr:bM s a p.length 3 (ai p)):eu bf bw 49 [.slice a p.length c] s (aj a) 54 p:=by
 have pL:=Rd.of (A:=aj a) hr λ_ hb=>hb
 refine aX f49 ?_;(repeat' (first|refine' aZ|((with_reducible apply WO.Iu);exact fS;exact fS;exact cD;exact lT;intro _)|((with_reducible apply WO.lit (α:=bS) (xs:=[]));exact zm;exact rfl;exact rfl;intro bl _)|refine' av|fail));all_goals try refine cI
 all_goals refine' jo
 all_goals rfl
theorem UR (s:St)(a:aS)(c:Nat)(p:List bE)(a':aS)(c':Nat)(q:gD)(hp:0<p.length/\p.length<=1000)(hq:0<q.length/\q.length<=1000)(h1:bM s a p.length 2 (ai p))(h2:bM s a' q.length 3 (ai q)):
  FC 19 [.agg ⟨qb a c p a' c' q⟩] s [] (aj a++aj a') λR L=>∃b d b' d',R= .agg ⟨qb b d p b' d' q⟩/\L=[j4 b d p,pw b' d' q]:=by
 have hd1:Rd ⟨s,([]:dy).flatMap It.cr,aj a++aj a'⟩ a p.length 2 (ai p):=Rd.of h1 λ_ hb=>cA _ hb
 refine' zbk;refine aX f19 ?_;(repeat' (first|refine' aZ|((with_reducible apply WO.Jo);exact aD;exact λs hr=>UP s _ _ _ af af hr;exact cD;intro _ _ ajm ajn _ _)|((with_reducible apply WO.Jo);exact aD;exact λs hr=>UQ s _ _ _ af af hr;exact cD;intro _ _ ajo ajp _ _)|refine' av|fail));all_goals exact⟨cy,_,_,bY,au,_,_,_,_,rfl,rfl⟩
def o9 (f:Flat)(o:Op):Flat×Int:=if kV o=true then(if mM f.ad f.ae o=0 then(RQ f.ad f.ae o,0) else(f,mM f.ad f.ae o)) else(f,1)
structure DoV (p:List bE)(q:gD)(o:Op):Prop where
 V:Kg p q
 tx:∀x∈q,x.a8.length<=5000
 z:o.ag∈Ev.dL
 y:o.to∈Ev.dL
 th:mM p q o=0->o.kind=3\/o.kind=4->∃t,pc q (ia p o.ag)=some t
 P1:kV o=true->mM p q o=0->1<=(AX p q o).1.length
 Q1:kV o=true->mM p q o=0->1<=(AX p q o).2.length
 Pa:kV o=true->mM p q o=0->Ev.xD (AX p q o).1=true
 Qa:kV o=true->mM p q o=0->Ev.xE (AX p q o).2=true
theorem Ff:∀z∈Ev.dL,z.length<=3000:=by decide
theorem NI (s:St)(b:Nat)(a:aS)(c:Nat)(a':aS)(c':Nat)(f:Flat)(o:Op)(hD:DoV f.ad f.ae o):yi bf bw 20 [bk b,ov o] s b a c f.ad a' c' f.ae (iv (o9 f o).2) (o9 f o).1:=by
 have ZE:∀s,bL 18 [ov o] s [] (.bool (kV o)):=λs=>Ny s o hD.z hD.y
 unfold o9;cases gd:kV o with
 |false=>
  rw[gd] at ZE;rw[if_neg iB];obtain⟨kd,pa,tq9,at_,tx⟩:=o;have og:=ZE;refine aX f20 ?_;dsimp only[uH];repeat' (first|refine' aZ|refine' RC|refine' av|fail)
  all_goals refine' zbm
 |true=>
  rw[gd] at ZE;rw[if_pos rfl];obtain⟨h1,h2,Te,h4,h5⟩:=mP gd;have h3:o.kind=7->aT o.to=true:=λe=>Te (.inr e)
  have af3:∀s,iW s b a c f.ad a' c' f.ae->bL 50 [UJ b,ov o] s (rD b a a') (iv (mM f.ad f.ae o)):=λs hr=>Qh s b a c f.ad a' c' f.ae hD.V o hD.z hD.y h1 h2 h3 h4 h5 hr
  by_cases h0:mM f.ad f.ae o=0
  .rw[if_pos h0];rw[h0] at af3;have ami:∀s,yi bf bw 51 [bk b,ov o] s b a c f.ad a' c' f.ae (.tuple ⟨[]⟩) (RQ f.ad f.ae o):=λs=>ajj s b a c f.ad a' c' f.ae hD.V o (Ff _ hD.z) (Ff _ hD.y) h1 h4 h5 hD.tx (hD.th h0) (hD.P1 gd h0) (hD.Q1 gd h0) (hD.Pa gd h0) (hD.Qa gd h0)
   generalize RQ f.ad f.ae o=F at *
   obtain⟨kd,pa,tq9,at_,tx⟩:=o;have og:=ZE;have V5:∀s,iW s b a c f.ad a' c' f.ae->bL 50 [UJ b,ov ⟨kd,pa,tq9,at_,tx⟩] s (rD b a a') (iv 0):=af3;have jM:=ami;refine aX f20 ?_;dsimp only[uH];(repeat' (first|refine' aZ|refine' RC|refine' adm|((with_reducible apply WO.Hf);exact fS;intro _)|((with_reducible apply WO.af2);exact aD;(intro s;exact jM s);exact dU;intro _ _ anh ani anj ank anl anm ann ano _ _ ajq ajr ajs ajt)|refine' av|fail));(all_goals try refine cI);all_goals exact⟨cy,_,_,bY,au,rfl,_,_,_,_,_,_,_,_,ajq,ajr,ajs,ajt,rfl⟩
  .rw[if_neg h0];generalize mM f.ad f.ae o=cd at *
   obtain⟨kd,pa,tq9,at_,tx⟩:=o;have og:=ZE;have V5:=af3;refine aX f20 ?_;dsimp only[uH];(repeat' (first|refine' aZ|refine' RC|refine' adm|((with_reducible apply WO.Hf);exact fS;intro _)|refine' av|fail));all_goals refine' zbm
end Go.Pl
namespace Go.Pl
open Go.Lg
variable {z:aC}{q:gD}{n:Int}
structure OkG (p:List bE)(q:gD):Prop where
 tl:1<=q.length/\q.length<=16
 st:ik q
 t0:∃x∈q,x.id=0/\x.aN=true
 tx:∀x∈q,(0<=x.id/\x.id<=15)/\(x.aN=true->x.a8=[])/\x.a8.length<=192
 sn:l5 p
 nr:(⟨[47],0⟩:bE)∈p
 th:∀x∈p,(pc q x.id).isSome=true
 up:∀x∈p,x.ag≠[47]->aV (aw x.ag).2=true/\∃w∈p,w.ag=(aw x.ag).1/\lH q w.id=true
 ct:∀n,xb p n<=9
 cf:∀n,lH q n=true->xb p n<=1
 cn:∀z,(p.countP λx=>decide (x.ag≠[47])&&decide ((aw x.ag).1=z))<=12
 al:∀x∈q,∃w∈p,w.id=x.id
theorem Sc:∀(s:aC)(t:Nat),t<s.length->bO (s.take t) s=true
 |[],t,h=>by simp at h
 |c::s,0,_=>rfl
 |c::s,t+1,h=>by
  rw[x_5,qy,if_neg (CV _),if_neg (CV _)];exact Sc s t (by simpa using h)
theorem NJ (h:aV (aw z).2=true):bO (aw z).1 z=true:=by
 unfold aw at h⊢;cases hl:dM z with
 |none=>rw[hl] at h;cases h
 |some t=>
  rw[hl] at h;have dz:=pZ z t hl;have h:aV (z.drop (t+1))=true:=h;have gh:z.drop (t+1)≠[]:=λe=>by rw[e] at h;cases h
  have ur:t+1<z.length:=by
   refine nP λhn=>gh (Ac af)
  exact Sc z (max t 1) af
theorem Kj (p:List bE)(n:Int):xb p n=cL p p.length n:=(p9 (λx:bE=>decide (x.id=n)) cR p).symm
theorem Kk {p:List bE}(hr:p.getD 0 cR=⟨[47],0⟩)(h0:∀j,1<=j->j<p.length->(p.getD j cR).ag≠[47])(z:aC):(p.countP λx=>decide (x.ag≠[47])&&decide ((aw x.ag).1=z))=cN p p.length z:=by
 unfold cN;rw[<-p9 (λx:bE=>decide (x.ag≠[47])&&decide ((aw x.ag).1=z)) cR p];refine GB λj hj=>?_
 have hj:=kF.1 hj;by_cases hj0:j=0
 .subst hj0;rw[hr];simp
 .have:=h0 j af hj;rw[du this,du (show 1<=j by omega)]
theorem kE.g {f:Flat}(h:kE f):OkG f.ad f.ae:=by
 have uC:∀x∈f.ad,∃j,j<f.ad.length/\x=f.ad.getD j cR:=λx hx=>by
  obtain⟨j,hj,rfl⟩:=jO hx;exact⟨j,hj,by rw[a7,bc hj];rfl⟩
 have adQ:∀x∈f.ae,∃j,j<f.ae.length/\x=f.ae.getD j fO:=λx hx=>by
  obtain⟨j,hj,rfl⟩:=jO hx;exact⟨j,hj,by rw[a7,bc hj];rfl⟩
 refine' za6;refine⟨⟨h.q1,h.q16⟩,h.st,⟨_,dG fO h.q1,h.t0,h.tf⟩,λx hx=>?_,h.sn,by rw[<-h.nr];exact dG cR h.n1,λx hx=>?_,λx hx vO=>?_,λn=>?_,λn hn=>?_,λz=>?_,λx hx=>?_⟩
 .obtain⟨j,hj,rfl⟩:=adQ x hx;have:=h.tb j hj;unfold tB fM at this;simp only[bI,bR,rU,Ab,mQ] at this;refine⟨this.1.1.1,λhf=>?_,af⟩;rcases this.1.2 with h1|h1
  .rw[hf] at h1;cases h1
  .exact Classical.not_not.1 h1
 .obtain⟨j,hj,rfl⟩:=uC x hx;exact(h.nm j hj).1
 .obtain⟨j,hj,rfl⟩:=uC x hx;have h1:1<=j:=by
   (refine nP λhn=>vO ?_);rw[show j=0 by omega,h.nr]
  obtain⟨m,hm,FE,hf,hp⟩:=h.par h1 hj;exact⟨((h.nm j hj).2.1 h1).2.2.1,_,dG cR (show m<f.ad.length by omega),hp,hf⟩
 .rw[Kj];exact ET _ λj hj hid=>by rw[<-hid];exact(h.nm j hj).2.2.1
 .rw[Kj];refine ET _ λj hj hid=>?_
  rw[<-hid];refine(h.nm j hj).2.2.2 ?_;rw[<-h.fld,hid];exact hn
 .rw[Kk h.nr gh];exact PS _ λj h1 hj hz=>by rw[<-hz];exact((h.nm j hj).2.1 h1).2.2.2
 .obtain⟨j,hj,rfl⟩:=adQ x hx;obtain⟨k,hk,hid⟩:=h.al j hj;exact⟨_,dG cR hk,hid⟩
theorem OkG.f {p:List bE}(h:OkG p q):kE ⟨p,q⟩:=by
 have Tf:0<p.length:=KN h.nr;have hgm:∀j,j<p.length->p.getD j cR∈p:=λj hj=>dG cR hj
 have dz:∀i j,j<p.length->i<j->bO (p.getD i cR).ag (p.getD j cR).ag=true:=λi j hj nI=>qz h.sn cR nI hj
 have NK:p.getD 0 cR=⟨[47],0⟩:=by
  obtain⟨j,hj,hje⟩:=jO h.nr;have hje:p.getD j cR=⟨[47],0⟩:=by rw[a7,bc hj];exact hje
  by_cases hj0:j=0
  .rw[<-hj0];exact hje
  .exfalso;have h1:=dz 0 j hj af;rw[hje] at h1;have h2:(p.getD 0 cR).ag≠[47]:=nk h1;obtain⟨h3,w,hw,Sd,_⟩:=h.up _ (hgm 0 Tf) h2;have h4:=NJ h3;rw[<-Sd] at h4;obtain⟨m,hm,rfl⟩:=jO hw;by_cases B4:m=0
   .subst B4;rw[a7,bc Tf] at h4;have h4:bO p[0].ag p[0].ag=true:=h4;rw[kb] at h4;cases h4
   .have h5:=dz 0 m hm af;rw[show p.getD m cR=p[m] by rw[a7,bc hm];rfl] at h5;have:=DB h5;rw[h4] at this;cases this
 have gh:∀j,1<=j->j<p.length->(p.getD j cR).ag≠[47]:=λj h1 hj e=>by
  have:=dz 0 j hj af;rw[NK,e,kb] at this;cases this
 obtain⟨x0,vO,aju,amj⟩:=h.t0;have hq0:(q.getD 0 fO).id=0/\(q.getD 0 fO).aN=true:=by
  obtain⟨j,hj,rfl⟩:=jO vO;have e:q.getD j fO=q[j]:=by rw[a7,bc hj];rfl
  by_cases hj0:j=0
  .subst hj0;rw[e];exact⟨aju,amj⟩
  .exfalso;have h1:=qz h.st fO (show 0<j by omega) hj;rw[e,aju] at h1;have:=(h.tx _ (dG fO (show 0<q.length by omega))).1.1;omega
 refine⟨by have:=h.tl;show fM (q.length:Int) 1 16=true;unfold fM;simp only[bI,bR];omega,hq0.1,hq0.2,λi hi=>?_,by show p.length≠0;omega,NK,λi hi=>⟨h.th _ (hgm i hi),λh1=>?_,?_,λhf=>?_⟩,λi hi=>?_⟩
 .have h1:=h.tx _ (dG fO hi);unfold tB fM;simp only[bI,bR,rU,Ab,mQ];refine⟨⟨⟨h1.1,?_⟩,?_⟩,af⟩
  .by_cases rC:0<i
   .right
    have:=qz h.st fO (show i-1<i by omega) hi;omega
   .exact .inl rC
  .cases hb:(q.getD i fO).aN with
   |false=>exact .inl rfl
   |true=>exact .inr (λe=>e (h1.2.1 hb))
 .obtain⟨h3,w,hw,Sd,KA⟩:=h.up _ (hgm i hi) (gh i h1 hi);have h4:=NJ h3;obtain⟨m,hm,rfl⟩:=jO hw;have e:p.getD m cR=p[m]:=by rw[a7,bc hm];rfl
  have hmi:m<i:=by
   (refine nP λhn=>?_);rw[<-Sd,<-e] at h4;rcases lq i m with FJ|hge
   .have:=DB (dz i m hm FJ);rw[h4] at this;cases this
   .have:m=i:=by omega
    subst this;rw[kb] at h4;cases h4
  refine⟨dz (i-1) i hi af,⟨m,hmi,by rw[e];exact Sd,?_⟩,h3,?_⟩
  .show lH q (p.getD m cR).id=true;rw[e];exact KA
  .refine gu (RN p _ (show i+1<=p.length by exact hi)) ?_;rw[<-Kk NK gh];exact h.cn _
 .refine gu (CK p _ (show i+1<=p.length by exact hi)) ?_;rw[<-Kj];exact h.ct _
 .refine gu (CK p _ (show i+1<=p.length by exact hi)) ?_;rw[<-Kj];exact h.cf _ hf
 .obtain⟨w,hw,hid⟩:=h.al _ (dG fO hi);obtain⟨m,hm,rfl⟩:=jO hw;exact⟨m,hm,by show(p.getD m cR).id=_;rw[a7,bc hm];exact hid⟩
theorem yj (P:bE->Bool):∀(l:List bE)(e:bE),(Flat.tI l e).countP P=l.countP P+if P e=true then 1 else 0
 |[],e=>by unfold Flat.tI;rw[iA]
 |y::l,e=>by
  unfold Flat.tI;split
  .rw[iA,iA]
  .rw[iA,yj P l e,iA];omega
theorem A7:∀(l:gD)(e:bS),(Flat.wG l e).length=l.length+1
 |[],e=>rfl
 |x::l,e=>by
  unfold Flat.wG;split
  .rw[cU,A7 l e,cU]
  .rfl
theorem zT:(pc q n).isSome=true↔∃y∈q,y.id=n:=by unfold pc;rw[List.findIdx?_isSome,Gx];simp
theorem nH (hs:ik q):lH q n=true↔∃y∈q,y.id=n/\y.aN=true:=by
 unfold lH;cases ht:pc q n with
 |none=>
  refine⟨λe=>(by cases e),λ⟨y,hy,hi,_⟩=>?_⟩;have:=zT.2 ⟨y,hy,hi⟩;rw[ht] at this;cases this
 |some t=>
  obtain⟨h1,h2⟩:=AV ht;refine⟨λe=>⟨_,dG fO h1,h2,e⟩,λ⟨y,hy,hi,hf⟩=>?_⟩;obtain⟨j,hj,rfl⟩:=jO hy;have e:q.getD j fO=q[j]:=by rw[a7,bc hj];rfl
  have:=JW hs hj;rw[e,hi,ht] at this;cases this
  show(q.getD t fO).aN=true;rw[e];exact hf
theorem qI:∀z∈Ev.dL,aT z=true->z≠[47]->aV (aw z).2=true:=by decide
theorem OkG.make {p:List bE}(h:OkG p q)(hz:aV (aw z).2=true)(hn:vT p z=none){w:bE}(hw:w∈p)(Sd:w.ag=(aw z).1)(KA:lH q w.id=true)(vJ:0<=n/\n<=15)(OB:pc q n=none)(hc:(p.countP λx=>decide (x.ag≠[47])&&decide ((aw x.ag).1=(aw z).1))<12)(fo:Bool):OkG (Flat.tI p ⟨z,n⟩) (Flat.wG q ⟨n,fo,[]⟩):=by
 have jz:ik (Flat.wG q ⟨n,fo,[]⟩):=AZ q ⟨n,fo,[]⟩ h.st (CL (f:=⟨p,q⟩) OB);have amk:∀x∈p,x.id≠n:=λx hx e=>by
  have:=h.th x hx;rw[e,OB] at this;cases this
 have AB:∀m,m≠n->lH (Flat.wG q ⟨n,fo,[]⟩) m=true->lH q m=true:=λm hm hf=>by
  obtain⟨y,hy,hi,hyf⟩:=(nH jz).1 hf;rcases(km _ _ _).1 hy with rfl|hy
  .exact absurd hi.symm hm
  .exact(nH h.st).2 ⟨y,hy,hi,hyf⟩
 have af1:∀m,lH q m=true->lH (Flat.wG q ⟨n,fo,[]⟩) m=true:=λm hf=>by
  obtain⟨y,hy,hi,hyf⟩:=(nH h.st).1 hf;exact(nH jz).2 ⟨y,(km _ _ _).2 (.inr hy),hi,hyf⟩
 have cX:q.length<16:=by
  have h1:=qa (q.map bS.id) (((List.range 16).map λ(k:Nat)=>(k:Int)).erase n) h.st.nodup λm hm=>by
   obtain⟨y,hy,rfl⟩:=lp.1 hm;have h2:=(h.tx y hy).1;refine(Vw (CL (f:=⟨p,q⟩) OB y hy)).2 (lp.2 ⟨y.id.toNat,kF.2 af,af⟩)
  rw[uI,Vx (lp.2 ⟨n.toNat,kF.2 af,af⟩),uI,QD] at h1;omega
 have LX:∀m,xb (Flat.tI p ⟨z,n⟩) m=xb p m+if n=m then 1 else 0:=λm=>by
  unfold xb;rw[yj];simp
 have ajv:xb p n=0:=uO.2 λx hx e=>amk x hx (by simpa using e)
 refine⟨⟨by rw[A7];omega,by rw[A7];omega⟩,jz,?_,λx hx=>?_,AY p ⟨z,n⟩ h.sn (ue (f:=⟨p,q⟩) hn),(jr _ _ _).2 (.inr h.nr),λx hx=>?_,λx hx vO=>?_,λm=>?_,λm hm=>?_,λy=>?_,λx hx=>?_⟩
 .obtain⟨x,hx,h1⟩:=h.t0;exact⟨x,(km _ _ _).2 (.inr hx),h1⟩
 .rcases(km _ _ _).1 hx with rfl|hx
  .exact⟨vJ,λ_=>rfl,ay⟩
  .exact h.tx x hx
 .rw[zT];rcases(jr _ _ _).1 hx with rfl|hx
  .exact⟨_,(km _ _ _).2 (.inl rfl),rfl⟩
  .obtain⟨y,hy,hi⟩:=zT.1 (h.th x hx);exact⟨y,(km _ _ _).2 (.inr hy),hi⟩
 .rcases(jr _ _ _).1 hx with rfl|hx
  .exact⟨hz,w,(jr _ _ _).2 (.inr hw),Sd,af1 _ KA⟩
  .obtain⟨h1,v,hv,hvp,hvf⟩:=h.up x hx vO;exact⟨h1,v,(jr _ _ _).2 (.inr hv),hvp,af1 _ hvf⟩
 .rw[LX];by_cases hm:n=m
  .rw[if_pos hm,<-hm,ajv];omega
  .rw[if_neg hm];exact h.ct m
 .rw[LX];by_cases FE:n=m
  .rw[if_pos FE,<-FE,ajv];omega
  .rw[if_neg FE];exact h.cf m (AB m (λe=>FE e.symm) hm)
 .rw[yj];by_cases hy:(aw z).1=y
  .rw[<-hy];split<;>omega
  .have hz2:¬((decide ((⟨z,n⟩:bE).ag≠[47])&&decide ((aw (⟨z,n⟩:bE).ag).1=y))=true):=by
    rw[bI,bR,bR];exact λe=>hy e.2
   rw[if_neg hz2];exact h.cn y
 .rcases(km _ _ _).1 hx with rfl|hx
  .exact⟨_,(jr _ _ _).2 (.inl rfl),rfl⟩
  .obtain⟨v,hv,hi⟩:=h.al x hx;exact⟨v,(jr _ _ _).2 (.inr hv),hi⟩
variable {f:Flat}{o:Op}
theorem yQ (h:kE f)(ho:kV o=true)(hk:o.kind=1\/o.kind=2)(h0:mM f.ad f.ae o=0):RQ f.ad f.ae o=⟨Flat.tI f.ad ⟨o.ag,f.fw⟩,Flat.wG f.ae ⟨f.fw,decide (o.kind=2),[]⟩⟩/\f.fw<16/\vT f.ad o.ag=none/\o.ag≠[47]/\(∃k,vT f.ad (bW o.ag).1=some k/\vB f.ad f.ae k=true)/\f.vR (bW o.ag).1<12:=by
 obtain⟨_,h3,_⟩:=mP ho;have ha:mM f.ad f.ae o=xc f.ad f.ae o.ag (decide (Ci f.ae 16 0<0)):=by unfold mM;exact if_pos hk
 rw[ha,J8 h h3] at h0;have hf:¬0<f.cu o.ag:=λe=>by rw[if_pos e] at h0;omega
 rw[if_neg hf] at h0;obtain⟨g1,g2,g3⟩:=ud hf;have hr:=ajg f;have dz:f.fw<16:=by
  refine nP λhh=>?_
  rw[if_neg hh] at hr;rw[hr] at h0;have:(if decide ((-1:Int)<0)=true\/12<=f.vR (bW o.ag).1 then(6:Int) else 0)=6:=if_pos (.inl bT);rw[this] at h0;cases h0
 rw[if_pos dz] at hr;have Ar:f.vR (bW o.ag).1<12:=by
  refine nP λhh=>?_
  have:(if decide (Ci f.ae 16 0<0)=true\/12<=f.vR (bW o.ag).1 then(6:Int) else 0)=6:=if_pos (.inr af);rw[this] at h0;cases h0
 refine⟨?_,dz,g1,g2,g3,Ar⟩;have hJ:AX f.ad f.ae o=(f.ad++[⟨o.ag,Ci f.ae 16 0⟩],f.ae++[⟨Ci f.ae 16 0,decide (o.kind=2),[]⟩]):=by
  unfold AX;exact if_pos hk
 unfold RQ;rw[hJ,hr];dsimp only;rw[PU h.sn (ue g1),PV h.st (CL (n:=(f.fw:Int)) (zO f).1)]
theorem ab8 (h:kE f)(ho:kV o=true)(hz:o.ag∈Ev.dL)(hk:o.kind=1\/o.kind=2)(h0:mM f.ad f.ae o=0):kE (RQ f.ad f.ae o)/\ia (RQ f.ad f.ae o).ad o.ag=(f.fw:Int):=by
 obtain⟨e,h1,h2,h3,⟨k,h4,h5⟩,h6⟩:=yQ h ho hk h0;obtain⟨_,hp,_⟩:=mP ho;obtain⟨Of,KB⟩:=h.J6 h4;have FE:=qI _ hz hp h3;have hsp:=rB FE;have gh:∀j,1<=j->j<f.ad.length->(f.ad.getD j cR).ag≠[47]:=λj h1 hj e=>by
  have:=h.Gj hj;rw[e,h.cG] at this;cases this;omega
 have hcn:(f.ad.countP λx=>decide (x.ag≠[47])&&decide ((aw x.ag).1=(aw o.ag).1))<12:=by
  rw[Kk h.nr gh,<-h.abU,<-hsp];exact h6
 have hg:=h.g.make (z:=o.ag) FE h2 (w:=f.ad.getD k cR) (dG cR Of) (by rw[KB,hsp]) (by rw[h.fld];exact h5) (n:=(f.fw:Int)) af (zO f).1 hcn (decide (o.kind=2));rw[e];have hF:=hg.f;refine⟨hF,?_⟩;have hm:(⟨o.ag,f.fw⟩:bE)∈Flat.tI f.ad ⟨o.ag,f.fw⟩:=(jr _ _ _).2 (.inl rfl);obtain⟨j,hj,hje⟩:=jO hm;have hjd:(Flat.tI f.ad ⟨o.ag,f.fw⟩).getD j cR=⟨o.ag,f.fw⟩:=by rw[a7,bc hj];exact hje
 have:=hF.Gj hj;rw[show(⟨Flat.tI f.ad ⟨o.ag,f.fw⟩,Flat.wG f.ae ⟨f.fw,decide (o.kind=2),[]⟩⟩:Flat).ad.getD j cR=⟨o.ag,f.fw⟩ from hjd] at this;rw[hF.uc this];show((Flat.tI f.ad ⟨o.ag,f.fw⟩).getD j cR).id=_;rw[hjd]
def uf (z:aC)(x:bE):Bool:=decide (x.ag≠[47])&&decide ((aw x.ag).1=z)
structure Qi (p:List bE)(q:gD):Prop where
 tl:1<=q.length/\q.length<=16
 st:(q.map bS.id).Nodup
 t0:∃x∈q,x.id=0/\x.aN=true
 tx:∀x∈q,(0<=x.id/\x.id<=15)/\(x.aN=true->x.a8=[])/\x.a8.length<=192
 sn:(p.map bE.ag).Nodup
 nr:(⟨[47],0⟩:bE)∈p
 th:∀x∈p,∃y∈q,y.id=x.id
 up:∀x∈p,x.ag≠[47]->aV (aw x.ag).2=true/\∃w∈p,w.ag=(aw x.ag).1/\∃y∈q,y.id=w.id/\y.aN=true
 ct:∀n,xb p n<=9
 cf:∀y∈q,y.aN=true->xb p y.id<=1
 cn:∀z,p.countP (uf z)<=12
 al:∀x∈q,∃w∈p,w.id=x.id
theorem OkG.p {p:List bE}(h:OkG p q):Qi p q:=
 ⟨h.tl,h.st.nodup,h.t0,h.tx,h.sn.nodup,h.nr,λx hx=>zT.1 (h.th x hx),λx hx vO=>by
   obtain⟨h1,w,hw,hp,hf⟩:=h.up x hx vO;exact⟨h1,w,hw,hp,(nH h.st).1 hf⟩,h.ct,λy hy hf=>h.cf _ ((nH h.st).2 ⟨y,hy,rfl,hf⟩),h.cn,h.al⟩
theorem Iv (x:bE):∀l:List bE,(Ev.wH x l).Perm (x::l)
 |[]=>.refl _
 |y::l=>by
  unfold Ev.wH;split
  .exact .refl _
  .exact((Iv x l).cons y).trans (.swap x y l)
theorem ug:∀l:List bE,(Ev.jV l).Perm l
 |[]=>.refl _
 |x::l=>(Iv x (Ev.jV l)).trans ((ug l).cons x)
theorem Iw (x:bS):∀l:gD,(Ev.wI x l).Perm (x::l)
 |[]=>.refl _
 |y::l=>by
  unfold Ev.wI;split
  .exact .refl _
  .exact((Iw x l).cons y).trans (.swap x y l)
theorem yk:∀l:gD,(Ev.jW l).Perm l
 |[]=>.refl _
 |x::l=>(Iw x (Ev.jW l)).trans ((yk l).cons x)
theorem Qi.g {p:List bE}(h:Qi p q):OkG (Ev.jV p) (Ev.jW q):=by
 have hs:=tZ q h.st;have hl:=(yk q).length_eq;have hc:∀P,(Ev.jV p).countP P=p.countP P:=λP=>(ug p).countP_eq P
 have vu:∀n,lH (Ev.jW q) n=true↔∃y∈q,y.id=n/\y.aN=true:=λn=>by
  rw[nH hs];constructor
  .rintro⟨y,hy,h1⟩;exact⟨y,(kj q y).1 hy,h1⟩
  .rintro⟨y,hy,h1⟩;exact⟨y,(kj q y).2 hy,h1⟩
 refine⟨by rw[hl];exact h.tl,hs,?_,λx hx=>h.tx x ((kj q x).1 hx),tY p h.sn,(ki p _).2 h.nr,λx hx=>?_,λx hx vO=>?_,λn=>?_,λn hn=>?_,λz=>?_,λx hx=>?_⟩
 .obtain⟨x,hx,h1⟩:=h.t0;exact⟨x,(kj q x).2 hx,h1⟩
 .obtain⟨y,hy,h1⟩:=h.th x ((ki p x).1 hx);exact zT.2 ⟨y,(kj q y).2 hy,h1⟩
 .obtain⟨h1,w,hw,h2,h3⟩:=h.up x ((ki p x).1 hx) vO;exact⟨h1,w,(ki p w).2 hw,h2,(vu _).2 h3⟩
 .unfold xb;rw[hc];exact h.ct n
 .obtain⟨y,hy,rfl,h2⟩:=(vu n).1 hn;unfold xb;rw[hc];exact h.cf y hy h2
 .rw[hc];exact h.cn z
 .obtain⟨w,hw,h1⟩:=h.al x ((kj q x).1 hx);exact⟨w,(ki p w).2 hw,h1⟩
theorem Qi.a8 {p:List bE}(h:Qi p q){t:Nat}(ht:t<q.length)(hf:(q.getD t fO).aN=false){s:aC}(hs:s.length<=192):Qi p (q.set t ⟨(q.getD t fO).id,(q.getD t fO).aN,s⟩):=by
 have hgd:=dG fO ht;have hid:(q.set t ⟨(q.getD t fO).id,(q.getD t fO).aN,s⟩).map bS.id=q.map bS.id:=by
  rw[List.map_set];refine List.ext_getElem (by rw[gy]) λi h1 h2=>?_
  rw[List.getElem_set];split
  .rename_i e;subst e;rw[List.getElem_map,a7,bc ht];rfl
  .rfl
 have h1:∀y∈q.set t ⟨(q.getD t fO).id,(q.getD t fO).aN,s⟩,∃x∈q,x.id=y.id/\x.aN=y.aN:=λy hy=>by
  rcases Gz hy with hy|rfl
  .exact⟨y,hy,rfl,rfl⟩
  .exact⟨_,hgd,rfl,rfl⟩
 have h2:∀x∈q,∃y∈q.set t ⟨(q.getD t fO).id,(q.getD t fO).aN,s⟩,y.id=x.id/\y.aN=x.aN:=λx hx=>by
  obtain⟨i,hi,rfl⟩:=jO hx;by_cases hit:i=t
  .subst hit;refine⟨_,List.mem_set hi _,?_⟩;rw[a7,bc ht];exact⟨rfl,rfl⟩
  .refine⟨(q.set t ⟨(q.getD t fO).id,(q.getD t fO).aN,s⟩)[i]'(by rw[gy];exact hi),rX _,?_⟩;rw[List.getElem_set_ne (λe=>hit e.symm)];exact⟨rfl,rfl⟩
 refine⟨by rw[gy];exact h.tl,by rw[hid];exact h.st,?_,λx hx=>?_,h.sn,h.nr,λx hx=>?_,λx hx vO=>?_,h.ct,λy hy hyf=>?_,h.cn,λx hx=>?_⟩
 .obtain⟨x,hx,h3,h4⟩:=h.t0;obtain⟨y,hy,h5,h6⟩:=h2 x hx;exact⟨y,hy,by rw[h5,h3],by rw[h6,h4]⟩
 .rcases Gz hx with hx|rfl
  .exact h.tx x hx
  .exact⟨(h.tx _ hgd).1,λe=>(by rw[show(q.getD t fO).aN=true from e] at hf;cases hf),hs⟩
 .obtain⟨y,hy,h3⟩:=h.th x hx;obtain⟨y',xy,h5,_⟩:=h2 y hy;exact⟨y',xy,by rw[h5,h3]⟩
 .obtain⟨h3,w,hw,h4,y,hy,h5,h6⟩:=h.up x hx vO;obtain⟨y',xy,h7,h8⟩:=h2 y hy;exact⟨h3,w,hw,h4,y',xy,by rw[h7,h5],by rw[h8,h6]⟩
 .obtain⟨x,hx,h3,h4⟩:=h1 y hy;rw[<-h3];exact h.cf x hx (by rw[h4,hyf])
 .obtain⟨y,hy,h3,_⟩:=h1 x hx;rw[<-h3];exact h.al y hy
theorem NL (p:List bE)(z:aC)(n m:Int):xb (p++[⟨z,n⟩]) m=xb p m+if n=m then 1 else 0:=by unfold xb;rw[Bk,List.countP_singleton];simp
theorem ZF (h:(q.map bS.id).Nodup){x y:bS}(hx:x∈q)(hy:y∈q)(e:x.id=y.id):x=y:=by
 refine' zbl
 .exact absurd e (uk.1 h i j hi hj nI)
 .subst nI;rfl
 .exact absurd e.symm (uk.1 h j i hj hi nI)
theorem Fg {p:List bE}(h:(p.map bE.ag).Nodup){x y:bE}(hx:x∈p)(hy:y∈p)(e:x.ag=y.ag):x=y:=by
 refine' zbl
 .exact absurd e (uk.1 h i j hi hj nI)
 .subst nI;rfl
 .exact absurd e.symm (uk.1 h j i hj hi nI)
theorem Qi.link {p:List bE}(h:Qi p q){z:aC}(hz:aV (aw z).2=true)(hn:∀x∈p,x.ag≠z){w:bE}(hw:w∈p)(Sd:w.ag=(aw z).1)(KA:∃y∈q,y.id=w.id/\y.aN=true){t:bS}(ht:t∈q)(htf:t.aN=false)(hl:xb p t.id<9)(hc:p.countP (uf (aw z).1)<12):Qi (p++[⟨z,t.id⟩]) q:=by
 refine⟨h.tl,h.st,h.t0,h.tx,oA bE.ag h.sn hn,cA _ h.nr,λx hx=>?_,λx hx vO=>?_,λn=>?_,λy hy hyf=>?_,λy=>?_,λx hx=>?_⟩
 .rcases eW.1 hx with hx|hx
  .exact h.th x hx
  .rw[fJ] at hx;subst hx;exact⟨t,ht,rfl⟩
 .rcases eW.1 hx with hx|hx
  .obtain⟨h1,v,hv,h2⟩:=h.up x hx vO;exact⟨h1,v,cA _ hv,h2⟩
  .rw[fJ] at hx;subst hx;exact⟨hz,w,cA _ hw,Sd,KA⟩
 .rw[NL];by_cases hm:t.id=n
  .rw[if_pos hm,<-hm];omega
  .rw[if_neg hm];exact h.ct n
 .rw[NL,if_neg]
  .exact h.cf y hy hyf
  .intro e;have:=ZF h.st ht hy e;rw[this,hyf] at htf;cases htf
 .rw[Bk,List.countP_singleton];by_cases hy:(aw z).1=y
  .rw[<-hy];split<;>omega
  .have h2:¬uf y ⟨z,t.id⟩=true:=by
    unfold uf;rw[bI,bR,bR];exact λe=>hy e.2
   rw[if_neg h2];exact h.cn y
 .obtain⟨v,hv,hi⟩:=h.al x hx;exact⟨v,cA _ hv,hi⟩
theorem Qi.drop {p:List bE}(h:Qi p q){e:bE}(he:e∈p)(hz:e.ag≠[47])(h0:e.id≠0)(hk:p.countP (uf e.ag)=0):Qi (Ia p q e.ag e.id).1 (Ia p q e.ag e.id).2:=by
 unfold Ia;dsimp only;have jf:(p.filter λx=>!decide (x.ag=e.ag)).Sublist p:=Gy;have US:∀P,(p.filter λx=>!decide (x.ag=e.ag)).countP P<=p.countP P:=λP=>jf.countP_le
 have IV:∀x,x∈p.filter (λx=>!decide (x.ag=e.ag))↔x∈p/\x.ag≠e.ag:=λx=>by
  rw[rW];simp
 have hup:∀x∈p,x.ag≠[47]->aV (aw x.ag).2=true/\∃w∈p.filter (λx=>!decide (x.ag=e.ag)),w.ag=(aw x.ag).1/\∃y∈q,y.id=w.id/\y.aN=true:=λx hx vO=>by
  obtain⟨h1,w,hw,h2,h3⟩:=h.up x hx vO;refine⟨h1,w,(IV w).2 ⟨hw,λe2=>?_⟩,h2,h3⟩;refine uO.1 hk x hx ?_;unfold uf;rw[bI,bR,bR];exact⟨vO,by rw[<-h2,e2]⟩
 have Lh:((p.filter λx=>!decide (x.ag=e.ag)).map bE.ag).Nodup:=List.Nodup.sublist (jf.map _) h.sn;have hnr:(⟨[47],0⟩:bE)∈p.filter (λx=>!decide (x.ag=e.ag)):=(IV _).2 ⟨h.nr,λe2=>hz e2.symm⟩;by_cases hl:xb (p.filter λx=>!decide (x.ag=e.ag)) e.id=0
 .rw[if_pos hl];have adR:(q.filter λx=>!decide (x.id=e.id)).Sublist q:=Gy;have UT:∀x,x∈q.filter (λx=>!decide (x.id=e.id))↔x∈q/\x.id≠e.id:=λx=>by
   rw[rW];simp
  have pR:∀x∈p.filter (λx=>!decide (x.ag=e.ag)),x.id≠e.id:=λx hx e2=>uO.1 hl x hx (by simpa using e2)
  obtain⟨x0,vO,h1,h2⟩:=h.t0;have B4:=(UT x0).2 ⟨vO,λe2=>h0 (by rw[<-e2,h1])⟩;refine⟨⟨KN B4,gu adR.length_le h.tl.2⟩,List.Nodup.sublist (adR.map _) h.st,⟨x0,B4,h1,h2⟩,λx hx=>h.tx x ((UT x).1 hx).1,Lh,hnr,λx hx=>?_,λx hx vO=>?_,λn=>gu (US _) (h.ct n),λy hy hf=>gu (US _) (h.cf y ((UT y).1 hy).1 hf),λz=>gu (US _) (h.cn z),λx hx=>?_⟩
  .obtain⟨y,hy,h3⟩:=h.th x ((IV x).1 hx).1;exact⟨y,(UT y).2 ⟨hy,λe2=>pR x hx (by rw[<-h3,e2])⟩,h3⟩
  .obtain⟨h3,w,hw,h4,y,hy,h5,h6⟩:=hup x ((IV x).1 hx).1 vO;exact⟨h3,w,hw,h4,y,(UT y).2 ⟨hy,λe2=>pR w hw (by rw[<-h5,e2])⟩,h5,h6⟩
  .obtain⟨hx,hxe⟩:=(UT x).1 hx;obtain⟨w,hw,hi⟩:=h.al x hx;refine⟨w,(IV w).2 ⟨hw,λe2=>hxe ?_⟩,hi⟩;rw[<-hi,Fg h.sn hw he e2]
 .rw[if_neg hl];refine⟨h.tl,h.st,h.t0,h.tx,Lh,hnr,λx hx=>h.th x ((IV x).1 hx).1,λx hx vO=>hup x ((IV x).1 hx).1 vO,λn=>gu (US _) (h.ct n),λy hy hf=>gu (US _) (h.cf y hy hf),λz=>gu (US _) (h.cn z),λx hx=>?_⟩;obtain⟨w,hw,hi⟩:=h.al x hx;by_cases hwe:w.ag=e.ag
  .obtain⟨v,hv,OG⟩:=GC.1 (Nat.pos_of_ne_zero hl);refine⟨v,hv,?_⟩;have OG:v.id=e.id:=by simpa using OG
   rw[OG,<-hi,Fg h.sn hw he hwe]
  .exact⟨w,(IV w).2 ⟨hw,hwe⟩,hi⟩
variable {r y:aC}
theorem Fh:∀(z r:aC)(s:Nat),dM r=some s->dM (z++r)=some (z.length+s)
 |[],r,s,h=>by rw[pF,h,kC,mS]
 |c::z,r,s,h=>by
  rw[yw];unfold dM;rw[Fh z r s h,cU];show some (z.length+s+1)=_
  congr 1;omega
theorem BY (r:aC):∃s,dM (47::r)=some s:=by
 unfold dM;cases dM r with
 |some j=>exact⟨j+1,rfl⟩
 |none=>exact⟨0,if_pos rfl⟩
theorem wz (hz:z≠[]){s:Nat}(hs:dM (47::r)=some s):((47::r).take s=[]\/((47::r).take s).getD 0 0=47)/\aw (z++47::r)=(z++(47::r).take s,(47::r).drop (s+1)):=by
 have hl:0<z.length:=nO.2 hz;refine⟨?_,?_⟩
 .cases s with
  |zero=>exact .inl rfl
  |succ s=>exact .inr rfl
 .unfold aw;rw[Fh z _ s hs];show(List.take (max (z.length+s) 1) (z++47::r),List.drop (z.length+s+1) (z++47::r))=_;rw[Nat.max_eq_left af,KI,rT af,List.drop_append,Ac af,pF,show z.length+s-z.length=s by omega,show z.length+s+1-z.length=s+1 by omega]
theorem Fi {x:aC}(h:aV (aw x).2=true):x=(aw x).1++47::(aw x).2\/((aw x).1=[47]/\x=47::(aw x).2):=by
 unfold aw at h⊢;cases hl:dM x with
 |none=>rw[hl] at h;cases h
 |some t=>
  have dz:=pZ x t hl;have pD:=wo x t hl;have hg:x[t]=47:=by
   rw[a7,bc dz] at pD;exact pD
  have oz:x=x.take t++47::x.drop (t+1):=by
   rw[<-hg,<-uQ dz,yy]
  by_cases ht:t=0
  .subst ht
   right
   refine⟨?_,by simpa using oz⟩;show List.take (max 0 1) x=_;rw[oz];rfl
  .left
   show x=List.take (max t 1) x++47::List.drop (t+1) x;rw[Nat.max_eq_left af];exact oz
theorem Fj {α:Type}{K A B:α->Bool}:∀l:List α,(∀x∈l,K x=true->A x=true\/B x=true)->l.countP K<=l.countP A+l.countP B
 |[],_=>iK _
 |x::l,h=>by
  have h1:=Fj l λy hy=>h y (iV _ hy)
  rw[iA,iA,iA];by_cases hK:K x=true
  .rw[if_pos hK];rcases h x ga hK with h2|h2<;>rw[if_pos h2]<;>split<;>omega
  .rw[if_neg hK];omega
theorem NM {p:List bE}(h:(p.map bE.ag).Nodup)(z:aC):(p.countP λx=>decide (x.ag=z))<=1:=by
 induction p with
 |nil=>exact iK _
 |cons x p ih=>
  rw[xg,yB] at h;rw[iA];by_cases hx:x.ag=z
  .rw[if_pos (by simpa using hx)];have:(p.countP λx=>decide (x.ag=z))=0:=uO.2 λy hy e=>h.1 (lp.2 ⟨y,hy,by rw[hx];simpa using e⟩)
   omega
  .rw[if_neg (by simpa using hx)];exact ih h.2
theorem A8:∀y∈Ev.dL,aT y=true->y≠[47]->y.take 2≠[47,47]/\2<=y.length/\(aw y).1.length<y.length/\(aw y).1≠[]:=by decide
theorem Qj:(Ev.dL.all λy=>Ev.dL.all λz=>!aT y||decide (y=[47])||!aT z||decide (z=[47])||under y z||(o7 (aw y).1 z).isNone)=true:=by kernel_rfl
theorem UU (h1:y∈Ev.dL)(h2:aT y=true)(h3:y≠[47])(h4:z∈Ev.dL)(h5:aT z=true)(h6:z≠[47])(h7:under y z=false):o7 (aw y).1 z=none:=by have h:=fT.1 (fT.1 Qj y h1) z h4;rw[h2,h5,h7,ec h3,ec h6] at h;exact Option.isNone_iff_eq_none.1 h
theorem zU {x:bE}(h:o7 x.ag z=some r):AW z y x=⟨y++r,x.id⟩:=by unfold AW;rw[h]
theorem sR {x:bE}(h:o7 x.ag z=none):AW z y x=x:=by unfold AW;rw[h]
theorem Kl (z y:aC)(x:bE):(AW z y x).id=x.id:=by unfold AW;split<;>rfl
theorem kE.move {f:Flat}(h:kE f)(ZG:z∈Ev.dL)(Qk:y∈Ev.dL)(hz:aT z=true)(hy:aT y=true)(z6:z≠[47])(pR:vT f.ad y=none)(N3:under y z=false){w:bE}(hw:w∈f.ad)(Sd:w.ag=(aw y).1)(KA:∃t∈f.ae,t.id=w.id/\t.aN=true)(hc:(aw y).1≠(aw z).1->f.ad.countP (uf (aw y).1)<12):Qi (f.ad.map (AW z y)) f.ae:=by
 have hg:=h.g.p;have hy0:y≠[47]:=λe=>by
  have:=h.cG;rw[<-e,pR] at this;cases this
 have Vo:=A6 hy;have hz1:=A6 hz;obtain⟨_,hy2,hy3,_⟩:=A8 y Qk hy hy0;obtain⟨_,hz2,_,_⟩:=A8 z ZG hz z6;have hyn:=qI y Qk hy hy0;have hya:=UU Qk hy hy0 ZG hz z6 N3;have aml:∀x∈f.ad,∀r,o7 x.ag y=some r->False:=λx hx r hr=>by
  obtain⟨g1,g2⟩:=iz.1 hr;obtain⟨j,hj,rfl⟩:=jO hx;rcases g2 with rfl|g2
  .exact ue pR _ (rX hj) (by rw[g1,gJ])
  .cases r with
   |nil=>exact absurd g2 bT
   |cons c r=>
    (have:c=47:=by simpa using g2);subst this;obtain⟨m,hm,hmp⟩:=h.closed Vo j j (cC _) hj r (by rw[a7,bc hj];exact g1);exact ue pR _ (dG cR hm) hmp
 have amm:∀x,aV (aw x).2=true->o7 x z=none->o7 (aw x).1 z=none:=λx hx hc=>by
  cases hw:o7 (aw x).1 z with
  |none=>rfl
  |some r=>
   exfalso;obtain⟨g1,g2⟩:=iz.1 hw;rcases Fi hx with e|⟨e1,e2⟩
   .have:o7 x z=some (r++47::(aw x).2):=iz.2 ⟨by rw[<-iL,<-g1];exact e,.inr (by
     rcases g2 with rfl|g2
     .rfl
     .cases r with
      |nil=>rfl
      |cons c r=>exact g2)⟩
    rw[hc] at this;cases this
   .rw[e1] at g1;have:=eC List.length g1;rw[bn] at this;simp at this;omega
 have NK:AW z y ⟨[47],0⟩=⟨[47],0⟩:=sR (by
  show o7 [47] z=none;cases hw:o7 [47] z with
  |none=>rfl
  |some r=>
   have:=eC List.length (iz.1 hw).1;rw[bn] at this;simp at this;omega)
 have LX:∀n,xb (f.ad.map (AW z y)) n=xb f.ad n:=λn=>by
  unfold xb;rw[List.countP_map];refine GB λx _=>?_
  show decide ((AW z y x).id=n)=true↔_;rw[Kl]
 refine⟨hg.tl,hg.st,hg.t0,hg.tx,Fe h Vo pR,lp.2 ⟨_,hg.nr,NK⟩,λx hx=>?_,λx hx vO=>?_,λn=>by rw[LX];exact hg.ct n,λt ht hf=>by rw[LX];exact hg.cf t ht hf,λZ=>?_,λx hx=>?_⟩
 .obtain⟨v,hv,rfl⟩:=lp.1 hx;rw[Kl];exact hg.th v hv
 .obtain⟨v,hv,rfl⟩:=lp.1 hx;cases hcv:o7 v.ag z with
  |some r=>
   rw[zU hcv] at vO⊢;obtain⟨g1,g2⟩:=iz.1 hcv;by_cases hr:r=[]
   .subst hr;rw[show(⟨y++[],v.id⟩:bE).ag=y from gJ y];refine⟨hyn,w,lp.2 ⟨w,hw,sR (by rw[Sd];exact hya)⟩,Sd,KA⟩
   .cases r with
    |nil=>exact absurd rfl hr
    |cons c r=>
    have:c=47:=by rcases g2 with g2|g2;cases g2;simpa using g2
    subst this;obtain⟨s,hs⟩:=BY r;obtain⟨h1,h2⟩:=wz hz1 hs;obtain⟨_,h4⟩:=wz Vo hs;have hv0:v.ag≠[47]:=λe=>by
     rw[e] at g1;have:=eC List.length g1;rw[bn] at this;simp at this;omega
    obtain⟨h5,u,hu,h6,h7⟩:=hg.up v hv hv0;rw[g1,h2] at h5 h6;show aV (aw (y++47::r)).2=true/\∃w∈f.ad.map (AW z y),w.ag=(aw (y++47::r)).1/\_;rw[h4];refine⟨h5,_,lp.2 ⟨u,hu,rfl⟩,?_,by rw[Kl];exact h7⟩;rw[zU (iz.2 ⟨h6,h1⟩)]
  |none=>
   rw[sR hcv] at vO⊢;obtain⟨h5,u,hu,h6,h7⟩:=hg.up v hv vO;exact⟨h5,u,lp.2 ⟨u,hu,sR (by rw[h6];exact amm _ h5 hcv)⟩,h6,h7⟩
 .rw[List.countP_map];have hK:∀x∈f.ad,uf Z (AW z y x)=true->(∃r s,x.ag=z++47::r/\(aw x.ag).1=z++(47::r).take s/\((47::r).take s=[]\/((47::r).take s).getD 0 0=47)/\y++(47::r).take s=Z)\/(x.ag=z/\(aw y).1=Z)\/uf Z x=true:=λx hx hk=>by
   cases hcv:o7 x.ag z with
   |none=>rw[sR hcv] at hk;exact .inr (.inr hk)
   |some r=>
    rw[zU hcv] at hk;obtain⟨g1,g2⟩:=iz.1 hcv;unfold uf at hk;rw[bI,bR,bR] at hk;cases r with
    |nil=>rw[gJ] at g1 hk;exact .inr (.inl ⟨g1,hk.2⟩)
    |cons c r=>
     (have:c=47:=by rcases g2 with g2|g2;cases g2;simpa using g2);subst this;obtain⟨s,hs⟩:=BY r;obtain⟨h1,h2⟩:=wz hz1 hs;obtain⟨_,h4⟩:=wz Vo hs;refine .inl ⟨r,s,g1,by rw[g1,h2],h1,?_⟩;have:=hk.2;rw[h4] at this;exact this
  have gh:∀x:bE,∀r,x.ag=z++r->x.ag≠[47]:=λx r g1 e=>by
   rw[e] at g1;have:=eC List.length g1;rw[bn] at this;simp at this;omega
  cases hZ:o7 Z y with
  |some r0=>
   obtain⟨hZ1,hZ2⟩:=iz.1 hZ;refine gu (List.countP_mono_left λx hx hk=>?_) (hg.cn (z++r0));rcases hK x hx hk with⟨r,s,h1,h2,h3,h4⟩|⟨h1,h2⟩|h1
   .unfold uf;rw[bI,bR,bR];refine⟨gh x _ h1,?_⟩;rw[h2];rw[hZ1] at h4;rw[List.append_cancel_left h4]
   .exfalso;rw[h2,hZ1,bn] at hy3;omega
   .exfalso;unfold uf at h1;rw[bI,bR,bR] at h1;obtain⟨_,v,hv,h5,_⟩:=hg.up x hx h1.1;exact aml v hv r0 (by rw[h5,h1.2];exact hZ)
  |none=>
   have hK:∀x∈f.ad,uf Z (AW z y x)=true->(x.ag=z/\(aw y).1=Z)\/uf Z x=true:=λx hx hk=>by
    rcases hK x hx hk with⟨r,s,h1,h2,h3,h4⟩|h1
    .have:=iz.2 ⟨h4.symm,h3⟩;rw[hZ] at this;cases this
    .exact h1
   by_cases hs:(aw y).1=Z/\(aw y).1≠(aw z).1
   .have h1:=hc hs.2;rw[hs.1] at h1;have h2:=Fj (K:=uf Z ∘ AW z y) (A:=λx:bE=>decide (x.ag=z)) (B:=uf Z) f.ad λx hx hk=>by
     rcases hK x hx hk with h3|h3
     .exact .inl (du h3.1)
     .exact .inr h3
    have h3:=NM hg.sn z;omega
   .refine gu (List.countP_mono_left λx hx hk=>?_) (hg.cn Z);rcases hK x hx hk with⟨h1,h2⟩|h1
    .unfold uf;rw[bI,bR,bR];refine⟨gh x [] (by rw[gJ];exact h1),?_⟩;rw[h1];refine nP λh3=>hs ⟨h2,λh4=>h3 ?_⟩
     rw[<-h4];exact h2
    .exact h1
 .obtain⟨v,hv,hi⟩:=hg.al x hx;exact⟨_,lp.2 ⟨v,hv,rfl⟩,by rw[Kl];exact hi⟩
theorem ZH:∀z∈Ev.dL,z.take 2=[47,47]->z.length=2:=by decide
theorem kE.kids (h:kE f)(z:aC):f.ad.countP (uf z)=f.vR z:=by refine' za6;rw[h.abU,<-Kk h.nr gh];rfl
theorem ab9 (a:Nat)(x t:aC):(wrJ (a:Int) x t).length<=max t.length (a+x.length):=by unfold wrJ;rw[ab7,bn,bn,cO,eP,bn,sX];omega
theorem aca (a:Nat)(t:aC):(ctJ (a:Int) t).length<=a:=by unfold ctJ;rw[cO];show min a _<=a;omega
theorem kE.Vp (h:kE f){z:aC}{k:Nat}(hk:vT f.ad z=some k)(hf:¬lH f.ae (ia f.ad z)=true)(g:aC->aC)(hg:∀x:aC,x.length<=192->(g x).length<=192):Qi f.ad (Go.Pl.Vp f.ae (ia f.ad z) g):=by obtain⟨Of,KB⟩:=h.J6 hk;obtain⟨t,ht⟩:=lV.1 (h.nm k Of).1;rw[h.uc hk] at hf⊢;unfold Go.Pl.Vp;unfold lH at hf;rw[ht] at hf⊢;have hp:=h.g.p;have qM:=(AV ht).1;exact hp.a8 qM (Bool.eq_false_iff.2 hf) (hg _ (hp.tx _ (dG fO qM)).2.2)
theorem kE.newAt (h:kE f){y:aC}(Qk:y∈Ev.dL)(hy:aT y=true)(cq:Bool)(h0:xc f.ad f.ae y cq=0):vT f.ad y=none/\y≠[47]/\cq=false/\aV (aw y).2=true/\f.ad.countP (uf (aw y).1)<12/\∃w∈f.ad,w.ag=(aw y).1/\∃t∈f.ae,t.id=w.id/\t.aN=true:=by
 rw[J8 h hy] at h0;have hf:¬0<f.cu y:=λe=>by rw[if_pos e] at h0;omega
 rw[if_neg hf] at h0;obtain⟨g1,g2,k,g3,g4⟩:=ud hf;have hc:¬(cq=true\/12<=f.vR (bW y).1):=λe=>by rw[if_pos e] at h0;cases h0
 have hn:=qI y Qk hy g2;have hs:=rB hn;rw[hs] at hc g3;obtain⟨Of,KB⟩:=h.J6 g3;refine⟨g1,g2,Bool.eq_false_iff.2 λe=>hc (.inl e),hn,?_,_,dG cR Of,KB,(nH h.st).1 (by rw[h.fld];exact g4)⟩;rw[h.kids];refine nP λe=>hc (.inr af)
theorem af4 (h:kE f)(ho:kV o=true)(ZG:o.ag∈Ev.dL)(Qk:o.to∈Ev.dL)(hk:¬(o.kind=1\/o.kind=2))(h0:mM f.ad f.ae o=0):Qi (AX f.ad f.ae o).1 (AX f.ad f.ae o).2:=by
 obtain⟨⟨h1,h2⟩,h3,h4,h5,h6⟩:=mP ho;obtain⟨kd,pa,tq9,at_,tx⟩:=o;dsimp only at h1 h2 h3 h4 h5 h6 ZG Qk hk;obtain⟨a,rfl⟩:=yC h5.1;have hp:=h.g.p;unfold mM at h0;dsimp only at h0;unfold AX;dsimp only;rw[if_neg hk] at h0⊢;have c1:¬ia f.ad pa<0:=λe=>by rw[if_pos e] at h0;cases h0
 rw[if_neg c1] at h0;obtain⟨k,AI⟩:=lV.1 ((h.ld0 pa).1 af);obtain⟨Of,KB⟩:=h.J6 AI;have hld:=h.uc AI;by_cases k34:kd=3\/kd=4
 .rw[if_pos k34] at h0;have c2:¬lH f.ae (ia f.ad pa)=true:=λe=>by rw[if_pos e] at h0;cases h0
  rw[if_neg c2] at h0;have c3:¬192<(a:Int)+(tx.length:Int):=λe=>by rw[if_pos e] at h0;cases h0
  by_cases k3:kd=3
  .rw[if_pos k3];dsimp only;split
   .exact hp
   .exact h.Vp AI c2 _ λx hx=>by
     have:=ab9 a tx x;omega
  .rw[if_neg k3,if_pos (show kd=4 by omega)];exact h.Vp AI c2 _ λx hx=>by
    have:=aca a x;omega
 rw[if_neg (show ¬kd=3 by omega),if_neg (show ¬kd=4 by omega)];rw[if_neg k34] at h0;by_cases k5:kd=5
 .rw[if_pos k5] at h0⊢;have c2:¬(ia f.ad pa=0\/(lH f.ae (ia f.ad pa)=true/\0<YT f.ad (ia f.ad pa))):=λe=>by rw[if_pos e] at h0;cases h0
  have hm:=dG cR Of;have hr:=h.J7 AI;have:=hp.drop hm (by rw[KB];exact λe=>c2 (.inl (hr.2 e))) (by rw[<-hld];exact λe=>c2 (.inl e)) (by
   rw[h.kids];cases hb:vB f.ad f.ae k with
   |false=>exact h.ajf Of hb
   |true=>
    refine nP λe=>c2 (.inr ?_)
    rw[hld,h.fld,h.afV Of];exact⟨hb,af⟩)
  rw[KB] at this;rw[hld];exact this
 rw[if_neg k5] at h0⊢;by_cases k6:kd=6
 .rw[if_pos k6] at h0⊢;have c2:¬lH f.ae (ia f.ad pa)=true:=λe=>by rw[if_pos e] at h0;cases h0
  rw[if_neg c2] at h0;obtain⟨g1,g2,g3,g4,g5,w,g6,g7,g8⟩:=h.newAt Qk (h4 (.inl k6)) _ h0;obtain⟨t,ht⟩:=lV.1 (h.nm k Of).1;rw[hld] at c2 g3⊢;unfold lH at c2;rw[ht] at c2;obtain⟨qM,hti⟩:=AV ht;have:=hp.link g4 (ue g1) g6 g7 g8 (dG fO qM) (Bool.eq_false_iff.2 c2) (by
   rw[hti];have:=of_decide_eq_false g3;omega) g5
  rw[hti] at this;exact this
 rw[if_neg k6] at h0⊢;have k7:kd=7:=by omega
 refine' zaN;rw[if_neg c3] at h0;have c4:¬under tq9 pa=true:=λe=>by rw[if_pos e] at h0;cases h0
 rw[if_neg c4] at h0;have pR:vT f.ad tq9=none:=(h.Zo tq9).1 af;have z6:pa≠[47]:=λe=>c2 ((h.J7 AI).2 e)
 have hy0:tq9≠[47]:=λe=>by
  have:=h.cG;rw[<-e,pR] at this;cases this
 have u6:=rB (qI tq9 Qk Vm hy0);have hs2:=rB (qI pa ZG h3 z6);rw[yf Vm hy0,yf h3 z6,u6,hs2] at h0;have c5:¬ia f.ad (aw tq9).1<0:=λe=>by rw[if_pos e] at h0;cases h0
 rw[if_neg c5] at h0;obtain⟨m,hm⟩:=lV.1 ((h.ld0 (aw tq9).1).1 af);obtain⟨VO,hmp⟩:=h.J6 hm;rw[h.uc hm,h.fld,h.afV VO,hmp] at h0;have c6:¬vB f.ad f.ae m=false:=λe=>by rw[if_pos e] at h0;cases h0
 rw[if_neg c6] at h0;refine h.move ZG Qk h3 Vm z6 pR (Bool.eq_false_iff.2 c4) (dG cR VO) hmp ((nH h.st).1 (by rw[h.fld];cases hb:vB f.ad f.ae m with|true=>rfl|false=>exact absurd hb c6)) λe=>?_
 rw[h.kids];refine nP λe2=>?_
 rw[if_pos] at h0
 .cases h0
 .refine⟨λe3=>e ?_,af⟩;have SO:1<=k:=by
   (refine nP λhk=>?_);(have:k=0:=by omega);subst this;rw[h.nr] at KB;exact z6 KB.symm
  obtain⟨w,hw,hwn,KA,Sd⟩:=h.par SO Of;rw[KB] at hwn Sd;rw[h.uc hwn] at e3;have:=h.uniq VO af e3 (by cases hb:vB f.ad f.ae m with|true=>rfl|false=>exact absurd hb c6);rw[<-hmp,this,Sd]
theorem af5 (h:kE f)(ho:kV o=true)(ZG:o.ag∈Ev.dL)(Qk:o.to∈Ev.dL)(h0:mM f.ad f.ae o=0):kE (RQ f.ad f.ae o):=by
 by_cases hk:o.kind=1\/o.kind=2
 .exact(ab8 h ho ZG hk h0).1
 .exact(af4 h ho ZG Qk hk h0).g.f
theorem kE.amn (h:kE f):f.ad.length<=144:=by
 have hp:=h.g.p;have key:∀(q:gD)(p:List bE),(∀n,xb p n<=9)->(∀x∈p,∃y∈q,y.id=x.id)->p.length<=9*q.length:=by
  intro q;induction q with
  |nil=>
   intro p _ h2;cases p with
   |nil=>exact iK _
   |cons x p=>obtain⟨y,hy,_⟩:=h2 x ga;cases hy
  |cons t q ih=>
   intro p h1 h2;have h3:=ih (p.filter λx=>!decide (x.id=t.id)) (λn=>gu (List.filter_sublist.countP_le) (h1 n)) (λx hx=>by
    rw[rW] at hx;obtain⟨y,hy,e⟩:=h2 x hx.1;rcases bH.1 hy with rfl|hy
    .rw[e] at hx;simp at hx
    .exact⟨y,hy,e⟩)
   have h4:=h1 t.id;unfold xb at h4;rw[List.countP_eq_length_filter] at h4;have h5:p.length=(p.filter λx=>decide (x.id=t.id)).length+(p.filter λx=>!decide (x.id=t.id)).length:=by
    rw[<-List.countP_eq_length_filter,<-List.countP_eq_length_filter];have h6:=List.length_eq_countP_add_countP (λx:bE=>decide (x.id=t.id)) (l:=p);rw[h6]
    congr 1
    exact GB λx _=>by simp
   rw[cU];omega
 have:=key f.ae f.ad hp.ct hp.th;have:=hp.tl;omega
theorem kE.ajw (h:kE f):∀(n j:Nat),j<=n->j<f.ad.length->(f.ad.getD j cR).ag.length<=1+5*j/\∀c∈(f.ad.getD j cR).ag,c.toNat<128
 |n,j,hjn,hj=>by
  by_cases h0:j=0
  .subst h0;rw[h.nr];refine⟨cC _,λc hc=>?_⟩;have:c=47:=by simpa using hc
   subst this;decide
  .obtain⟨m,hm,FE,hfm,hpm⟩:=h.par (show 1<=j by omega) hj;have pR:=((h.nm j hj).2.1 af).2.2.1;cases n with
   |zero=>omega
   |succ n=>
    obtain⟨i1,i2⟩:=h.ajw n m af af;rw[hpm] at i1 i2;unfold aV at pR;simp only[bI,bR,fT] at pR;have hx:(f.ad.getD j cR).ag.length<=(aw (f.ad.getD j cR).ag).1.length+1+(aw (f.ad.getD j cR).ag).2.length/\∀c∈(f.ad.getD j cR).ag,c∈(aw (f.ad.getD j cR).ag).1\/c=47\/c∈(aw (f.ad.getD j cR).ag).2:=by
     rcases Fi ((h.nm j hj).2.1 af).2.2.1 with e|⟨e1,e2⟩
     .have e3:=eC List.length e;rw[bn,cU] at e3;refine⟨af,λc hc=>?_⟩;rw[e,eW,bH] at hc;exact hc
     .have e3:=eC List.length e2;rw[cU] at e3;refine⟨af,λc hc=>?_⟩;rw[e2,bH] at hc;exact .inr hc
    refine⟨af,λc hc=>?_⟩;rcases hx.2 c hc with h1|rfl|h1
    .exact i2 c h1
    .decide
    .have:=pR.1.1 c h1;omega
theorem ajx (h:kE f)(hN:∀x∈f.ad,uy x.ag)(ho:kV o=true)(ZG:o.ag∈Ev.dL)(Qk:o.to∈Ev.dL)(h0:mM f.ad f.ae o=0):∀x∈(RQ f.ad f.ae o).ad,uy x.ag:=by
 have hI:∀z∈Ev.dL,uy z:=ZH;obtain⟨⟨h1,h2⟩,h3,h4,h5,h6⟩:=mP ho;intro x hx;have hx:x∈(AX f.ad f.ae o).1:=(ki _ x).1 hx;unfold mM at h0;unfold AX at hx;have hs:∀(y:bE),x∈f.ad++[y]->uy y.ag->uy x.ag:=λy hx hy=>by
  rcases eW.1 hx with hx|hx
  .exact hN x hx
  .rw[fJ] at hx;subst hx;exact hy
 by_cases k12:o.kind=1\/o.kind=2
 .rw[if_pos k12] at hx;exact hs _ hx (hI _ ZG)
 rw[if_neg k12] at hx h0;by_cases k3:o.kind=3
 .rw[if_pos k3] at hx;exact hN x hx
 rw[if_neg k3] at hx;by_cases k4:o.kind=4
 .rw[if_pos k4] at hx;exact hN x hx
 rw[if_neg k4] at hx;have c1:¬ia f.ad o.ag<0:=λe=>by rw[if_pos e] at h0;cases h0
 rw[if_neg c1,if_neg (show ¬(o.kind=3\/o.kind=4) by omega)] at h0;by_cases k5:o.kind=5
 .rw[if_pos k5] at hx;exact hN x (rW.1 hx).1
 rw[if_neg k5] at hx h0;by_cases k6:o.kind=6
 .rw[if_pos k6] at hx;exact hs _ hx (hI _ Qk)
 rw[if_neg k6] at hx h0;obtain⟨v,hv,rfl⟩:=lp.1 hx;cases hc:o7 v.ag o.ag with
 |none=>rw[sR hc];exact hN v hv
 |some r=>
  rw[zU hc];have c2:¬ia f.ad o.ag=0:=λe=>by rw[if_pos e] at h0;cases h0
  rw[if_neg c2] at h0;have c3:¬0<=ia f.ad o.to:=λe=>by rw[if_pos e] at h0;cases h0
  have pR:vT f.ad o.to=none:=(h.Zo o.to).1 af;have hy0:o.to≠[47]:=λe=>by
   have:=h.cG;rw[<-e,pR] at this;cases this
  obtain⟨g1,g2,_⟩:=A8 _ Qk (h4 (.inr af)) hy0;intro e;have e:(o.to++r).take 2=[47,47]:=e;rw[yz g2] at e;exact absurd e g1
end Go.Pl
namespace Go.Pl
open Go Go.Ev Go.Lg Go.Proofs
def yl (z:aC):Option Nat:=z.findIdx? λb=>decide (b=32)
theorem Se:∀(z:aC)(i:Nat),yK 32 z i=match yl z with
  |some j=>((i+j:Nat):Int)
  |none=>-1
 |[],i=>rfl
 |b::z,i=>by
  have h:yK 32 (b::z) i=bo (Nat.beq b.toNat 32) (.ofNat i) (yK 32 z (i+1)):=rfl;rw[h,dJ,Se z (i+1)];unfold yl;rw[Bo];by_cases hb:b=32
  .subst hb;rfl
  .have h1:Nat.beq b.toNat 32=false:=by
    rw[<-na,zZ];exact λe=>hb (sW.1 e)
   rw[if_neg (by rw[h1];exact iB),if_neg (by simpa using hb)];cases z.findIdx? λb=>decide (b=32) with
   |none=>rfl
   |some j=>
    show(((i+1+j:Nat)):Int)=((i+(j+1):Nat):Int);omega
theorem ZI (s:St)(z:aC):bL 268 [sv z,.int .u8 32] s [] (iv (oI (yl z))):=by
 refine abV (fn:=f268) cj rfl cj ?_;show aM (Value.int .i64 (yK 32 z 0)) s=_;rw[Se];cases yl z with
 |none=>rfl
 |some j=>
  show aM (Value.int .i64 ((0+j:Nat):Int)) s=_;rw[mS];rfl
theorem Gm (s:St)(z:aC):bL 224 [sv z,.int .u8 32] s [] (iv (oI (yl z))):=by
 refine aX f224 ?_;(repeat' (first|refine' aZ|((with_reducible apply WO.aW);exact aD;exact λs=>ZI s _;intros)|refine' av|fail));all_goals refine' ax
 all_goals rfl
theorem Gn (s:St)(z:aC):bL 178 [sv z,sv [32]] s [] (iv (oI (yl z))):=by
 refine aX f178 ?_;(repeat' (first|refine' aZ|((with_reducible apply WO.aW);exact aD;exact λs=>Gm s _;intros)|refine' av|fail));all_goals try refine cI
 all_goals refine' ax
 all_goals first|rfl|(have e:[32]=z:=by assumption
                      subst e;rfl)
theorem UW (s:St)(z:aC):bL 118 [sv z,sv [32]] s [] (iv (oI (yl z))):=by
 refine aX f118 ?_;(repeat' (first|refine' aZ|((with_reducible apply WO.aW);exact aD;exact λs=>Gn s _;intros)|refine' av|fail));all_goals refine' ax
 all_goals rfl
def im (z:aC):Nat:=(z.filter λb=>Nat.beq b.toNat 32).length
theorem ZJ (s:St)(z:aC):bL 177 [sv z,.int .u8 32] s [] (iv (im z:Int)):=R5 (fn:=f177) cj λk=>by
 show aM (Value.int .i64 (Int.ofNat (dX (z.filter λb=>Nat.beq b.toNat 32)))) s=_;rw[c8];rfl
theorem UX (s:St)(z:aC):bL 117 [sv z,sv [32]] s [] (iv (im z:Int)):=by
 refine aX f117 ?_;(repeat' (first|refine' aZ|((with_reducible apply WO.aW);exact aD;exact λs=>ZJ s _;intros)|refine' av|fail));all_goals try refine cI
 all_goals refine' ax
 all_goals rfl
theorem qJ (x:UInt8)(s:aC):cut 32 (x::s)=if x=32 then []::cut 32 s else match cut 32 s with
  |[]=>[[x]]
  |w::r=>(x::w)::r:=rfl
theorem ZK:∀s:aC,cut 32 s≠[]
 |[]=>by simp[cut]
 |x::s=>by
  rw[qJ];split
  .simp
  .split<;>simp
theorem A9:∀z:aC,(cut 32 z).length=im z+1
 |[]=>rfl
 |x::z=>by
  have ih:=A9 z;have hc:im (x::z)=if x=32 then im z+1 else im z:=by
   unfold im;rw[uj];by_cases hx:x=32
   .subst hx;rfl
   .have h1:Nat.beq x.toNat 32=false:=by
     rw[<-na,zZ];exact λe=>hx (sW.1 e)
    rw[h1,if_neg iB,if_neg hx]
  rw[hc,qJ];by_cases hx:x=32
  .rw[if_pos hx,if_pos hx,cU,ih]
  .rw[if_neg hx,if_neg hx];cases h:cut 32 z with
   |nil=>exact absurd h (ZK z)
   |cons w r=>rw[h] at ih;exact ih
theorem Ix (x:UInt8)(z:aC):yl (x::z)=if x=32 then some 0 else(yl z).map (·+1):=by
 unfold yl;rw[Bo];by_cases hx:x=32
 .rw[if_pos (by simpa using hx),if_pos hx]
 .rw[if_neg (by simpa using hx),if_neg hx]
theorem ym:∀z:aC,yl z=none->cut 32 z=[z]
 |[],_=>rfl
 |x::z,h=>by
  rw[Ix] at h;by_cases hx:x=32
  .rw[if_pos hx] at h;cases h
  .rw[if_neg hx] at h;have h1:yl z=none:=by simpa using h
   rw[qJ,if_neg hx,ym z h1]
theorem yn:∀(z:aC)(m:Nat),yl z=some m->m<z.length/\cut 32 z=z.take m::cut 32 (z.drop (m+1))
 |[],m,h=>by cases h
 |x::z,m,h=>by
  rw[Ix] at h;by_cases hx:x=32
  .rw[if_pos hx] at h;cases h
   exact⟨ay,by rw[qJ,if_pos hx];rfl⟩
  .rw[if_neg hx] at h;obtain⟨k,h1,rfl⟩:=Option.map_eq_some_iff.1 h;obtain⟨h2,h3⟩:=yn z k h1;refine⟨by simpa using h2,?_⟩;rw[qJ,if_neg hx,h3];rfl
theorem Km (s:St)(z:aC)(hz:z.length<=100000):eu bf bw 72 [sv z,sv [32],iv 0,iv (-1)] s [] 9 (cut 32 z):=by
 have hN:=A9 z;have hle:im z<=z.length:=Bm _ _;refine aX f72 ?_;(repeat' (first|refine' aZ|((with_reducible apply WO.aW);exact aD;exact λs=>UX s _;intros)|refine' av|fail));all_goals try refine cI
 rw[show min ((im z:Int)+1) ((z.length:Int)+1)-1=(im z:Int) by omega];rw[show(min ((im z:Int)+1) ((z.length:Int)+1)).toNat=im z+1 by omega];have hr0:List.replicate (im z+1) ([]:aC)=vE (cut 32 z) 0:=by unfold vE;rw[hN];rfl
 rw[hr0];rw[show(vE (cut 32 z) 0).length=im z+1 by rw[sP _ (iK _),hN]];refine W.bK (λm l L=>∃(i:Nat)(y:aC)(c:Nat)(w:List aC),Le [(0,sv y),(1,sv [32]),(2,iv 0),(3,iv (im z:Int)),(9,.slice (iJ bm) (im z+1) c),(10,iv (i:Int))] l/\cx [.aQ (.slice (iJ bm) (im z+1) c) 9 1 (ai w)] L/\m=im z-i/\i<=im z/\w=vE (cut 32 z) i/\(cut 32 z).drop i=cut 32 y/\y.length<=100000)
                                                                                            (λl L=>∃(y:aC)(c:Nat)(w:List aC),Le [(0,sv y),(9,.slice (iJ bm) (im z+1) c),(10,iv (im z:Int))] l/\cx [.aQ (.slice (iJ bm) (im z+1) c) 9 1 (ai w)] L/\w=vE (cut 32 z) (im z)/\(cut 32 z).drop (im z)=cut 32 y) _ ⟨0,z,_,_,bp,au,rfl,af,rfl,rfl,hz⟩ ?_ ?_
 .rintro m l L ⟨i,y,c,w,hl,hL,rfl,h1,h2,h3,h4⟩;refine W.le ?_ hl hL;clear hl hL;have Uc:w.length=im z+1:=by rw[h2,sP _ af,hN]
  by_cases hi:i<im z
  ·
   cases hs:yl y with
   |none=>
    exfalso;rw[ym y hs] at h3;have:=eC List.length h3;rw[eP,hN] at this;simp at this;omega
   |some j=>
    obtain⟨g1,g2⟩:=yn y j hs;rw[g2] at h3;obtain⟨g3,g4⟩:=zR (cut 32 z) af h3;have F7:∀s,bL 118 [sv y,sv [32]] s [] (iv (j:Int)):=λs=>by
     have:=UW s y;rw[hs] at this;exact this
    have lQ:(([32]:aC).length:Int)=1:=rfl;(repeat' (first|refine' aZ|((with_reducible apply WO.aW);exact aD;(exact F7);intros)|refine' av|fail));all_goals refine' za1
  .have fb:i=im z:=by omega
   subst fb;refine' cM;(all_goals try refine cI);all_goals exact⟨y,c,w,bp,au,h2,h3⟩
 .rintro l L ⟨y,c,w,hl,hL,h2,h3⟩;refine ak ?_;refine W.le ?_ hl hL;clear hl hL;have Uc:w.length=im z+1:=by rw[h2,sP _ af,hN]
  have hd1:(cut 32 z).drop (im z)=[y]:=by
   have h4:(cut 32 y).length=1:=by
    rw[<-h3,eP,hN];omega
   cases hs:yl y with
   |none=>rw[h3,ym y hs]
   |some j=>
    rw[(yn y j hs).2,cU] at h4;have:=A9 (y.drop (j+1));omega
  obtain⟨g3,g4⟩:=zR (cut 32 z) af hd1;repeat' (first|refine' aZ|refine' ae4|refine' av|fail)
  all_goals try refine cI
  have hw:w.set (im z) y=cut 32 z:=by
   rw[h2,g3];unfold vE;rw[<-hN,Ag,List.replicate_zero,gJ,fU]
  rw[hw,<-hN];refine' jo;all_goals rfl
theorem UY (s:St)(z:aC)(hz:z.length<=100000):eu bf bw 44 [sv z,sv [32]] s [] 9 (cut 32 z):=by
 refine aX f44 ?_;(repeat' (first|refine' aZ|((with_reducible apply WO.vh);exact aD;exact λs=>Km s _ aP;intro _ _ Qb Qc _ _)|refine' av|fail));all_goals refine' jo
 all_goals rfl
end Go.Pl
namespace Go.Proofs
open Go.Shelf
def Tryz.NN:Go.Shelf.Ren:=⟨λ|213=>185|265=>232|n=>n,λ|9=>9|3=>3|n=>n,λ|n=>n⟩
theorem Tryz.acb:Go.Proofs.Lays.n213 Tryz.prog Tryz.NN:={
 mixed:=by kernel_rfl
 f213:=Tryz.func185.trans (eC some cj)
 f265:=Tryz.func232.trans (eC some cj)
 t3:=Tryz.underlying3
 a3:=Tryz.isAgg3
 z3:=Tryz.sizeOf3
 v3:=Tryz.zeroValue3
 t9:=Tryz.underlying9
 a9:=Tryz.isAgg9
 z9:=Tryz.sizeOf9
 v9:=Tryz.zeroValue9}
def Tryz.NO:Go.Shelf.Ren:=⟨λ|106=>129|213=>185|265=>232|n=>n,λ|9=>9|3=>3|n=>n,λ|n=>n⟩
theorem Tryz.acd:Go.Proofs.Lays.n106 Tryz.prog Tryz.NO:={
 mixed:=by kernel_rfl
 f106:=Tryz.func129.trans (eC some cj)
 f213:=Tryz.func185.trans (eC some cj)
 f265:=Tryz.func232.trans (eC some cj)
 t3:=Tryz.underlying3
 a3:=Tryz.isAgg3
 z3:=Tryz.sizeOf3
 v3:=Tryz.zeroValue3
 t9:=Tryz.underlying9
 a9:=Tryz.isAgg9
 z9:=Tryz.sizeOf9
 v9:=Tryz.zeroValue9}
def Tryz.Ql:Go.Shelf.Ren:=⟨λ|5=>54|7=>92|n=>n,λ|22=>3|3=>3|4=>4|n=>n,λ|n=>n⟩
theorem Tryz.af6:Go.Proofs.SlLaysC2.n5 Tryz.prog Tryz.Ql:={
 mixed:=by kernel_rfl
 f5:=⟨Tryz.f54.name,bT,Tryz.func54.trans (eC some cj)⟩
 f7:=⟨Tryz.f92.name,bT,Tryz.func92.trans (eC some cj)⟩
 t3:=Tryz.underlying3
 a3:=Tryz.isAgg3
 z3:=Tryz.sizeOf3
 v3:=Tryz.zeroValue3
 t4:=Tryz.underlying4
 a4:=Tryz.isAgg4
 z4:=Tryz.sizeOf4
 v4:=Tryz.zeroValue4
 t22:=Tryz.underlying3
 a22:=Tryz.isAgg3
 z22:=Tryz.sizeOf3
 v22:=Tryz.zeroValue3}
def Tryz.BZ:Go.Shelf.Ren:=⟨λ|105=>84|212=>130|99=>131|165=>132|166=>33|170=>133|169=>35|263=>186|264=>187|206=>188|240=>68|241=>189|276=>114|277=>233|n=>n,λ|9=>9|3=>3|4=>4|20=>20|0=>0|46=>145|109=>175|5=>5|72=>86|76=>89|51=>225|146=>226|53=>217|148=>228|70=>84|37=>22|75=>88|127=>124|164=>162|80=>41|n=>n,λ|n=>n⟩
theorem Tryz.zV:Go.Proofs.Lays.n105 Tryz.prog Tryz.BZ:={
 mixed:=by kernel_rfl
 f99:=Tryz.func131.trans (eC some cj)
 f105:=Tryz.func84.trans (eC some cj)
 f165:=Tryz.func132.trans (eC some cj)
 f166:=Tryz.func33.trans (eC some cj)
 f169:=Tryz.func35.trans (eC some cj)
 f170:=Tryz.func133.trans (eC some cj)
 f206:=Tryz.func188.trans (eC some cj)
 f212:=Tryz.func130.trans (eC some cj)
 f240:=Tryz.func68.trans (eC some cj)
 f241:=Tryz.func189.trans (eC some cj)
 f263:=Tryz.func186.trans (eC some cj)
 f264:=Tryz.func187.trans (eC some cj)
 f276:=Tryz.func114.trans (eC some cj)
 f277:=Tryz.func233.trans (eC some cj)
 t0:=Tryz.underlying0
 a0:=Tryz.isAgg0
 z0:=Tryz.sizeOf0
 v0:=Tryz.zeroValue0
 t3:=Tryz.underlying3
 a3:=Tryz.isAgg3
 z3:=Tryz.sizeOf3
 v3:=Tryz.zeroValue3
 t4:=Tryz.underlying4
 a4:=Tryz.isAgg4
 z4:=Tryz.sizeOf4
 v4:=Tryz.zeroValue4
 t5:=Tryz.underlying5
 a5:=Tryz.isAgg5
 z5:=Tryz.sizeOf5
 v5:=Tryz.zeroValue5
 t9:=Tryz.underlying9
 a9:=Tryz.isAgg9
 z9:=Tryz.sizeOf9
 v9:=Tryz.zeroValue9
 t20:=Tryz.underlying20
 a20:=Tryz.isAgg20
 z20:=Tryz.sizeOf20
 v20:=Tryz.zeroValue20
 t37:=Tryz.underlying22
 a37:=Tryz.isAgg22
 z37:=Tryz.sizeOf22
 v37:=Tryz.zeroValue22
 t46:=Tryz.underlying145
 a46:=Tryz.isAgg145
 z46:=Tryz.sizeOf145
 v46:=Tryz.zeroValue145
 t51:=Tryz.underlying225
 a51:=Tryz.isAgg225
 z51:=Tryz.sizeOf225
 v51:=Tryz.zeroValue225
 t53:=Tryz.underlying217
 a53:=Tryz.isAgg217
 z53:=Tryz.sizeOf217
 v53:=Tryz.zeroValue217
 t70:=Tryz.underlying84
 a70:=Tryz.isAgg84
 z70:=Tryz.sizeOf84
 v70:=Tryz.zeroValue84
 t72:=Tryz.underlying86
 a72:=Tryz.isAgg86
 z72:=Tryz.sizeOf86
 v72:=Tryz.zeroValue86
 t75:=Tryz.underlying88
 a75:=Tryz.isAgg88
 z75:=Tryz.sizeOf88
 v75:=Tryz.zeroValue88
 t76:=Tryz.underlying89
 a76:=Tryz.isAgg89
 z76:=Tryz.sizeOf89
 v76:=Tryz.zeroValue89
 t109:=Tryz.underlying175
 a109:=Tryz.isAgg175
 z109:=Tryz.sizeOf175
 v109:=Tryz.zeroValue175
 t127:=Tryz.underlying124
 a127:=Tryz.isAgg124
 z127:=Tryz.sizeOf124
 v127:=Tryz.zeroValue124
 t146:=Tryz.underlying226
 a146:=Tryz.isAgg226
 z146:=Tryz.sizeOf226
 v146:=Tryz.zeroValue226
 t148:=Tryz.underlying228
 a148:=Tryz.isAgg228
 z148:=Tryz.sizeOf228
 v148:=Tryz.zeroValue228
 t164:=Tryz.underlying162
 a164:=Tryz.isAgg162
 z164:=Tryz.sizeOf162
 v164:=Tryz.zeroValue162}
theorem Tryz.zW:Builder.Extra Tryz.prog Tryz.BZ:={
 sizeBuilder:=by kernel_rfl
 liesBuilder:=by kernel_rfl
 t5:=Tryz.zV.t5
 a5:=Tryz.zV.a5
 z5:=Tryz.zV.z5
 v5:=Tryz.zV.v5
 infoByte:=by kernel_rfl
 cellsByte:=by kernel_rfl
 sizeByte:=by kernel_rfl
 neB5:=by decide}
def Tryz.UZ:Go.Shelf.Ren:=⟨λ|6=>137|15=>191|14=>190|28=>242|29=>243|20=>234|21=>235|22=>236|23=>237|24=>238|25=>239|26=>240|27=>241|46=>270|47=>271|48=>272|49=>273|50=>274|57=>285|n=>n,λ|22=>23|24=>52|25=>181|3=>3|39=>145|0=>0|53=>225|55=>217|4=>4|46=>265|45=>264|50=>45|5=>5|9=>9|66=>292|70=>296|76=>304|77=>189|n=>n,λ|n=>n⟩
theorem Tryz.jV:Go.Proofs.SlLaysF0.n6 Tryz.prog Tryz.UZ:={
 mixed:=by kernel_rfl
 f6:=⟨Tryz.f137.name,bT,Tryz.func137.trans (eC some cj)⟩
 f14:=⟨Tryz.f190.name,bT,Tryz.func190.trans (eC some cj)⟩
 f15:=Tryz.func191.trans (eC some cj)
 f20:=⟨Tryz.f234.name,bT,Tryz.func234.trans (eC some cj)⟩
 f21:=⟨Tryz.f235.name,bT,Tryz.func235.trans (eC some cj)⟩
 f22:=⟨Tryz.f236.name,bT,Tryz.func236.trans (eC some cj)⟩
 f23:=⟨Tryz.f237.name,bT,Tryz.func237.trans (eC some cj)⟩
 f24:=⟨Tryz.f238.name,bT,Tryz.func238.trans (eC some cj)⟩
 f25:=⟨Tryz.f239.name,bT,Tryz.func239.trans (eC some cj)⟩
 f26:=⟨Tryz.f240.name,bT,Tryz.func240.trans (eC some cj)⟩
 f27:=⟨Tryz.f241.name,bT,Tryz.func241.trans (eC some cj)⟩
 f28:=Tryz.func242.trans (eC some cj)
 f29:=Tryz.func243.trans (eC some cj)
 f46:=⟨Tryz.f270.name,bT,Tryz.func270.trans (eC some cj)⟩
 f47:=Tryz.func271.trans (eC some cj)
 f48:=Tryz.func272.trans (eC some cj)
 f49:=⟨Tryz.f273.name,bT,Tryz.func273.trans (eC some cj)⟩
 f50:=⟨Tryz.f274.name,bT,Tryz.func274.trans (eC some cj)⟩
 f57:=⟨Tryz.f285.name,bT,Tryz.func285.trans (eC some cj)⟩
 t0:=Tryz.underlying0
 a0:=Tryz.isAgg0
 z0:=Tryz.sizeOf0
 v0:=Tryz.zeroValue0
 t3:=Tryz.underlying3
 a3:=Tryz.isAgg3
 z3:=Tryz.sizeOf3
 v3:=Tryz.zeroValue3
 t4:=Tryz.underlying4
 a4:=Tryz.isAgg4
 z4:=Tryz.sizeOf4
 v4:=Tryz.zeroValue4
 t5:=Tryz.underlying5
 a5:=Tryz.isAgg5
 z5:=Tryz.sizeOf5
 v5:=Tryz.zeroValue5
 t9:=Tryz.underlying9
 a9:=Tryz.isAgg9
 z9:=Tryz.sizeOf9
 v9:=Tryz.zeroValue9
 t22:=Tryz.underlying23
 a22:=Tryz.isAgg23
 z22:=Tryz.sizeOf23
 v22:=Tryz.zeroValue23
 t25:=Tryz.underlying181
 a25:=Tryz.isAgg181
 z25:=Tryz.sizeOf181
 v25:=Tryz.zeroValue181
 t39:=Tryz.underlying145
 a39:=Tryz.isAgg145
 z39:=Tryz.sizeOf145
 v39:=Tryz.zeroValue145
 t45:=Tryz.underlying264
 a45:=Tryz.isAgg264
 z45:=Tryz.sizeOf264
 v45:=Tryz.zeroValue264
 t46:=Tryz.underlying265
 a46:=Tryz.isAgg265
 z46:=Tryz.sizeOf265
 v46:=Tryz.zeroValue265
 t50:=Tryz.underlying45
 a50:=Tryz.isAgg45
 z50:=Tryz.sizeOf45
 v50:=Tryz.zeroValue45
 t53:=Tryz.underlying225
 a53:=Tryz.isAgg225
 z53:=Tryz.sizeOf225
 v53:=Tryz.zeroValue225
 t55:=Tryz.underlying217
 a55:=Tryz.isAgg217
 z55:=Tryz.sizeOf217
 v55:=Tryz.zeroValue217
 t66:=Tryz.underlying292
 a66:=Tryz.isAgg292
 z66:=Tryz.sizeOf292
 v66:=Tryz.zeroValue292
 t70:=Tryz.underlying296
 a70:=Tryz.isAgg296
 z70:=Tryz.sizeOf296
 v70:=Tryz.zeroValue296
 t76:=Tryz.underlying304
 a76:=Tryz.isAgg304
 z76:=Tryz.sizeOf304
 v76:=Tryz.zeroValue304
 t77:=Tryz.underlying189
 a77:=Tryz.isAgg189
 z77:=Tryz.sizeOf189
 v77:=Tryz.zeroValue189}
def Tryz.U0:Go.Shelf.Ren:=⟨λ|6=>139|15=>191|14=>192|28=>242|29=>243|20=>244|21=>245|22=>246|23=>247|24=>248|25=>249|26=>250|27=>251|46=>275|47=>271|48=>272|49=>276|50=>277|57=>286|n=>n,λ|22=>24|24=>54|25=>183|3=>3|39=>145|0=>0|53=>225|55=>217|4=>4|46=>265|45=>264|50=>45|5=>5|9=>9|66=>292|70=>296|76=>304|77=>189|n=>n,λ|n=>n⟩
theorem Tryz.jW:Go.Proofs.SlLaysF0.n6 Tryz.prog Tryz.U0:={
 mixed:=by kernel_rfl
 f6:=⟨Tryz.f139.name,bT,Tryz.func139.trans (eC some cj)⟩
 f14:=⟨Tryz.f192.name,bT,Tryz.func192.trans (eC some cj)⟩
 f15:=Tryz.func191.trans (eC some cj)
 f20:=⟨Tryz.f244.name,bT,Tryz.func244.trans (eC some cj)⟩
 f21:=⟨Tryz.f245.name,bT,Tryz.func245.trans (eC some cj)⟩
 f22:=⟨Tryz.f246.name,bT,Tryz.func246.trans (eC some cj)⟩
 f23:=⟨Tryz.f247.name,bT,Tryz.func247.trans (eC some cj)⟩
 f24:=⟨Tryz.f248.name,bT,Tryz.func248.trans (eC some cj)⟩
 f25:=⟨Tryz.f249.name,bT,Tryz.func249.trans (eC some cj)⟩
 f26:=⟨Tryz.f250.name,bT,Tryz.func250.trans (eC some cj)⟩
 f27:=⟨Tryz.f251.name,bT,Tryz.func251.trans (eC some cj)⟩
 f28:=Tryz.func242.trans (eC some cj)
 f29:=Tryz.func243.trans (eC some cj)
 f46:=⟨Tryz.f275.name,bT,Tryz.func275.trans (eC some cj)⟩
 f47:=Tryz.func271.trans (eC some cj)
 f48:=Tryz.func272.trans (eC some cj)
 f49:=⟨Tryz.f276.name,bT,Tryz.func276.trans (eC some cj)⟩
 f50:=⟨Tryz.f277.name,bT,Tryz.func277.trans (eC some cj)⟩
 f57:=⟨Tryz.f286.name,bT,Tryz.func286.trans (eC some cj)⟩
 t0:=Tryz.underlying0
 a0:=Tryz.isAgg0
 z0:=Tryz.sizeOf0
 v0:=Tryz.zeroValue0
 t3:=Tryz.underlying3
 a3:=Tryz.isAgg3
 z3:=Tryz.sizeOf3
 v3:=Tryz.zeroValue3
 t4:=Tryz.underlying4
 a4:=Tryz.isAgg4
 z4:=Tryz.sizeOf4
 v4:=Tryz.zeroValue4
 t5:=Tryz.underlying5
 a5:=Tryz.isAgg5
 z5:=Tryz.sizeOf5
 v5:=Tryz.zeroValue5
 t9:=Tryz.underlying9
 a9:=Tryz.isAgg9
 z9:=Tryz.sizeOf9
 v9:=Tryz.zeroValue9
 t22:=Tryz.underlying24
 a22:=Tryz.isAgg24
 z22:=Tryz.sizeOf24
 v22:=Tryz.zeroValue24
 t25:=Tryz.underlying183
 a25:=Tryz.isAgg183
 z25:=Tryz.sizeOf183
 v25:=Tryz.zeroValue183
 t39:=Tryz.underlying145
 a39:=Tryz.isAgg145
 z39:=Tryz.sizeOf145
 v39:=Tryz.zeroValue145
 t45:=Tryz.underlying264
 a45:=Tryz.isAgg264
 z45:=Tryz.sizeOf264
 v45:=Tryz.zeroValue264
 t46:=Tryz.underlying265
 a46:=Tryz.isAgg265
 z46:=Tryz.sizeOf265
 v46:=Tryz.zeroValue265
 t50:=Tryz.underlying45
 a50:=Tryz.isAgg45
 z50:=Tryz.sizeOf45
 v50:=Tryz.zeroValue45
 t53:=Tryz.underlying225
 a53:=Tryz.isAgg225
 z53:=Tryz.sizeOf225
 v53:=Tryz.zeroValue225
 t55:=Tryz.underlying217
 a55:=Tryz.isAgg217
 z55:=Tryz.sizeOf217
 v55:=Tryz.zeroValue217
 t66:=Tryz.underlying292
 a66:=Tryz.isAgg292
 z66:=Tryz.sizeOf292
 v66:=Tryz.zeroValue292
 t70:=Tryz.underlying296
 a70:=Tryz.isAgg296
 z70:=Tryz.sizeOf296
 v70:=Tryz.zeroValue296
 t76:=Tryz.underlying304
 a76:=Tryz.isAgg304
 z76:=Tryz.sizeOf304
 v76:=Tryz.zeroValue304
 t77:=Tryz.underlying189
 a77:=Tryz.isAgg189
 z77:=Tryz.sizeOf189
 v77:=Tryz.zeroValue189}
def Tryz.B0:Go.Shelf.Ren:=⟨λ|156=>231|165=>132|166=>33|169=>35|240=>68|241=>189|276=>114|277=>233|n=>n,λ|31=>42|9=>9|3=>3|4=>4|0=>0|20=>20|72=>86|76=>89|70=>84|37=>22|75=>88|127=>124|164=>162|5=>5|80=>41|n=>n,λ|n=>n⟩
theorem Tryz.Sf:Go.Proofs.Lays.n156 Tryz.prog Tryz.B0:={
 mixed:=by kernel_rfl
 f156:=Tryz.func231.trans (eC some cj)
 f165:=Tryz.func132.trans (eC some cj)
 f166:=Tryz.func33.trans (eC some cj)
 f169:=Tryz.func35.trans (eC some cj)
 f240:=Tryz.func68.trans (eC some cj)
 f241:=Tryz.func189.trans (eC some cj)
 f276:=Tryz.func114.trans (eC some cj)
 f277:=Tryz.func233.trans (eC some cj)
 t0:=Tryz.underlying0
 a0:=Tryz.isAgg0
 z0:=Tryz.sizeOf0
 v0:=Tryz.zeroValue0
 t3:=Tryz.underlying3
 a3:=Tryz.isAgg3
 z3:=Tryz.sizeOf3
 v3:=Tryz.zeroValue3
 t4:=Tryz.underlying4
 a4:=Tryz.isAgg4
 z4:=Tryz.sizeOf4
 v4:=Tryz.zeroValue4
 t9:=Tryz.underlying9
 a9:=Tryz.isAgg9
 z9:=Tryz.sizeOf9
 v9:=Tryz.zeroValue9
 t20:=Tryz.underlying20
 a20:=Tryz.isAgg20
 z20:=Tryz.sizeOf20
 v20:=Tryz.zeroValue20
 t31:=Tryz.underlying42
 a31:=Tryz.isAgg42
 z31:=Tryz.sizeOf42
 v31:=Tryz.zeroValue42
 t37:=Tryz.underlying22
 a37:=Tryz.isAgg22
 z37:=Tryz.sizeOf22
 v37:=Tryz.zeroValue22
 t70:=Tryz.underlying84
 a70:=Tryz.isAgg84
 z70:=Tryz.sizeOf84
 v70:=Tryz.zeroValue84
 t72:=Tryz.underlying86
 a72:=Tryz.isAgg86
 z72:=Tryz.sizeOf86
 v72:=Tryz.zeroValue86
 t75:=Tryz.underlying88
 a75:=Tryz.isAgg88
 z75:=Tryz.sizeOf88
 v75:=Tryz.zeroValue88
 t76:=Tryz.underlying89
 a76:=Tryz.isAgg89
 z76:=Tryz.sizeOf89
 v76:=Tryz.zeroValue89
 t127:=Tryz.underlying124
 a127:=Tryz.isAgg124
 z127:=Tryz.sizeOf124
 v127:=Tryz.zeroValue124
 t164:=Tryz.underlying162
 a164:=Tryz.isAgg162
 z164:=Tryz.sizeOf162
 v164:=Tryz.zeroValue162}
theorem Tryz.rF:Builder.Extra Tryz.prog Tryz.B0:={
 sizeBuilder:=by kernel_rfl
 liesBuilder:=by kernel_rfl
 t5:=Tryz.underlying5
 a5:=Tryz.isAgg5
 z5:=Tryz.sizeOf5
 v5:=Tryz.zeroValue5
 infoByte:=by kernel_rfl
 cellsByte:=by kernel_rfl
 sizeByte:=by kernel_rfl
 neB5:=by decide}
end Go.Proofs
