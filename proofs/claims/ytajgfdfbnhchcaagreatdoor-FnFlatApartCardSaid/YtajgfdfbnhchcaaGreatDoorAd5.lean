/- Lemmas of the proof. No conditions. -/
import Derived.Test.YtajgfdfbnhchcaaGreatDoorAd4
set_option maxRecDepth 100000
set_option maxHeartbeats 4000000
set_option linter.unusedVariables false
set_option linter.unusedSimpArgs false
open Go.Proofs.Tryz
namespace Go.Pl
open Go Go.Ev Go.Lg Go.Proofs
theorem ain (s:St)(b:Nat)(a:aK)(c:Nat)(p:List a6)(a':aK)(c':Nat)(q:eG)(hV:Jp p q)(o:Op)(hz:o.af.length<=3000)(hy:o.to.length<=3000)(hk7:1<=o.kind/\o.kind<=7)(nJ:0<=o.at_/\o.at_<=192)(Br:o.aW.length<=24)(hql:∀x∈q,x.aW.length<=5000)(aeU:o.kind=3\/o.kind=4->∃t,kM q (dy p o.af)=some t)
  (hP1:1<=(rR p q o).1.length)(hQ1:1<=(rR p q o).2.length)(hPa:Ev.xm (rR p q o).1=true)(hQa:Ev.xn (rR p q o).2=true):AL a8 bj 49 [bc b,ov o] s b a c p a' c' q (.tuple ⟨[]⟩) (NK p q o):=by
 obtain⟨kd,pa,to,at_,tx⟩:=o;dsimp only at hz hy hk7 nJ Br aeU;obtain⟨an,rfl⟩:=wB nJ.1;have rD:=hV.pl;have acW:=hV.ql;have WE:∀s a n c (p0:List a6) a' n' c' (q0:eG),p0.take n=(rR p q ⟨kd,pa,to,(an:Int),tx⟩).1->q0.take n'=(rR p q ⟨kd,pa,to,(an:Int),tx⟩).2->n<=p0.length/\p0.length<=100000->n'<=q0.length/\q0.length<=100000->Bi 93 [bc b] s (vT b a n c p0 a' n' c' q0) [] λR L=>R= .tuple ⟨[]⟩/\L=vT b a n c (Ev.gT (p0.take n)++p0.drop n) a' n' c' (Ev.gZ (q0.take n')++q0.drop n'):=λs a n c p0 a' n' c' q0 h1 h2 h3 h4=>by
  have e1:n=(p0.take n).length:=by rw[cZ];omega
  have e2:n'=(q0.take n').length:=by rw[cZ];omega
  exact Mv s b a n c p0 a' n' c' q0 (by rw[e1,h1];exact hP1) h3.1 h3.2 (by rw[h1];exact hPa) (by rw[e2,h2];exact hQ1) h4.1 h4.2 (by rw[h2];exact hQa)
 have I6:∀s z,iQ s b a c p a' c' q->bP 21 [bc b,sv z] s (qN b a a') (iv (dy p z)):=Mj hV;have hrm:∀s,iQ s b a c p a' c' q->bP 86 [bc b] s (qN b a a') (iv (zU q 16 0)):=ac1 hV;show AL a8 bj 49 [bc b,.agg ⟨[iv kd,sv pa,sv to,iv (an:Int),sv tx]⟩] s b a c p a' c' q (.tuple ⟨[]⟩) (NK p q ⟨kd,pa,to,(an:Int),tx⟩);unfold NK;clear hP1 hQ1 hPa hQa;generalize hJ:rR p q ⟨kd,pa,to,(an:Int),tx⟩=J at WE⊢;unfold rR at hJ;dsimp only at hJ;by_cases k1:kd=1\/kd=2
 .rw[if_pos k1] at hJ;subst hJ;rcases k1 with rfl|rfl
  .refine aU f49 ?_;dsimp only[vT];(repeat' (first|refine' a7|refine' qL|refine' aei|refine' SY|refine' WC|refine' OG|refine' yW|refine' yX|refine' aw|fail))
   all_goals try refine rO
   all_goals refine' zaj
  .refine aU f49 ?_;dsimp only[vT];(repeat' (first|refine' a7|refine' qL|refine' aei|refine' SY|refine' WC|refine' OG|refine' yW|refine' yX|refine' aw|fail))
   all_goals try refine rO
   all_goals refine' zaj
 rw[if_neg k1] at hJ;by_cases k6:kd=6
 .rw[if_neg ag,if_neg ag,if_neg ag,if_pos k6] at hJ;subst hJ;subst k6;refine aU f49 ?_;dsimp only[vT];(repeat' (first|refine' a7|refine' qL|refine' SY|refine' WC|refine' yX|refine' aw|fail))
  all_goals try refine rO
  all_goals refine' zaj
 by_cases k3:kd=3
 .rw[if_pos k3] at hJ;subst k3;obtain⟨t,ht⟩:=aeU ag;have ku:∀s,iQ s b a c p a' c' q->bP 30 [bc b,iv (dy p pa)] s (qN b a a') (de a' t 3 0):=λs hr=>by
   have:=fT s b a c p a' c' q hV.st hV.ql (dy p pa) hr;rw[ht] at this;exact this
  have pz:=lQ ht;have Cd:=hql _ (aJ pz ak.ah);by_cases k30:tx=[]
  .rw[if_pos k30] at hJ;subst hJ;refine aU f49 ?_;dsimp only[vT];(repeat' (first|refine' a7|refine' qL|refine' SQ|refine' yX|refine' aw|fail))
   all_goals try refine rO
   all_goals refine' zaj
  .rw[if_neg k30] at hJ;have hxp:0<tx.length:=oD.2 k30;have Vl:=Ez (max 0 ((an:Int)+(tx.length:Int)-((q.getD t ak.ah).aW.length:Int))).toNat;have hzl:((q.getD t ak.ah).aW++Ev.yL [0] (max 0 ((an:Int)+(tx.length:Int)-((q.getD t ak.ah).aW.length:Int))).toNat).length=(q.getD t ak.ah).aW.length+(max 0 ((an:Int)+(tx.length:Int)-((q.getD t ak.ah).aW.length:Int))).toNat:=by rw[bJ,Vl]
   unfold uf at hJ;rw[ht] at hJ;subst hJ;refine aU f49 ?_;dsimp only[vT];(repeat' (first|refine' a7|refine' qL|refine' SQ|refine' aaC|((with_reducible apply WO.bI);exact aE;(first|exact λs=>HC s _ ag);intro _ _ _ _)|((with_reducible apply WO.ale);exact gP;exact gP;exact rG;exact mO;intro _)|((with_reducible apply WO.aik);(exact λ_=>rfl);exact gP;exact gP;exact xy;exact mO;intro _)|((with_reducible apply WO.alh);(exact λ_=>rfl);exact gP;exact rG;(simp only[bJ,cZ,gd];omega);intro _)|refine' QJ|refine' yX|refine' aw|fail))
   all_goals try refine rO
   all_goals refine' zaj
 rw[if_neg k3] at hJ;by_cases k4:kd=4
 .rw[if_pos k4] at hJ;subst k4;obtain⟨t,ht⟩:=aeU ag;have ku:∀s,iQ s b a c p a' c' q->bP 30 [bc b,iv (dy p pa)] s (qN b a a') (de a' t 3 0):=λs hr=>by
   have:=fT s b a c p a' c' q hV.st hV.ql (dy p pa) hr;rw[ht] at this;exact this
  have pz:=lQ ht;have Cd:=hql _ (aJ pz ak.ah);have Vl:=Ez (max 0 ((an:Int)-((q.getD t ak.ah).aW.length:Int))).toNat;have hzl:((q.getD t ak.ah).aW++Ev.yL [0] (max 0 ((an:Int)-((q.getD t ak.ah).aW.length:Int))).toNat).length=(q.getD t ak.ah).aW.length+(max 0 ((an:Int)-((q.getD t ak.ah).aW.length:Int))).toNat:=by rw[bJ,Vl]
  unfold uf at hJ;rw[ht] at hJ;subst hJ;refine aU f49 ?_;dsimp only[vT];(repeat' (first|refine' a7|refine' qL|refine' SQ|refine' aaC|((with_reducible apply WO.bI);exact aE;(first|exact λs=>HC s _ ag);intro _ _ _ _)|refine' QJ|refine' yX|refine' aw|fail))
  all_goals try refine rO
  all_goals refine' zaj
 rw[if_neg k4] at hJ;by_cases k5:kd=5
 .rw[if_pos k5] at hJ;subst k5;have BR:(p.filter λx=>!decide (x.af=pa)).length<=p.length:=CK _ _;have aeV:(q.filter λx=>!decide (x.id=dy p pa)).length<=q.length:=CK _ _;have hli:∀s,iQ s b a c (p.filter λx=>!decide (x.af=pa)) a' c' q->bP 90 [bc b,iv (dy p pa)] s (qN b a a') (iv (rQ (p.filter λx=>!decide (x.af=pa)) (dy p pa):Int)):=λs hr=>Mi s b a c _ a' c' q ag _ hr
  unfold wQ at hJ;by_cases k50:rQ (p.filter λx=>!decide (x.af=pa)) (dy p pa)=0
  .rw[if_pos k50] at hJ;subst hJ;refine aU f49 ?_;dsimp only[vT];(repeat' (first|refine' a7|refine' qL|refine' yV|refine' aco|refine' acp|refine' acq|refine' yX|refine' aw|fail))
   all_goals try refine rO
   all_goals refine' zaj
  .rw[if_neg k50] at hJ;subst hJ;refine aU f49 ?_;dsimp only[vT];(repeat' (first|refine' a7|refine' qL|refine' yV|refine' aco|refine' acp|refine' acq|refine' yX|refine' aw|fail))
   all_goals try refine rO
   all_goals refine' zaj
 rw[if_neg k5,if_neg k6] at hJ;obtain rfl:kd=7:=by omega
 subst hJ;refine aU f49 ?_;dsimp only[vT];(repeat' (first|refine' a7|refine' qL|refine' aw|fail))
 all_goals try refine rO
 refine W.bN (λm l L=>∃(i b3:Nat)(w:List a6),Le [(0,bc b),(3,bc b3),(22,.slice a p.length c),(23,iv (p.length:Int)),(24,iv (i:Int))] l/\cz [.box b [.slice a p.length c,.slice a' q.length c'] 26 false,.aN (.slice a p.length c) 39 2 (ai w),.aN (.slice a' q.length c') 61 3 (ai q),.box b3 [iv 7,sv pa,sv to,iv (an:Int),sv tx] 28 false] L/\m=p.length-i/\i<=p.length/\w=(p.take i).map (xJ pa to)++p.drop i)
  (λl L=>Le [(0,bc b)] l/\cz [.box b [.slice a p.length c,.slice a' q.length c'] 26 false,.aN (.slice a p.length c) 39 2 (ai (p.map (xJ pa to))),.aN (.slice a' q.length c') 61 3 (ai q)] L) _ ⟨0,_,p,bk,au,rfl,ag,by simp⟩ ?_ ?_
 .rintro m l L ⟨i,b3,w,hl,hL,rfl,g1,g2⟩;refine W.le ?_ hl hL;clear hl hL;have X6:w.length=p.length:=by rw[g2,bJ,ux,cZ,gd];omega
  by_cases hi:i<p.length
  .have hwi:w.getD i ak.ah=p.getD i ak.ah:=by
    rw[g2,aR,zY (by rw[ux,cZ];omega),yh,ux,cZ,aR]
    congr 2;omega
   have Cd:=hV.ps _ (aJ hi ak.ah);have pk:∀y,y=xJ pa to (p.getD i ak.ah)->w.set i y=(p.take (i+1)).map (xJ pa to)++p.drop (i+1):=λy hy=>by
    rw[g2,List.set_append,if_neg (by rw[ux,cZ];omega),wz,J7,kG]
    congr 1
    rw[drop_cons hi,ux,cZ,show i-min i p.length=0 by omega,List.set_cons_zero,hy,bd hi,aR,bd hi];rfl
   rw[<-hwi] at Cd pk;have abn:=λs=>Jr s (w.getD i ak.ah).af pa ag ag
   have C5:w.set i (w.getD i ak.ah)=w:=by
    rw[aR,bd ag];exact List.set_getElem_self _
   have Vl:((w.getD i ak.ah).af.drop pa.length).length=(w.getD i ak.ah).af.length-pa.length:=gd;clear hwi g2;cases hh:Ey (w.getD i ak.ah).af pa with
   |false=>
    have UK:∀s,bP 70 [sv (w.getD i ak.ah).af,sv pa] s [] (.tuple ⟨[sv (w.getD i ak.ah).af,.bool false]⟩):=λs=>by have:=abn s;rwa [if_neg (by rw[hh];exact jT)] at this
    have UJ:(w.getD i ak.ah)=xJ pa to (w.getD i ak.ah):=by
     unfold xJ od;unfold Ey at hh;rw[if_neg (λh=>by rw[dt h.1,dt h.2] at hh;cases hh)]
    have oJ:=pk _ UJ;rw[C5] at oJ;clear hh abn pk UJ C5;(repeat' (first|refine' a7|refine' SX|refine' aw|fail))
    all_goals try refine cM
    all_goals exact⟨_,ag,i+1,b3,w,bk,au,rfl,ag,oJ⟩
   |true=>
    have UK:∀s,bP 70 [sv (w.getD i ak.ah).af,sv pa] s [] (.tuple ⟨[sv ((w.getD i ak.ah).af.drop pa.length),.bool true]⟩):=λs=>by have:=abn s;rwa [if_pos hh] at this
    have ni:od (w.getD i ak.ah).af pa=if((w.getD i ak.ah).af.drop pa.length)=[]\/((w.getD i ak.ah).af.drop pa.length).getD 0 0=47 then some ((w.getD i ak.ah).af.drop pa.length) else none:=by
     unfold od;unfold Ey at hh;rw[bU,bQ,bQ] at hh;rw[if_pos hh]
    clear hh abn;by_cases e1:((w.getD i ak.ah).af.drop pa.length)=[]\/((w.getD i ak.ah).af.drop pa.length).getD 0 0=47
    .have oJ:=pk ⟨to++((w.getD i ak.ah).af.drop pa.length),(w.getD i ak.ah).id⟩ (by unfold xJ;rw[ni,if_pos e1]);clear pk C5 ni;rcases Classical.em (((w.getD i ak.ah).af.drop pa.length)=[]) with e2|e2
     ·(repeat' (first|refine' a7|refine' SX|refine' QK|refine' aw|fail))
      all_goals try refine cM
      all_goals exact⟨_,ag,i+1,b3,_,bk,au,rfl,ag,oJ⟩
     .have e3:(((w.getD i ak.ah).af.drop pa.length).getD 0 0).toNat=47:=by rw[e1.resolve_left e2];rfl
      have e4:0<((w.getD i ak.ah).af.drop pa.length).length:=oD.2 e2;(repeat' (first|refine' a7|refine' SX|refine' QK|refine' aw|fail))
      all_goals try refine cM
      all_goals exact⟨_,ag,i+1,b3,_,bk,au,rfl,ag,oJ⟩
    .have oJ:=pk (w.getD i ak.ah) (by unfold xJ;rw[ni,if_neg e1]);rw[C5] at oJ;clear pk C5 ni;have e2:¬((w.getD i ak.ah).af.drop pa.length)=[]:=λh=>e1 (.inl h)
     have e3:¬(((w.getD i ak.ah).af.drop pa.length).getD 0 0).toNat=47:=λh=>e1 (.inr (w6.1 h))
     have e4:0<((w.getD i ak.ah).af.drop pa.length).length:=oD.2 e2;(repeat' (first|refine' a7|refine' SX|refine' QK|refine' aw|fail))
     all_goals try refine cM
     all_goals exact⟨_,ag,i+1,b3,w,bk,au,rfl,ag,oJ⟩
  .have fE:i=p.length:=by omega
   subst fE;rw[gX,iD,ix] at g2;subst g2;(refine' cU)
   all_goals try refine cM
   all_goals exact⟨bk,au⟩
 .rintro l L ⟨hl,hL⟩;(repeat(first|(with_reducible refine aq ?_)|(with_reducible refine dH ?_)|(with_reducible refine eB ?_)))
  refine W.le ?_ hl hL;clear hl hL;(repeat' (first|refine' a7|refine' yX|refine' aw|fail))
  all_goals try refine rO
  all_goals refine' zaj
def wr (st:ar)(z:aA)(level:Int):ar×jt×Bool:=match bf st z level with
 |none=>(st,bq,false)
 |some (st1,p)=>(st1,p,true)
def wrV (p:jt)(ok:Bool):Value->Value:=λV=>.tuple ⟨[V,pv p,.bool ok]⟩
theorem xB (s:St)(v:SA)(st:ar)(h:dv 100000 st)(z:aA)(hz:z.length<=3000)(level:Int):eQ a8 bj 191 [fD v st,sv z,iv level] s [] v st (wr st z level).1 false (wrV (wr st z level).2.1 (wr st z level).2.2):=by
 have KF:=h.lr;have Cj:=h.lf;have hll:=h.ll;refine aU f191 ?_;cases Z7:st.same with
 |true=>
  by_cases hl0:level=0
  .have TC:decide (level=0)=true:=dt hl0;cases hk:VS st z with
   |some i=>
    have hi:=Pg.lg hk;have wJ:∀s,cK s v st->bP 239 [fD v st,sv z] s (iH v) (iv i):=λs hr=>by
     have:=Hv s v st h z hr;rw[hk] at this;exact this
    have aeW: -(100000:Int)<=st.aX.getD i ak.ah/\st.aX.getD i ak.ah<=100000:=h.ref i;have hw:bf st z level=match sk i st.fC level z with
      |none=>none
      |some p=>some ({st with er:=st.er.set i z,aX:=st.aX.set i (st.aX.getD i 0+1),dm:=st.dm.set i st.fC},p):=by
     unfold bf ou;rw[Z7,TC];simp only[F5,if_true];rw[hk];rfl
    cases hp:sk i st.fC level z with
    |none=>
     have ZD:∀s,bP 241 [iv i,iv st.fC,iv level,sv z] s [] (uo none):=λs=>by have:=oP s i st.fC level z ag;rwa [hp] at this
     rw[hp] at hw;have nU:wr st z level=(st,bq,false):=by unfold wr;rw[hw]
     rw[nU];(repeat' (first|refine' a7|refine' G5|refine' WI|refine' aw|fail))
     (refine' dW)
     .rfl
     .exact λ_=>rfl
    |some p=>
     have ZD:∀s,bP 241 [iv i,iv st.fC,iv level,sv z] s [] (uo (some p)):=λs=>by have:=oP s i st.fC level z ag;rwa [hp] at this
     rw[hp] at hw;have nU:wr st z level=({st with er:=st.er.set i z,aX:=st.aX.set i (st.aX.getD i 0+1),dm:=st.dm.set i st.fC},p,true):=by unfold wr;rw[hw]
     rw[nU];(repeat' (first|refine' a7|refine' G5|refine' WI|refine' aw|fail))
     (refine' dW)
     .rfl
     .exact λ_=>rfl
   |none=>
    have wJ:∀s,cK s v st->bP 239 [fD v st,sv z] s (iH v) (iv (-1)):=λs hr=>by
     have:=Hv s v st h z hr;rw[hk] at this;exact this
    cases hf:De st with
    |some i=>
     refine' zak
     have aeW: -(100000:Int)<=st.aX.getD i ak.ah/\st.aX.getD i ak.ah<=100000:=h.ref i;have hw:bf st z level=match sk i st.fC level z with
       |none=>none
       |some p=>some ({st with er:=st.er.set i z,aX:=st.aX.set i (st.aX.getD i 0+1),dm:=st.dm.set i st.fC},p):=by
      unfold bf ou;rw[Z7,TC];simp only[F5,if_true];rw[hk];simp only;rw[hf];rfl
     refine' zab
    |none=>
     refine' zal
     have hw:bf st z level=none:=by
      unfold bf ou;rw[Z7,TC];simp only[F5,if_true];rw[hk];simp only;rw[hf]
     refine' zay
     .rfl
     .exact λ_=>rfl
  .have TC:decide (level=0)=false:=gS hl0;cases hf:De st with
   |some i=>
    refine' zak
    have aeW: -(100000:Int)<=st.aX.getD i ak.ah/\st.aX.getD i ak.ah<=100000:=h.ref i;have hw:bf st z level=match sk i st.fC level z with
      |none=>none
      |some p=>some ({st with er:=st.er.set i z,aX:=st.aX.set i (st.aX.getD i 0+1),dm:=st.dm.set i st.fC},p):=by
     unfold bf ou;rw[Z7,TC];simp only[Bool.and_false,jQ,pg];rw[hf];rfl
    refine' zab
   |none=>
    refine' zal
    have hw:bf st z level=none:=by
     unfold bf ou;rw[Z7,TC];simp only[Bool.and_false,jQ,pg];rw[hf]
    refine' zay
    .rfl
    .exact λ_=>rfl
 |false=>
  cases hf:De st with
  |some i=>
   refine' zak
   have aeW: -(100000:Int)<=st.aX.getD i ak.ah/\st.aX.getD i ak.ah<=100000:=h.ref i;have hw:bf st z level=match sk i st.fC level z with
     |none=>none
     |some p=>some ({st with er:=st.er.set i z,aX:=st.aX.set i (st.aX.getD i 0+1),dm:=st.dm.set i st.fC},p):=by
    unfold bf ou;rw[Z7];simp only[Kj,jQ,pg];rw[hf];rfl
   refine' zab
  |none=>
   refine' zal
   have hw:bf st z level=none:=by
    unfold bf ou;rw[Z7];simp only[Kj,jQ,pg];rw[hf]
   refine' zay
   .rfl
   .exact λ_=>rfl
theorem TE (s:St)(v:SA)(aX dm:List Int)(i:Nat)(hf:aX.length=64)(hl:dm.length=64)(hi:i<64)(hb: -1000000<=aX.getD i ak.ah/\aX.getD i ak.ah<=1000000):
  Bi 169 [.agg ⟨[.slice v.f 64 v.fc,.slice v.l 64 v.lc]⟩,iv i] s [.aN (.slice v.f 64 v.fc) 3 1 (ai aX),.aN (.slice v.l 64 v.lc) 3 1 (ai dm)] [] λr' L'=>r'= .agg ⟨[.slice v.f 64 v.fc,.slice v.l 64 v.lc]⟩/\L'=[.aN (.slice v.f 64 v.fc) 3 1 (ai (aX.set i (aX.getD i 0-1))),.aN (.slice v.l 64 v.lc) 3 1 (ai (if aX.getD i 0-1=0 then dm.set i 0 else dm))]:=by
 have oJ:(aX.set i (aX.getD i ak.ah-1)).getD i ak.ah=aX.getD i ak.ah-1:=by
  show(aX.set i _).getD i 0=_;rw[Pg.j4,if_pos ⟨rfl,ag⟩]
 have Q7:(aX.set i (aX.getD i ak.ah-1)).length=64:=by rw[gE];exact hf
 refine aU f169 ?_;(refine' cU)
 .rw[if_pos (show aX.getD i 0-1=0 from oJ.symm.trans (by assumption))];(refine' ack);rfl
 .rw[if_neg (show ¬aX.getD i 0-1=0 from λhx=>(by assumption:¬_) (oJ.trans hx))];(refine' ack);rfl
theorem SZ (s:St)(v:SA)(st:ar)(h:dv 100000 st)(row:Int)(hr:0<=row/\row<64):eQ a8 bj 118 [fD v st,iv row] s [] v st (drop st row) true id:=by
 obtain⟨i,rfl⟩:=wB hr.1;have hi:i<64:=by omega
 have KF:=h.lr;have Cj:=h.lf;have hll:=h.ll;have hb: -1000000<=st.aX.getD i ak.ah/\st.aX.getD i ak.ah<=1000000:=by
  have hb0: -(100000:Int)<=st.aX.getD i ak.ah/\st.aX.getD i ak.ah<=100000:=h.ref i;omega
 have hg:∀s,Bi 169 [.agg ⟨[.slice v.f 64 v.fc,.slice v.l 64 v.lc]⟩,iv i] s [.aN (.slice v.f 64 v.fc) 3 1 (ai st.aX),.aN (.slice v.l 64 v.lc) 3 1 (ai st.dm)] [] λr' L'=>r'= .agg ⟨[.slice v.f 64 v.fc,.slice v.l 64 v.lc]⟩/\L'=[.aN (.slice v.f 64 v.fc) 3 1 (ai (st.aX.set i (st.aX.getD i 0-1))),.aN (.slice v.l 64 v.lc) 3 1 (ai (if st.aX.getD i 0-1=0 then st.dm.set i 0 else st.dm))]:=λs=>TE s v st.aX st.dm i Cj hll hi hb
 have oJ:(st.aX.set i (st.aX.getD i 0-1)).getD i ak.ah=st.aX.getD i 0-1:=by
  show(st.aX.set i _).getD i 0=_;rw[Pg.j4,if_pos ⟨rfl,ag⟩]
 have Q7:(st.aX.set i (st.aX.getD i 0-1)).length=64:=by rw[gE];exact Cj
 by_cases hz:st.aX.getD i 0-1=0
 .have hd:drop st i={st with er:=st.er.set i [],aX:=st.aX.set i (st.aX.getD i 0-1),dm:=st.dm.set i 0}:=by
   unfold drop;simp only[uy,if_pos hz]
  rw[hd];simp only[if_pos hz] at hg;have hzd:decide ((st.aX.set i (st.aX.getD i 0-1)).getD i ak.ah=0)=true:=dt (oJ.trans hz);refine aU f118 ?_;dsimp only[eO];(refine' acK)
  (refine' dW)
  .rfl
  .intro hc;cases hc
 .have hd:drop st i={st with aX:=st.aX.set i (st.aX.getD i 0-1)}:=by
   unfold drop;simp only[uy,if_neg hz]
  rw[hd];simp only[if_neg hz] at hg;have hzd:decide ((st.aX.set i (st.aX.getD i 0-1)).getD i ak.ah=0)=false:=gS (λhx=>hz (oJ.symm.trans hx));refine aU f118 ?_;dsimp only[eO];(refine' acK)
  (refine' dW)
  .rfl
  .intro hc;cases hc
theorem G6 (s:St)(v:SA)(st:ar)(h:dv 100000 st)(p:jt)(hp:bw p=true):eQ a8 bj 193 [fD v st,pv p] s [] v st (free st p) true id:=by
 have gL:=h.gl;have uq:=h.dl;cases hh:aI p with
 |true=>
  rw[show free st p=st from Pg.AH hh];refine aU f193 ?_;dsimp only[eO];(refine' BV)
  (refine' dW)
  .rfl
  .intro hc;cases hc
 |false=>
  have hrg:=zh hp hh;have Ae:free st p=if p.dg<=st.oL then {st with ej:=st.ej++[p]} else if p.dg<st.fC then {st with cI:=st.cI++[p]} else drop st p.row:=by
   unfold free;rw[if_neg (by rw[hh];simp)]
  rw[Ae];by_cases h1:p.dg<=st.oL
  .rw[if_pos h1];have h1d:=dt h1;refine aU f193 ?_;dsimp only[eO];(refine' BV)
   (refine' ad5)
   .rfl
   .intro hc;cases hc
  .rw[if_neg h1];have h1d:=gS h1;by_cases h2:p.dg<st.fC
   .rw[if_pos h2];have h2d:=dt h2;refine aU f193 ?_;dsimp only[eO];(refine' BV)
    (refine' ad6)
    .rfl
    .intro hc;cases hc
   .rw[if_neg h2];have h2d:=gS h2;refine aU f193 ?_;dsimp only[eO];(repeat' (first|refine' a7|refine' GW|refine' acr|refine' aw|fail))
    (refine' dW)
    .rfl
    .intro hc;cases hc
def vg (st:ar)(l:cW)(level:Int)(old:jt):ar×jt×Bool:=match Oi st l level old with
 |none=>(st,bq,false)
 |some (x,p)=>(x,p,true)
theorem xM {l:cW}(h4:l.length=4):((km l).getD []).length<=128:=by
 cases h:km l with
 |none=>simp
 |some s=>
  have:=(Pg.LW h).2.2.2;subst this;exact(Pg.aa2 h4).1
end Go.Pl
