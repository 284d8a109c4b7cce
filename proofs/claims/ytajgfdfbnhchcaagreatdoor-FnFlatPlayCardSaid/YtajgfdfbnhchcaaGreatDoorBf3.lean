/- Lemmas of the proof. No conditions. -/
import Derived.Test.YtajgfdfbnhchcaaGreatDoorBf2
set_option maxRecDepth 100000
set_option maxHeartbeats 4000000
set_option linter.unusedVariables false
set_option linter.unusedSimpArgs false
open Go.Proofs.Tryz
namespace Go.Pl
open Go Go.Ev Go.Lg Go.Proofs
variable {f:FuncId}{s:St}{Γ:qV}{a:aM}{E:ig}{X:fR}{l:Kn}{L:bZ}{z:az}{R:bZ}{K:KO}{g:FuncId}{xs:List Operand}{ts:Array TypeId}{vs:a6}{b b2:Nat}{k:Int}{a':aM}{c c':Nat}{q:fg}{r:Value}{g2:FuncId}{p:List a7}{x y:It}{a2:aM}{n n2 sz sz2:Nat}{cs cs2:a6}{P:List a7}{Q:fg}
section
variable {b n n' n1 n2 b3 sz2 nn:Nat}
theorem WO.aeL {N N':Nat}(hx:kA l xs [bg b])(hp:oZ [.box b [.slice a n c,.slice a' n' c'] 26 false,.aQ (.slice a N c) 39 2 (ai p),.aQ (.slice a' N' c') 61 3 (ai q)] L R)(hN:N=p.length)(hN':N'=q.length)(hP:p.take n=P)(hQ:q.take n'=Q)(hn:n<=p.length)(hn':n'<=q.length)(h:∀s,fM E X g [bg b] s (wo b a n c p a' n' c' q) [] λR L=>R= .tuple ⟨[]⟩/\L=wo b a n c (Ev.gS (p.take n)++p.drop n) a' n' c' (Ev.il (q.take n')++q.drop n'))
  (k:∀m m' p2 q2,jX L m->m<=m'->n<=p2.length->p2.take n=Ev.gS P->n'<=q2.length->q2.take n'=Ev.il Q->K (.tuple ⟨[]⟩) (wo b a n c p2 a' n' c' q2++R) m m' (FtR [] (wo b a n c p a' n' c' q) m m') (FtW (wo b a n c p a' n' c' q) m m')):WC E X Γ l g xs ts L K:=by
 subst hN hN';exact WO.call (Lm:=wo b a n c p a' n' c' q) (R:=R) (A:=[]) hx hp.cZ (λs hi b hb=>by cases hb) (λs hi=>h s) (by
  rintro r' L' m m' ho hm ⟨rfl,rfl⟩;have e1:(Ev.gS (p.take n)).length=n:=by rw[wk,cW];omega
  have e2:(Ev.il (q.take n')).length=n':=by rw[wm,cW];omega
  refine k m m' _ _ ho hm ?_ ?_ ?_ ?_
  .rw[bL,e1];omega
  .rw[B8 ag,qW ag,hP]
  .rw[bL,e2];omega
  .rw[B8 ag,qW ag,hQ])
theorem WO.RS {α:Type}{sz e:Nat}{enc:ak α sz}{p f:List α}(hx:kA l xs [.slice a p.length c,.func (.func g2) ⟨[]⟩ ⟨[bg b3]⟩])(hp:oZ [It.aQ (.slice a p.length c) e sz (ai (sz:=sz) p)] L R)(hh:jB Γ R (jz b3) nn sz2 cs2)
  (h:∀s,bH s (jz b3) nn sz2 cs2->b3∉[It.aQ (.slice a p.length c) e sz (ai (sz:=sz) p)].flatMap It.a8->fM E X g [.slice a p.length c,.func (.func g2) ⟨[]⟩ ⟨[bg b3]⟩] s [It.aQ (.slice a p.length c) e sz (ai (sz:=sz) p)] (aj (jz b3)) λR L=>∃p':List α,p'.length=p.length/\p'.take f.length=f/\R= .slice a f.length c/\L=[It.aQ (.slice a p.length c) e sz (ai (sz:=sz) p')])
  (k:∀m m' (p':List α),jX L m->m<=m'->p'.length=p.length->p'.take f.length=f->Sub sz a p' a f->K (.slice a f.length c) (It.aQ (.slice a p'.length c) e sz (ai (sz:=sz) p')::R) m m' (λi=>i∈aj (jz b3)\/i∈[It.aQ (.slice a p.length c) e sz (ai (sz:=sz) p)].flatMap It.a8\/(m<=i/\i<m')) (λi=>i∈[It.aQ (.slice a p.length c) e sz (ai (sz:=sz) p)].flatMap It.a8\/(m<=i/\i<m'))):WC E X Γ l g xs ts L K:=
 WO.call (Lm:=[It.aQ (.slice a p.length c) e sz (ai (sz:=sz) p)]) (R:=R) hx hp.cZ (λs hi=>(hh.row (hi.cZ hp.cZ|>.sub ⟨R,.refl _,nK _ _⟩)).2) (λs hi=>h s (hh.row (hi.cZ hp.cZ|>.sub ⟨R,.refl _,nK _ _⟩)).1 (jB.apart hh (hi.cZ hp.cZ) _ (by simp[aj]))) (by
   rintro r' L' m m' ho hm ⟨p',h1,h2,rfl,rfl⟩;have h3:f.length<=p'.length:=by
    have:=ep List.length h2;rw[cW] at this;omega
   have:=k m m' p' ho hm h1 h2 ⟨⟨0,f.length,by rw[CX,h2],ag,⟨.inl (by rw[IY,aaP])⟩⟩⟩
   rwa [h1] at this)
theorem WO.Xp {k1 k2:Int}{z1 z2 z3:az}{t3:TypeId}{w3:Bool}{α:Type}{sz e:Nat}{enc:ak α sz}{p f:List α}(hx:kA l xs [.slice a p.length c,.func (.func g2) ⟨[]⟩ ⟨[bg b3]⟩])(hp:oZ [It.aQ (.slice a p.length c) e sz (ai (sz:=sz) p)] L R)(hm3:It.box b3 [iv k1,sv z1,sv z2,iv k2,sv z3] t3 w3∈R)
  (h:∀s,bH s (jz b3) 1 5 [iv k1,sv z1,sv z2,iv k2,sv z3]->b3∉[It.aQ (.slice a p.length c) e sz (ai (sz:=sz) p)].flatMap It.a8->fM E X g [.slice a p.length c,.func (.func g2) ⟨[]⟩ ⟨[bg b3]⟩] s [It.aQ (.slice a p.length c) e sz (ai (sz:=sz) p)] (aj (jz b3)) λR L=>∃p':List α,p'.length=p.length/\p'.take f.length=f/\R= .slice a f.length c/\L=[It.aQ (.slice a p.length c) e sz (ai (sz:=sz) p')])
  (k:∀m m' (p':List α),jX L m->m<=m'->p'.length=p.length->p'.take f.length=f->Sub sz a p' a f->K (.slice a f.length c) (It.aQ (.slice a p'.length c) e sz (ai (sz:=sz) p')::R) m m' (λi=>i∈aj (jz b3)\/i∈[It.aQ (.slice a p.length c) e sz (ai (sz:=sz) p)].flatMap It.a8\/(m<=i/\i<m')) (λi=>i∈[It.aQ (.slice a p.length c) e sz (ai (sz:=sz) p)].flatMap It.a8\/(m<=i/\i<m'))):WC E X Γ l g xs ts L K:=
 WO.RS hx hp (jB.box (n:=1) hm3 rfl rfl) h k
theorem WO.Xq {k1:Int}{t3:TypeId}{w3:Bool}{α:Type}{sz e:Nat}{enc:ak α sz}{p f:List α}(hx:kA l xs [.slice a p.length c,.func (.func g2) ⟨[]⟩ ⟨[bg b3]⟩])(hp:oZ [It.aQ (.slice a p.length c) e sz (ai (sz:=sz) p)] L R)(hm3:It.box b3 [iv k1] t3 w3∈R)
  (h:∀s,bH s (jz b3) 1 1 [iv k1]->b3∉[It.aQ (.slice a p.length c) e sz (ai (sz:=sz) p)].flatMap It.a8->fM E X g [.slice a p.length c,.func (.func g2) ⟨[]⟩ ⟨[bg b3]⟩] s [It.aQ (.slice a p.length c) e sz (ai (sz:=sz) p)] (aj (jz b3)) λR L=>∃p':List α,p'.length=p.length/\p'.take f.length=f/\R= .slice a f.length c/\L=[It.aQ (.slice a p.length c) e sz (ai (sz:=sz) p')])
  (k:∀m m' (p':List α),jX L m->m<=m'->p'.length=p.length->p'.take f.length=f->Sub sz a p' a f->K (.slice a f.length c) (It.aQ (.slice a p'.length c) e sz (ai (sz:=sz) p')::R) m m' (λi=>i∈aj (jz b3)\/i∈[It.aQ (.slice a p.length c) e sz (ai (sz:=sz) p)].flatMap It.a8\/(m<=i/\i<m')) (λi=>i∈[It.aQ (.slice a p.length c) e sz (ai (sz:=sz) p)].flatMap It.a8\/(m<=i/\i<m'))):WC E X Γ l g xs ts L K:=
 WO.RS hx hp (jB.box (n:=1) hm3 rfl rfl) h k
theorem WO.al4 {x:Operand}{t t2:TypeId}{n c e:Nat}{w:Bool}{z:List UInt8}{enc:ak UInt8 1}[h1:TT E t e 1 UInt8 enc][h2:zc E t2][h3:xM E e .u8](he:∀c,ak.cells c=[bv c])(hx:Ev l x (.slice (jz b) n c))(hm:It.box b (ai z) e w∈L)(hn:n=z.length)(k:∀m,K (sv z) L m m (λi=>i∈aj (jz b)) Z):WO E X Γ l (.convert t t2 x) L K:=by subst hn;exact WO.str he hx (jB.box hm rfl (by rw[bp])) k
end
abbrev A7 (E:ig)(X:fR)(g:FuncId)(vs:a6)(s:St)(b:Nat)(a:aM)(c:Nat)(p:List a7)(a':aM)(c':Nat)(q:fg)(r:Value)(F:Flat):Prop:=
 fM E X g vs s (wo b a p.length c p a' q.length c' q) [] λR L=>R=r/\∃a1 n1 c1 p1 a2 n2 c2 q2,n1<=p1.length/\p1.take n1=F.ad/\n2<=q2.length/\q2.take n2=F.ae/\L=wo b a1 n1 c1 p1 a2 n2 c2 q2
theorem ai6 (s:St)(b:Nat)(a:aM)(c:Nat)(p:List a7)(a':aM)(c':Nat)(q:fg)(hV:J3 p q)(o:Op)(hz:o.af.length<=3000)(hy:o.to.length<=3000)(hk7:1<=o.kind/\o.kind<=7)(nJ:0<=o.at_/\o.at_<=192)(yy:o.bq.length<=24)(hql:∀x∈q,x.bq.length<=5000)(afo:o.kind=3\/o.kind=4->∃t,ot q (de p o.af)=some t)
  (hP1:1<=(oN p q o).1.length)(hQ1:1<=(oN p q o).2.length)(hPa:Ev.xJ (oN p q o).1=true)(hQa:Ev.xK (oN p q o).2=true):A7 bh bw 49 [bg b,ov o] s b a c p a' c' q (.tuple ⟨[]⟩) (Gq p q o):=by
 obtain⟨kd,pa,tq9,at_,tx⟩:=o;dsimp only at hz hy hk7 nJ yy afo;obtain⟨an,rfl⟩:=wT nJ.1;have rS:=hV.pl;have adq:=hV.ql;have Xo:∀s a n c (p0:List a7) a' n' c' (q0:fg),p0.take n=(oN p q ⟨kd,pa,tq9,(an:Int),tx⟩).1->q0.take n'=(oN p q ⟨kd,pa,tq9,(an:Int),tx⟩).2->n<=p0.length/\p0.length<=100000->n'<=q0.length/\q0.length<=100000->BH 93 [bg b] s (wo b a n c p0 a' n' c' q0) [] λR L=>R= .tuple ⟨[]⟩/\L=wo b a n c (Ev.gS (p0.take n)++p0.drop n) a' n' c' (Ev.il (q0.take n')++q0.drop n'):=λs a n c p0 a' n' c' q0 h1 h2 h3 h4=>by
  have e1:n=(p0.take n).length:=by rw[cW];omega
  have e2:n'=(q0.take n').length:=by rw[cW];omega
  exact Nh s b a n c p0 a' n' c' q0 (by rw[e1,h1];exact hP1) h3.1 h3.2 (by rw[h1];exact hPa) (by rw[e2,h2];exact hQ1) h4.1 h4.2 (by rw[h2];exact hQa)
 have D0:∀s z,iX s b a c p a' c' q->bF 21 [bg b,sv z] s (rb b a a') (iv (de p z)):=M4 hV;have hrm:∀s,iX s b a c p a' c' q->bF 86 [bg b] s (rb b a a') (iv (yz q 16 0)):=adv hV;show A7 bh bw 49 [bg b,.agg ⟨[iv kd,sv pa,sv tq9,iv (an:Int),sv tx]⟩] s b a c p a' c' q (.tuple ⟨[]⟩) (Gq p q ⟨kd,pa,tq9,(an:Int),tx⟩);unfold Gq;clear hP1 hQ1 hPa hQa;generalize hJ:oN p q ⟨kd,pa,tq9,(an:Int),tx⟩=J at Xo⊢;unfold oN at hJ;dsimp only at hJ;by_cases k1:kd=1\/kd=2
 .rw[if_pos k1] at hJ;subst hJ;rcases k1 with rfl|rfl
  .refine aT f49 ?_;dsimp only[wo];repeat' (first|refine' aW|refine' q9|refine' aeK|refine' TI|refine' Xn|refine' Pt|refine' zi|refine' zj|refine' av|fail)
   (all_goals try refine rB);all_goals refine' zak
  .refine aT f49 ?_;dsimp only[wo];repeat' (first|refine' aW|refine' q9|refine' aeK|refine' TI|refine' Xn|refine' Pt|refine' zi|refine' zj|refine' av|fail)
   (all_goals try refine rB);all_goals refine' zak
 rw[if_neg k1] at hJ;by_cases k6:kd=6
 .rw[if_neg ag,if_neg ag,if_neg ag,if_pos k6] at hJ;subst hJ;subst k6;refine aT f49 ?_;dsimp only[wo];repeat' (first|refine' aW|refine' q9|refine' TI|refine' Xn|refine' zj|refine' av|fail)
  all_goals try refine rB
  all_goals refine' zak
 by_cases k3:kd=3
 .rw[if_pos k3] at hJ;subst k3;obtain⟨t,ht⟩:=afo ag;have kC:∀s,iX s b a c p a' c' q->bF 30 [bg b,iv (de p pa)] s (rb b a a') (dr a' t 3 0):=λs hr=>by
   have:=fX s b a c p a' c' q hV.st hV.ql (de p pa) hr;rw[ht] at this;exact this
  have pO:=lU ht;have Cy:=hql _ (aK pO ak.ah);by_cases k30:tx=[]
  .rw[if_pos k30] at hJ;subst hJ;refine aT f49 ?_;dsimp only[wo];repeat' (first|refine' aW|refine' q9|refine' TC|refine' zj|refine' av|fail)
   (all_goals try refine rB);all_goals refine' zak
  .rw[if_neg k30] at hJ;have hxp:0<tx.length:=nL.2 k30;have V0:=E4 (max 0 ((an:Int)+(tx.length:Int)-((q.getD t ak.ah).bq.length:Int))).toNat;have hzl:((q.getD t ak.ah).bq++Ev.y8 [0] (max 0 ((an:Int)+(tx.length:Int)-((q.getD t ak.ah).bq.length:Int))).toNat).length=(q.getD t ak.ah).bq.length+(max 0 ((an:Int)+(tx.length:Int)-((q.getD t ak.ah).bq.length:Int))).toNat:=by rw[bL,V0]
   unfold Oy at hJ;rw[ht] at hJ;subst hJ;refine aT f49 ?_;dsimp only[wo];(repeat' (first|refine' aW|refine' q9|refine' TC|refine' aaX|((with_reducible apply WO.aV);exact aC;exact λs=>Ie s _ ag;intros)|((with_reducible apply WO.alX);exact gT;exact gT;exact oh;exact mH;intro _)|((with_reducible apply WO.ai2);(exact λ_=>rfl);exact gT;exact gT;exact xS;exact mH;intro _)|((with_reducible apply WO.al4);(exact λ_=>rfl);exact gT;exact oh;(simp only[bL,cW,eW];omega);intro _)|refine' Rs|refine' zj|refine' av|fail));(all_goals try refine rB);all_goals refine' zak
 rw[if_neg k3] at hJ;by_cases k4:kd=4
 .rw[if_pos k4] at hJ;subst k4;obtain⟨t,ht⟩:=afo ag;have kC:∀s,iX s b a c p a' c' q->bF 30 [bg b,iv (de p pa)] s (rb b a a') (dr a' t 3 0):=λs hr=>by
   have:=fX s b a c p a' c' q hV.st hV.ql (de p pa) hr;rw[ht] at this;exact this
  have pO:=lU ht;have Cy:=hql _ (aK pO ak.ah);have V0:=E4 (max 0 ((an:Int)-((q.getD t ak.ah).bq.length:Int))).toNat;have hzl:((q.getD t ak.ah).bq++Ev.y8 [0] (max 0 ((an:Int)-((q.getD t ak.ah).bq.length:Int))).toNat).length=(q.getD t ak.ah).bq.length+(max 0 ((an:Int)-((q.getD t ak.ah).bq.length:Int))).toNat:=by rw[bL,V0]
  unfold Oy at hJ;rw[ht] at hJ;subst hJ;refine aT f49 ?_;dsimp only[wo];(repeat' (first|refine' aW|refine' q9|refine' TC|refine' aaX|((with_reducible apply WO.aV);exact aC;exact λs=>Ie s _ ag;intros)|refine' Rs|refine' zj|refine' av|fail));all_goals try refine rB
  all_goals refine' zak
 rw[if_neg k4] at hJ;by_cases k5:kd=5
 .rw[if_pos k5] at hJ;subst k5;have Cg:(p.filter λx=>!decide (x.af=pa)).length<=p.length:=yI _ _;have afp:(q.filter λx=>!decide (x.id=de p pa)).length<=q.length:=yI _ _;have hli:∀s,iX s b a c (p.filter λx=>!decide (x.af=pa)) a' c' q->bF 90 [bg b,iv (de p pa)] s (rb b a a') (iv (sf (p.filter λx=>!decide (x.af=pa)) (de p pa):Int)):=λs hr=>MT s b a c _ a' c' q ag _ hr
  unfold xg at hJ;by_cases k50:sf (p.filter λx=>!decide (x.af=pa)) (de p pa)=0
  .rw[if_pos k50] at hJ;subst hJ;refine aT f49 ?_;dsimp only[wo];repeat' (first|refine' aW|refine' q9|refine' zh|refine' acS|refine' acT|refine' acU|refine' zj|refine' av|fail)
   (all_goals try refine rB);all_goals refine' zak
  .rw[if_neg k50] at hJ;subst hJ;refine aT f49 ?_;dsimp only[wo];repeat' (first|refine' aW|refine' q9|refine' zh|refine' acS|refine' acT|refine' acU|refine' zj|refine' av|fail)
   (all_goals try refine rB);all_goals refine' zak
 rw[if_neg k5,if_neg k6] at hJ;obtain rfl:kd=7:=by omega
 subst hJ;refine aT f49 ?_;dsimp only[wo];repeat' (first|refine' aW|refine' q9|refine' av|fail)
 all_goals try refine rB
 refine W.bN (λm l L=>∃(i b3:Nat)(w:List a7),Le [(0,bg b),(3,bg b3),(22,.slice a p.length c),(23,iv (p.length:Int)),(24,iv (i:Int))] l/\cC [.box b [.slice a p.length c,.slice a' q.length c'] 26 false,.aQ (.slice a p.length c) 39 2 (ai w),.aQ (.slice a' q.length c') 61 3 (ai q),.box b3 [iv 7,sv pa,sv tq9,iv (an:Int),sv tx] 28 false] L/\m=p.length-i/\i<=p.length/\w=(p.take i).map (xf pa tq9)++p.drop i)
  (λl L=>Le [(0,bg b)] l/\cC [.box b [.slice a p.length c,.slice a' q.length c'] 26 false,.aQ (.slice a p.length c) 39 2 (ai (p.map (xf pa tq9))),.aQ (.slice a' q.length c') 61 3 (ai q)] L) _ ⟨0,_,p,bj,ar,rfl,ag,ay⟩ ?_ ?_
 .rintro m l L ⟨i,b3,w,hl,hL,rfl,g1,g2⟩;refine W.le ?_ hl hL;clear hl hL;have YB:w.length=p.length:=by rw[g2,bL,td,cW,eW];omega
  by_cases hi:i<p.length
  .have hwi:w.getD i ak.ah=p.getD i ak.ah:=by
    rw[g2,aZ,Ao (by rw[td,cW];omega),wQ,td,cW,aZ]
    congr 2;omega
   have Cy:=hV.ps _ (aK hi ak.ah);have pF:∀y,y=xf pa tq9 (p.getD i ak.ah)->w.set i y=(p.take (i+1)).map (xf pa tq9)++p.drop (i+1):=λy hy=>by
    rw[g2,List.set_append,if_neg (by rw[td,cW];omega),uO,KI,ku]
    congr 1
    rw[drop_cons hi,td,cW,show i-min i p.length=0 by omega,List.set_cons_zero,hy,bd hi,aZ,bd hi];rfl
   rw[<-hwi] at Cy pF;have abS:=λs=>J5 s (w.getD i ak.ah).af pa ag ag
   have y3:w.set i (w.getD i ak.ah)=w:=by
    rw[aZ,bd ag];exact List.set_getElem_self _
   have V0:((w.getD i ak.ah).af.drop pa.length).length=(w.getD i ak.ah).af.length-pa.length:=eW;clear hwi g2;cases hh:E3 (w.getD i ak.ah).af pa with
   |false=>
    have Hz:∀s,bF 70 [sv (w.getD i ak.ah).af,sv pa] s [] (.tuple ⟨[sv (w.getD i ak.ah).af,.bool false]⟩):=λs=>by have:=abS s;rwa [if_neg (by rw[hh];exact iZ)] at this
    have Vr:(w.getD i ak.ah)=xf pa tq9 (w.getD i ak.ah):=by
     unfold xf l7;unfold E3 at hh;rw[if_neg (λh=>by rw[bY h.1,bY h.2] at hh;cases hh)]
    have oT:=pF _ Vr;rw[y3] at oT;clear hh abS pF Vr y3;(repeat' (first|refine' aW|refine' TH|refine' av|fail));(all_goals try refine cj);all_goals exact⟨_,ag,i+1,b3,w,bj,ar,rfl,ag,oT⟩
   |true=>
    have Hz:∀s,bF 70 [sv (w.getD i ak.ah).af,sv pa] s [] (.tuple ⟨[sv ((w.getD i ak.ah).af.drop pa.length),.bool true]⟩):=λs=>by have:=abS s;rwa [if_pos hh] at this
    have ni:l7 (w.getD i ak.ah).af pa=if((w.getD i ak.ah).af.drop pa.length)=[]\/((w.getD i ak.ah).af.drop pa.length).getD 0 0=47 then some ((w.getD i ak.ah).af.drop pa.length) else none:=by
     unfold l7;unfold E3 at hh;rw[bO,bQ,bQ] at hh;rw[if_pos hh]
    clear hh abS;by_cases e1:((w.getD i ak.ah).af.drop pa.length)=[]\/((w.getD i ak.ah).af.drop pa.length).getD 0 0=47
    .have oT:=pF ⟨tq9++((w.getD i ak.ah).af.drop pa.length),(w.getD i ak.ah).id⟩ (by unfold xf;rw[ni,if_pos e1]);clear pF y3 ni;rcases Classical.em (((w.getD i ak.ah).af.drop pa.length)=[]) with e2|e2
     ·(repeat' (first|refine' aW|refine' TH|refine' Rt|refine' av|fail))
      (all_goals try refine cj);all_goals exact⟨_,ag,i+1,b3,_,bj,ar,rfl,ag,oT⟩
     .have e3:(((w.getD i ak.ah).af.drop pa.length).getD 0 0).toNat=47:=by rw[e1.resolve_left e2];rfl
      have e4:0<((w.getD i ak.ah).af.drop pa.length).length:=nL.2 e2;(repeat' (first|refine' aW|refine' TH|refine' Rt|refine' av|fail));(all_goals try refine cj);all_goals exact⟨_,ag,i+1,b3,_,bj,ar,rfl,ag,oT⟩
    .have oT:=pF (w.getD i ak.ah) (by unfold xf;rw[ni,if_neg e1]);rw[y3] at oT;clear pF y3 ni;have e2:¬((w.getD i ak.ah).af.drop pa.length)=[]:=λh=>e1 (.inl h)
     (have e3:¬(((w.getD i ak.ah).af.drop pa.length).getD 0 0).toNat=47:=λh=>e1 (.inr (uJ.1 h)));have e4:0<((w.getD i ak.ah).af.drop pa.length).length:=nL.2 e2;(repeat' (first|refine' aW|refine' TH|refine' Rt|refine' av|fail));(all_goals try refine cj);all_goals exact⟨_,ag,i+1,b3,w,bj,ar,rfl,ag,oT⟩
  .have fF:i=p.length:=by omega
   subst fF;rw[gY,iI,gg] at g2;subst g2;refine' cR;(all_goals try refine cj);all_goals exact⟨bj,ar⟩
 .rintro l L ⟨hl,hL⟩;(repeat(first|(with_reducible first|refine aq ?_|refine dC ?_|refine ej ?_)))
  refine W.le ?_ hl hL;clear hl hL;repeat' (first|refine' aW|refine' zj|refine' av|fail)
  all_goals try refine rB
  all_goals refine' zak
theorem Qx (s:St)(a:aM)(c:Nat)(a2:aM)(c2:Nat)(p:List a7)(hp:p.length<=1000)(h1:bH s a p.length 2 (ai p))(h2:bH s a2 p.length 2 (ai p)):bF 28 [.slice a p.length c,.slice a2 p.length c2] s (aj a++aj a2) (.bool true):=by
 refine' zbk;refine aT f28 ?_;refine' cR;all_goals try refine rB
 all_goals refine' zaG
 .rintro m l L ⟨i,hl,hL,rfl,g1⟩;refine W.le ?_ hl hL;clear hl hL;by_cases hi:i<p.length
  .have he:(!decide (p.getD i ak.ah=p.getD i ak.ah))=false:=by rw[bY rfl];rfl
   (repeat' (first|refine' aW|((with_reducible apply WO.ajJ);exact gT;exact gT;intro _)|refine' av|fail));(all_goals try refine rB);all_goals exact⟨_,ag,i+1,bj,ar,rfl,ag⟩
  ·(refine' cR)
   (all_goals try refine rB);all_goals exact⟨bj,ar⟩
 .rintro l L ⟨hl,hL⟩;(repeat(first|(with_reducible first|refine aq ?_|refine dC ?_|refine ej ?_)))
  refine W.le ?_ hl hL;clear hl hL;refine' cR;all_goals refine' ax
  all_goals rfl
theorem Bc (s:St)(a:aM)(c:Nat)(a':aM)(c':Nat)(a2:aM)(c2:Nat)(Fw:aM)(ZH:Nat)(p:List a7)(q:fg)(hp:p.length<=1000)(hq:q.length<=1000)(h1:bH s a p.length 2 (ai p))(h2:bH s a' q.length 3 (ai q))(h3:bH s a2 p.length 2 (ai p))(h4:bH s Fw q.length 3 (ai q)):
  bF 10 [.agg ⟨ie a c p a' c' q⟩,.agg ⟨ie a2 c2 p Fw ZH q⟩] s ((aj a++aj a')++(aj a2++aj Fw)) (.bool true):=by
 have hd1:=Rd.of (A:=(aj a++aj a')++(aj a2++aj Fw)) h1 λ_ hb=>cT _ (cT _ hb)
 have Rf:=Rd.of (A:=(aj a++aj a')++(aj a2++aj Fw)) h2 λ_ hb=>cT _ (dE _ hb)
 have hd3:=Rd.of (A:=(aj a++aj a')++(aj a2++aj Fw)) h3 λ_ hb=>dE _ (cT _ hb)
 have hd4:=Rd.of (A:=(aj a++aj a')++(aj a2++aj Fw)) h4 λ_ hb=>dE _ (dE _ hb)
 refine aT f10 ?_;(repeat' (first|refine' aW|((with_reducible apply WO.Xm);exact aC;(intro s h1 h2;exact Qx s _ _ _ _ _ ag h1 h2);exact cb;exact cb;intros)|refine' av|fail));all_goals try refine rB
 refine W.bN (λm l L=>∃(i b2 b3:Nat),Le [(2,bg b2),(3,bg b3),(5,iv (i:Int))] l/\cC [.box b2 (ie a c p a' c' q) 26 false,.box b3 (ie a2 c2 p Fw ZH q) 26 false] L/\m=q.length-i/\i<=q.length)
  (λl L=>Le [] l/\cC [] L) _ ⟨0,_,_,bj,ar,rfl,ag⟩ ?_ ?_
 .rintro m l L ⟨i,b2,b3,hl,hL,rfl,g1⟩;refine W.le ?_ hl hL;clear hl hL;by_cases hi:i<q.length
  .have he:(!decide (q.getD i ak.ah=q.getD i ak.ah))=false:=by rw[bY rfl];rfl
   (repeat' (first|refine' aW|((with_reducible apply WO.ams);exact gT;exact gT;intro _)|refine' av|fail));(all_goals try refine rB);all_goals exact⟨_,ag,i+1,b2,b3,bj,ar,rfl,ag⟩
  ·(refine' cR)
   (all_goals try refine rB);all_goals exact⟨bj,ar⟩
 .rintro l L ⟨hl,hL⟩;(repeat(first|(with_reducible first|refine aq ?_|refine dC ?_|refine ej ?_)))
  refine W.le ?_ hl hL;clear hl hL;refine' cR;all_goals refine' ax
  all_goals rfl
end Go.Pl
namespace Go.Pl
open Go.Lg
variable {f:Flat}{y z:az}
theorem Si:∀n:Nat,Ev.y8 [0] n=List.replicate n 0
 |0=>rfl
 |n+1=>by
  show [0]++Ev.y8 [0] n=_;rw[Si n,List.replicate_succ];rfl
theorem Kt (t:az)(n:Int):Yw t n=t++List.replicate (n-t.length).toNat 0:=by unfold Yw;rw[Si,show(max 0 (n-(t.length:Int))).toNat=(n-(t.length:Int)).toNat by omega]
theorem afZ (t:az)(a:Int):ctJ a t=(t++iz (a-t.length)).take a.toNat:=by unfold ctJ;rw[Kt];rfl
theorem af0 (t x:az)(a:Nat):wrJ (a:Int) x t=gk t a x:=by
 unfold wrJ gk;rw[Kt];show _=(t++List.replicate ((a:Int)-(t.length:Int)).toNat 0).take a++x++(t++List.replicate ((a:Int)-(t.length:Int)).toNat 0).drop (min (t++List.replicate ((a:Int)-(t.length:Int)).toNat 0).length (a+x.length));have e1:(t++List.replicate ((a:Int)+(x.length:Int)-(t.length:Int)).toNat 0).take (a:Int).toNat=(t++List.replicate ((a:Int)-(t.length:Int)).toNat 0).take a:=by
  rw[Bk,Bk,List.take_replicate,List.take_replicate];rw[show(a:Int).toNat=a from rfl,show min (a-t.length) ((a:Int)+(x.length:Int)-(t.length:Int)).toNat=min (a-t.length) ((a:Int)-(t.length:Int)).toNat by omega]
 have e2:(t++List.replicate ((a:Int)+(x.length:Int)-(t.length:Int)).toNat 0).drop ((a:Int).toNat+x.length)=(t++List.replicate ((a:Int)-(t.length:Int)).toNat 0).drop (min (t++List.replicate ((a:Int)-(t.length:Int)).toNat 0).length (a+x.length)):=by
  rw[show(a:Int).toNat=a from rfl];by_cases h:a+x.length<=t.length
  .rw[show((a:Int)+(x.length:Int)-(t.length:Int)).toNat=0 by omega,show((a:Int)-(t.length:Int)).toNat=0 by omega];simp only[List.replicate_zero,gg];rw[Nat.min_eq_right h]
  .rw[yE (by rw[bL,qX];omega),yE];rw[bL,qX];omega
 rw[e1,e2]
theorem IJ {q:fg}(hs:gU q){x:Nat}{y:bP}(hy:y.id=(q.getD x eS).id):gU (q.set x y):=by
 refine uj.2 λi j hi hj nD=>?_
 rw[gN] at hi hj;have h0:=uj.1 hs i j hi hj nD;have key:∀k (hk:k<q.length),((q.set x y)[k]'(by rw[gN];exact hk)).id=q[k].id:=λk hk=>by
  rw[List.getElem_set];split
  .rename_i e;subst e;rw[hy,aZ,bd hk];rfl
  .rfl
 rw[key i hi,key j hj];exact h0
theorem Qv (h:iC f)(kd:Int)(pa tq9:az)(a:Nat)(tx:az)(hk:kd=3\/kd=4):f.change ⟨kd,pa,tq9,(a:Int),tx⟩=if de f.ad pa<0 then(f,2) else if iw f.ae (de f.ad pa)=true then(f,4) else if 192<(a:Int)+tx.length then(f,6) else(⟨Ev.gS (oN f.ad f.ae ⟨kd,pa,tq9,(a:Int),tx⟩).1,Ev.il (oN f.ad f.ae ⟨kd,pa,tq9,(a:Int),tx⟩).2⟩,0):=by
 unfold Flat.change;cases hn:rZ f.ad pa with
 |none=>rw[show f.dy pa=none from hn,if_pos ((h.vF _).2 hn)]
 |some k=>
  obtain⟨Aj,wN⟩:=h.yn hn;have D0:=h.lu hn;rw[show f.dy pa=some k from hn,if_neg (λe=>by rw[(h.vF _).1 e] at hn;cases hn)];obtain⟨x,hx⟩:=jh.1 (h.nm k Aj).1;show(match ot f.ae (f.ad.getD k cy).id with
   |none=>(f,(0:Int))
   |some x=>if(f.ae.getD x eS).aJ=true then(f,4) else if 192<(a:Int)+tx.length then(f,6) else if kd=4 then(f.y7 x (((f.ae.getD x eS).bq++iz ((a:Int)-((f.ae.getD x eS).bq.length:Int))).take (a:Int).toNat),0) else if tx≠[] then(f.y7 x (gk (f.ae.getD x eS).bq (a:Int).toNat tx),0) else(f,0))=_
  have Cg:iw f.ae (de f.ad pa)=(f.ae.getD x eS).aJ:=by unfold iw;rw[D0,hx]
  rw[hx];show(if(f.ae.getD x eS).aJ=true then(f,(4:Int)) else _)=_;rw[<-Cg];by_cases h1:iw f.ae (de f.ad pa)=true
  .rw[if_pos h1,if_pos h1]
  rw[if_neg h1,if_neg h1];by_cases h2:192<(a:Int)+tx.length
  .rw[if_pos h2,if_pos h2]
  rw[if_neg h2,if_neg h2];have yy:∀g,Oy f.ae (de f.ad pa) g=f.ae.set x ⟨(f.ae.getD x eS).id,(f.ae.getD x eS).aJ,g (f.ae.getD x eS).bq⟩:=λg=>by unfold Oy;rw[D0,hx]
  have iK:∀g:az,gU (f.ae.set x ⟨(f.ae.getD x eS).id,(f.ae.getD x eS).aJ,g⟩):=λg=>IJ h.st rfl
  rcases hk with rfl|rfl
  .rw[if_neg (show ¬(3:Int)=4 by decide)];have hJ:oN f.ad f.ae ⟨3,pa,tq9,(a:Int),tx⟩=(f.ad,if tx=[] then f.ae else Oy f.ae (de f.ad pa) (wrJ (a:Int) tx)):=by
    unfold oN;dsimp only;rw[if_neg bJ,if_pos rfl]
   rw[hJ];dsimp only;by_cases h3:tx=[]
   .rw[if_neg (λe=>e h3),if_pos h3,zJ h.sn,qP h.st]
   .rw[if_pos h3,if_neg h3,yy,af0,zJ h.sn,qP (iK _)];rfl
  .rw[if_pos rfl];have hJ:oN f.ad f.ae ⟨4,pa,tq9,(a:Int),tx⟩=(f.ad,Oy f.ae (de f.ad pa) (ctJ (a:Int))):=by
    unfold oN;dsimp only;rw[if_neg bJ,if_neg bJ,if_pos rfl]
   rw[hJ];dsimp only;rw[yy,afZ,zJ h.sn,qP (iK _)];rfl
theorem Af:∀(z:az)(t:Nat),dQ z=some t->∀i,t<i->i<z.length->z.getD i 0≠47
 |[],t,h,i,hi,hl=>by cases h
 |c::z,t,h,i,hi,hl=>by
  unfold dQ at h;obtain⟨i,rfl⟩:∃k,i=k+1:=⟨i-1,ag⟩;rw[Bn];split at h
  .rename_i j hj;cases h
   exact Af z j hj i ag (by simpa using hl)
  .rename_i hz;have hl:i<z.length:=by simpa using hl
   exact AZ z hz _ (by rw[aZ,bd hl];exact rj hl)
theorem iC.closed (h:iC f)(hy:y≠[]):∀(n j:Nat),j<=n->j<f.ad.length->∀r,(f.ad.getD j cy).af=y++47::r->∃m,m<f.ad.length/\(f.ad.getD m cy).af=y
 |n,j,hjn,hj,r,hp=>by
  have hyl:0<y.length:=nL.2 hy;by_cases h0:j=0
  .subst h0;rw[h.nr] at hp;have:=ep List.length hp;simp at this;omega
  .obtain⟨m,hm,zI,hfm,hpm⟩:=h.par (show 1<=j by omega) hj;have nN:=((h.nm j hj).2.1 ag).2.2.1;cases hl:dQ (f.ad.getD j cy).af with
   |none=>unfold aw at nN;rw[hl] at nN;cases nN
   |some t=>
    have nJ:y.length<=t:=by
     (refine lP λdG=>?_);have h1:=Af _ t hl y.length ag (by rw[hp,bL];simp);rw[hp] at h1;exact h1 (by simp[aZ])
    have lV:(aw (f.ad.getD j cy).af).1=(f.ad.getD j cy).af.take t:=by
     unfold aw;rw[hl];show List.take (max t 1) _=_;rw[Nat.max_eq_left ag]
    by_cases he:t=y.length
    .refine⟨m,ag,?_⟩;rw[hpm,lV,hp,he];simp
    .cases n with
     |zero=>omega
     |succ n=>
      refine h.closed hy n m ag ag (r.take (t-y.length-1)) ?_;rw[hpm,lV,hp,Bk,qW ag]
      congr 1
      rw[show t-y.length=(t-y.length-1)+1 by omega,x_5]
      congr 2
theorem er {x z r:az}:l7 x z=some r↔x=z++r/\(r=[]\/r.getD 0 0=47):=by
 unfold l7;constructor
 .intro h;split at h
  .rename_i h1;split at h
   .rename_i h2;cases h
    refine⟨?_,h2⟩;have:=yD z.length x;rw[h1.2] at this;exact this.symm
   .cases h
  .cases h
 .rintro⟨rfl,h⟩;rw[if_pos ⟨ay,ay⟩];have:(z++r).drop z.length=r:=by simp
  rw[this,if_pos h]
theorem ZL (z y:az)(x:a7):(⟨Flat.eO z y x.af,x.id⟩:a7)=xf z y x:=by
 unfold xf;cases hc:l7 x.af z with
 |some r=>
  obtain⟨h1,h2⟩:=er.1 hc;have hm:Flat.eO z y x.af=y++r:=by
   unfold Flat.eO;rw[if_pos,h1]
   .simp
   .rw[h1];rcases h2 with rfl|h2
    .left;simp
    .right
     cases r with
     |nil=>exact absurd h2 bJ
     |cons c r=>
      (have:c=47:=by simpa using h2);subst this;refine⟨ay,?_⟩;rw[Bk,qW ag];simp
  rw[hm]
 |none=>
  have hm:Flat.eO z y x.af=x.af:=by
   unfold Flat.eO;rw[if_neg];rintro(h|⟨h1,h2⟩)
   .have:=er.2 (show x.af=z++[]/\([]=[]\/([]:az).getD 0 0=47) from⟨by simpa using h,.inl rfl⟩);rw[hc] at this;cases this
   .have h3:x.af=z++(47::x.af.drop (z.length+1)):=by
     have:=yD (z.length+1) x.af;rw[h2,ku] at this;exact this.symm
    have:=er.2 (show x.af=z++(47::x.af.drop (z.length+1))/\_ from⟨h3,.inr rfl⟩);rw[hc] at this;cases this
  rw[hm]
theorem yp (h:iC f)(hy:y≠[])(hn:rZ f.ad y=none):((f.ad.map (xf z y)).map a7.af).Nodup:=by
 rw[List.map_map,Bq,Br];refine uj.2 λi j hi hj nD=>?_
 have fY:=uj.1 h.sn i j hi hj nD;have fY:=np fY;have one:∀(a b:Nat)(ha:a<f.ad.length)(hb:b<f.ad.length)(r:az),l7 f.ad[a].af z=some r->l7 f.ad[b].af z=none->y++r≠f.ad[b].af:=λa b ha hb r h1 h2 e=>by
  obtain⟨g1,g2⟩:=er.1 h1;rcases g2 with rfl|g2
  .rw[gg] at e;exact oE hn _ (rj hb) e.symm
  .cases r with
   |nil=>exact absurd g2 bJ
   |cons c r=>
    (have:c=47:=by simpa using g2);subst this;obtain⟨m,hm,UZ⟩:=h.closed hy b b (cG _) hb r (by rw[aZ,bd hb];exact e.symm);exact oE hn _ (du cy hm) UZ
 show(xf z y f.ad[i]).af≠(xf z y f.ad[j]).af;unfold xf;cases c1:l7 f.ad[i].af z with
 |some r1=>
  cases c2:l7 f.ad[j].af z with
  |some r2=>
   intro e;have e:y++r1=y++r2:=e;have e:=List.append_cancel_left e;exact fY (by rw[(er.1 c1).1,(er.1 c2).1,e])
  |none=>exact one i j hi hj r1 c1 c2
 |none=>
  cases c2:l7 f.ad[j].af z with
  |some r2=>exact λe=>one j i hj hi r2 c2 c1 e.symm
  |none=>exact fY
theorem qh (h:aP y=true):y≠[]:=λe=>by rw[e] at h;cases h
theorem ZM (h:iC f)(hz:aP z=true)(hy:aP y=true):f.move z y=if de f.ad z<0 then(f,2) else if de f.ad z=0 then(f,5) else if 0<=de f.ad y then(f,3) else if under y z=true then(f,5) else if de f.ad (Ev.dn y)<0 then(f,2) else if iw f.ae (de f.ad (Ev.dn y))=false then(f,4) else
  if de f.ad (Ev.dn y)≠de f.ad (Ev.dn z)/\12<=Ox f.ad (de f.ad (Ev.dn y)) then(f,6) else(⟨Ev.gS (f.ad.map (xf z y)),Ev.il f.ae⟩,0):=by
 unfold Flat.move;cases hn:rZ f.ad z with
 |none=>rw[show f.dy z=none from hn,if_pos ((h.vF _).2 hn)]
 |some k=>
  obtain⟨Aj,wN⟩:=h.yn hn;have D0:=h.lu hn;rw[show f.dy z=some k from hn,if_neg (show ¬de f.ad z<0 from λe=>by rw[(h.vF _).1 e] at hn;cases hn)];dsimp only;have h00:=h.wz hn;by_cases h0:z=[47]
  .rw[if_pos h0,if_pos (h00.2 h0)]
  rw[if_neg h0,if_neg (show ¬de f.ad z=0 from λe=>h0 (h00.1 e))];cases h3:rZ f.ad y with
  |some m=>rw[show f.dy y=some m from h3,if_pos (show(some m).isSome=true from rfl),if_pos ((h.ld0 y).2 (by rw[h3];rfl))]
  |none=>
   (have hyn:y≠[47]:=λe=>by rw[e,h.cI] at h3;cases h3);rw[show f.dy y=none from h3,if_neg (show ¬(none:Option Nat).isSome=true from iZ),if_neg (show ¬0<=de f.ad y from λe=>by have:=(h.ld0 y).1 e;rw[h3] at this;cases this)];by_cases h4:under y z=true
   .rw[if_pos h4,if_pos h4]
   rw[if_neg h4,if_neg h4,qS hy hyn,qS hz h0];cases h5:rZ f.ad (aR y).1 with
   |none=>
    rw[if_pos ((h.vF _).2 h5),yo h5,if_neg hyn];rfl
   |some m=>
    obtain⟨Q6,UZ⟩:=h.yn h5;rw[if_neg (show ¬de f.ad (aR y).1<0 from λe=>by rw[(h.vF _).1 e] at h5;cases h5),ue h5,if_neg hyn,h.lu h5,h.fld];cases h6:tV f.ad f.ae m with
    |false=>
     rw[if_pos (show false=false from rfl),if_pos (show false=false from rfl)];rfl
    |true=>
     rw[if_neg (show ¬(true=false) by decide),if_neg (show ¬(true=false) by decide),h3,if_neg (show ¬(none:Option Nat).isSome=true from iZ),if_neg (show ¬(0:Int)<0 by decide)];have v8:1<=k:=by
      (refine lP λhk=>?_);(have:k=0:=by omega);subst this;rw[h.nr] at wN;exact h0 wN.symm
     obtain⟨w,hw,hwn,Kf,KH⟩:=h.par v8 Aj;have hzs:=pU ((h.nm k Aj).2.1 v8).2.2.1;rw[wN] at hwn KH hzs;rw[hzs,h.lu hwn,h.ZI Q6,UZ];have ajL:(f.ad.getD m cy).id≠(f.ad.getD w cy).id↔(aR y).1≠(aw z).1:=by
      constructor
      .intro e e2;refine e ?_;rw[<-UZ,<-KH] at e2;have h1:=h.Ba Q6;rw[e2,h.Ba (show w<f.ad.length by omega)] at h1;cases h1;rfl
      .intro e e2;refine e ?_;have:=h.uniq Q6 ag e2 h6;subst this;rw[<-UZ,<-KH]
     by_cases h7:(aR y).1≠(aw z).1/\12<=f.nE (aR y).1
     .rw[if_pos h7,if_pos ⟨ajL.2 h7.1,h7.2⟩]
     .rw[if_neg h7,if_neg (λe=>h7 ⟨ajL.1 e.1,e.2⟩),PT (yp h (qh hy) h3),qP h.st,List.foldl_map]
      congr 3
      funext l x
      rw[ZL]
variable {o:Op}
theorem gZ (h:ik o=true):(1<=o.kind/\o.kind<=7)/\aP o.af=true/\(o.kind=6\/o.kind=7->aP o.to=true)/\(0<=o.at_/\o.at_<=192)/\o.bq.length<=24:=by obtain⟨kd,pa,tq9,at_,tx⟩:=o;unfold ik at h;unfold fV at h;dsimp only at h⊢;by_cases e1:1<=kd<;>by_cases e2:kd<=7<;>cases e3:aP pa<;>cases e4:aP tq9<;>by_cases e5:kd=7<;>by_cases e55:kd=6<;>by_cases e6:0<=at_<;>by_cases e7:at_<=192<;>by_cases e8:24<tx.length<;>simp_all<;>omega
theorem ajM (h:iC f)(ho:ik o=true):f.fb o=if lM f.ad f.ae o=0 then(Gq f.ad f.ae o,0) else(f,lM f.ad f.ae o):=by
 obtain⟨⟨h1,h2⟩,h3,h4,h5,h6⟩:=gZ ho;obtain⟨kd,pa,tq9,at_,tx⟩:=o;dsimp only at h1 h2 h3 h4 h5 h6;obtain⟨a,rfl⟩:=wT h5.1;unfold Flat.fb lM Gq;dsimp only;by_cases yC:kd=1\/kd=2
 .rw[if_pos yC,if_pos yC,ab6 h h3];have hJ:oN f.ad f.ae ⟨kd,pa,tq9,(a:Int),tx⟩=(f.ad++[⟨pa,yz f.ae 16 0⟩],f.ae++[⟨yz f.ae 16 0,decide (kd=2),[]⟩]):=by
   unfold oN;exact if_pos yC
  rw[hJ]
 rw[if_neg yC,if_neg yC];by_cases k5:kd=5
 .subst k5;have hJ:oN f.ad f.ae ⟨5,pa,tq9,(a:Int),tx⟩=xg f.ad f.ae pa (de f.ad pa):=by
   unfold oN;dsimp only;rw[if_neg bJ,if_neg bJ,if_neg bJ,if_pos rfl]
  rw[if_pos rfl,ZK h,hJ,if_neg (show ¬((5:Int)=3\/(5:Int)=4) by decide),if_pos rfl];by_cases c1:de f.ad pa<0
  .rw[if_pos c1,if_pos c1,if_neg bJ]
  rw[if_neg c1,if_neg c1];by_cases c2:de f.ad pa=0\/(iw f.ae (de f.ad pa)=true/\0<Ox f.ad (de f.ad pa))
  .rw[if_pos c2,if_pos c2,if_neg bJ]
  .rw[if_neg c2,if_neg c2,if_pos rfl]
 rw[if_neg k5];by_cases k6:kd=6
 .subst k6;have hJ:oN f.ad f.ae ⟨6,pa,tq9,(a:Int),tx⟩=(f.ad++[⟨tq9,de f.ad pa⟩],f.ae):=by
   unfold oN;dsimp only;rw[if_neg bJ,if_neg bJ,if_neg bJ,if_neg bJ,if_pos rfl]
  rw[if_pos rfl,ab7 h (h4 (.inl rfl)),hJ,if_neg (show ¬((6:Int)=3\/(6:Int)=4) by decide),if_neg (show ¬(6:Int)=5 by decide),if_pos rfl];by_cases c1:de f.ad pa<0
  .rw[if_pos c1,if_pos c1,if_neg bJ]
  rw[if_neg c1,if_neg c1];by_cases c2:iw f.ae (de f.ad pa)=true
  .rw[if_pos c2,if_pos c2,if_neg bJ]
  .rw[if_neg c2,if_neg c2]
 rw[if_neg k6];by_cases k7:kd=7
 .subst k7;have hJ:oN f.ad f.ae ⟨7,pa,tq9,(a:Int),tx⟩=(f.ad.map (xf pa tq9),f.ae):=by
   unfold oN;dsimp only;rw[if_neg bJ,if_neg bJ,if_neg bJ,if_neg bJ,if_neg bJ]
  rw[if_pos rfl,ZM h h3 (h4 (.inr rfl)),hJ,if_neg (show ¬((7:Int)=3\/(7:Int)=4) by decide),if_neg (show ¬(7:Int)=5 by decide),if_neg (show ¬(7:Int)=6 by decide)];by_cases c1:de f.ad pa<0
  .rw[if_pos c1,if_pos c1,if_neg bJ]
  rw[if_neg c1,if_neg c1];by_cases c2:de f.ad pa=0
  .rw[if_pos c2,if_pos c2,if_neg bJ]
  rw[if_neg c2,if_neg c2];by_cases c3:0<=de f.ad tq9
  .rw[if_pos c3,if_pos c3,if_neg bJ]
  rw[if_neg c3,if_neg c3];by_cases c4:under tq9 pa=true
  .rw[if_pos c4,if_pos c4,if_neg bJ]
  rw[if_neg c4,if_neg c4];by_cases c5:de f.ad (Ev.dn tq9)<0
  .rw[if_pos c5,if_pos c5,if_neg bJ]
  rw[if_neg c5,if_neg c5];by_cases c6:iw f.ae (de f.ad (Ev.dn tq9))=false
  .rw[if_pos c6,if_pos c6,if_neg bJ]
  rw[if_neg c6,if_neg c6];by_cases c7:de f.ad (Ev.dn tq9)≠de f.ad (Ev.dn pa)/\12<=Ox f.ad (de f.ad (Ev.dn tq9))
  .rw[if_pos c7,if_pos c7,if_neg bJ]
  .rw[if_neg c7,if_neg c7,if_pos rfl]
 .have N1:kd=3\/kd=4:=by omega
  rw[if_neg k7,Qv h kd pa tq9 a tx N1,if_pos N1];by_cases c1:de f.ad pa<0
  .rw[if_pos c1,if_pos c1,if_neg bJ]
  rw[if_neg c1,if_neg c1];by_cases c2:iw f.ae (de f.ad pa)=true
  .rw[if_pos c2,if_pos c2,if_neg bJ]
  rw[if_neg c2,if_neg c2];by_cases c3:192<(a:Int)+tx.length
  .rw[if_pos c3,if_pos c3,if_neg bJ]
  .rw[if_neg c3,if_neg c3,if_pos rfl]
theorem U0 {l:List a7}(h:(l.map a7.af).Nodup):Ev.xJ l=true:=bY h
theorem U1 {l:fg}(h:(l.map bP.id).Nodup):Ev.xK l=true:=bY h
theorem wA (h:iC f)(ho:ik o=true)(h0:lM f.ad f.ae o=0):((oN f.ad f.ae o).1.map a7.af).Nodup/\((oN f.ad f.ae o).2.map bP.id).Nodup/\1<=(oN f.ad f.ae o).1.length/\1<=(oN f.ad f.ae o).2.length:=by
 obtain⟨⟨h1,h2⟩,h3,h4,h5,h6⟩:=gZ ho;obtain⟨kd,pa,tq9,at_,tx⟩:=o;dsimp only at h1 h2 h3 h4 h5 h6;have hn:=h.sn.nodup;have hq:=h.st.nodup;have Q9:=h.n1;have Yh:=h.q1;unfold lM at h0;dsimp only at h0;unfold oN;dsimp only;by_cases yC:kd=1\/kd=2
 .rw[if_pos yC] at h0⊢;rw[Bb h h3] at h0;have hf:¬0<f.bI pa:=λe=>by rw[if_pos e] at h0;omega
  rw[if_neg hf] at h0;obtain⟨g1,_⟩:=oD hf;have hr:=afY f;have dG:f.cx<16:=by
   (refine lP λhh=>?_);rw[if_neg hh] at hr;rw[hr] at h0;have:(if decide ((-1:Int)<0)=true\/12<=f.nE (aR pa).1 then(6:Int) else 0)=6:=if_pos (.inl bJ);rw[this] at h0;cases h0
  rw[if_pos dG] at hr;rw[hr];exact⟨oz a7.af hn (oE g1),oz bP.id hq (Ae (n:=(f.cx:Int)) (vG f).1),ay,ay⟩
 rw[if_neg yC] at h0⊢;by_cases c1:de f.ad pa<0
 .rw[if_pos c1] at h0;cases h0
 rw[if_neg c1] at h0;have oT:∀g,((Oy f.ae (de f.ad pa) g).map bP.id).Nodup/\1<=(Oy f.ae (de f.ad pa) g).length:=λg=>by
  unfold Oy;cases ot f.ae (de f.ad pa) with
  |none=>exact⟨hq,Yh⟩
  |some t=>
   dsimp only;exact⟨(IJ (y:=⟨(f.ae.getD t eS).id,(f.ae.getD t eS).aJ,g (f.ae.getD t eS).bq⟩) h.st rfl).nodup,by rw[gN];exact Yh⟩
 by_cases k3:kd=3
 .rw[if_pos k3];dsimp only;refine⟨hn,?_,Q9,?_⟩
  .split
   .exact hq
   .exact(oT _).1
  .split
   .exact Yh
   .exact(oT _).2
 rw[if_neg k3];by_cases k4:kd=4
 .rw[if_pos k4];exact⟨hn,(oT _).1,Q9,(oT _).2⟩
 rw[if_neg k4];rw[if_neg (show ¬(kd=3\/kd=4) by omega)] at h0;by_cases k5:kd=5
 .rw[if_pos k5] at h0⊢;unfold xg;dsimp only;have ajN:¬de f.ad pa=0:=λe=>by rw[if_pos (.inl e)] at h0;cases h0
  have ajO:(rZ f.ad pa).isSome=true:=(h.ld0 pa).1 ag;obtain⟨k,hk⟩:=jh.1 ajO;have Vs:pa≠[47]:=λe=>ajN ((h.wz hk).2 e)
  refine⟨(IH h.sn Bm).nodup,?_,?_,?_⟩
  .split
   .exact(II h.st Bm).nodup
   .exact hq
  .refine GQ (a:=f.ad.getD 0 cy) (pD.2 ⟨du cy Q9,?_⟩);rw[h.nr];show(!decide (([47]:az)=pa))=true;rw[eI (λe=>Vs e.symm)];rfl
  .split
   .refine GQ (a:=f.ae.getD 0 eS) (pD.2 ⟨du eS Yh,?_⟩);rw[h.t0,eI (λe=>ajN e.symm)];rfl
   .exact Yh
 rw[if_neg k5] at h0⊢;by_cases k6:kd=6
 .rw[if_pos k6] at h0⊢;have Cg:¬iw f.ae (de f.ad pa)=true:=λe=>by rw[if_pos e] at h0;cases h0
  rw[if_neg Cg,Bb h (h4 (.inl k6))] at h0;have hf:¬0<f.bI tq9:=λe=>by rw[if_pos e] at h0;omega
  obtain⟨g1,_⟩:=oD hf;exact⟨oz a7.af hn (oE g1),hq,ay,Yh⟩
 rw[if_neg k6] at h0⊢;have k7:kd=7:=by omega
 refine' zaS;have nN:rZ f.ad tq9=none:=(h.vF tq9).1 ag;exact⟨yp h (qh R6) nN,hq,by rw[td];exact Q9,Yh⟩
end Go.Pl
namespace Go.Pl
open Go Go.Ev Go.Lg Go.Proofs
variable {E:ig}{X:fR}{Γ:qV}{l:Kn}{L R:bZ}{K:KO}{g:FuncId}{xs:List Operand}{ts:Array TypeId}{vs:a6}{t t2 e:TypeId}{a a':aM}{n sz c b c':Nat}{α:Type}{enc:ak α sz}{w:List α}{p:List a7}{q:fg}{r:Value}{F:Flat}
section
variable {x y:Operand}
theorem WO.IK [ht:TT E t e sz α enc](hx:Ev l x (.slice a n c))(hy:Ev l y (eT))(hh:jB Γ L a n sz (ai (sz:=sz) w))(hi:0<w.length)(k:∀n,K (.bool false) L n n Z Z):WO E X Γ l (.binOp .eql t x y t2) L K:=λtm s hl h2=>by
 obtain⟨b,o,_,_,_,rfl,_⟩:=(hh.row h2).1.at_ hi;exact WO.bin (r:=.bool false) hx hy (λcc=>by
  show ob (ji E t) (λd=>C9 .eql (eqV E d (.slice (some ⟨b,o,none⟩) n c) (eT)))=_;obtain⟨z,DR,_⟩:=ht.h;rw[DR.h.1];rfl) k tm s hl h2
theorem WO.ZN (hx:kA l xs vs)(h:∀s,A7 E X g vs s b a c p a' c' q r F)(hp:oZ (wo b a p.length c p a' q.length c' q) L R)
  (k:∀m m' a1 n1 c1 p1 a2 n2 c2 q2,jX L m->m<=m'->n1<=p1.length->p1.take n1=F.ad->n2<=q2.length->q2.take n2=F.ae->K r (wo b a1 n1 c1 p1 a2 n2 c2 q2++R) m m' (FtR [] (wo b a p.length c p a' q.length c' q) m m') (FtW (wo b a p.length c p a' q.length c' q) m m')):WC E X Γ l g xs ts L K:=
 WO.call (Lm:=wo b a p.length c p a' q.length c' q) (R:=R) (A:=[]) hx hp.cZ (λs hi b hb=>by cases hb) (λs hi=>h s) (by rintro r' L' m m' ho hm ⟨rfl,a1,n1,c1,p1,a2,n2,c2,q2,h1,h2,h3,h4,rfl⟩;exact k m m' a1 n1 c1 p1 a2 n2 c2 q2 ho hm h1 h2 h3 h4)
end
theorem U2 (s:St)(a:aM)(c:Nat)(p:List a7)(h0:0<p.length)(hp:p.length<=1000)(hr:bH s a p.length 2 (ai p)):eU bh bw 45 [.slice a p.length c] s (aj a) 39 p:=by
 have pk:=Rd.of (A:=aj a) hr λ_ hb=>hb
 refine aT f45 ?_;(repeat' (first|refine' aW|((with_reducible apply WO.IK);exact gT;exact gT;exact cb;exact mH;intro _)|((with_reducible apply WO.lit (α:=a7) (xs:=[]));exact zf;exact rfl;exact rfl;intro bl _)|refine' av|fail));all_goals try refine cj
 all_goals refine' kL
 all_goals rfl
theorem U3 (s:St)(a:aM)(c:Nat)(p:fg)(h0:0<p.length)(hp:p.length<=1000)(hr:bH s a p.length 3 (ai p)):eU bh bw 46 [.slice a p.length c] s (aj a) 61 p:=by
 have pk:=Rd.of (A:=aj a) hr λ_ hb=>hb
 refine aT f46 ?_;(repeat' (first|refine' aW|((with_reducible apply WO.IK);exact gT;exact gT;exact cb;exact mH;intro _)|((with_reducible apply WO.lit (α:=bP) (xs:=[]));exact zf;exact rfl;exact rfl;intro bl _)|refine' av|fail));all_goals try refine cj
 all_goals refine' kL
 all_goals rfl
theorem U4 (s:St)(a:aM)(c:Nat)(p:List a7)(a':aM)(c':Nat)(q:fg)(hp:0<p.length/\p.length<=1000)(hq:0<q.length/\q.length<=1000)(h1:bH s a p.length 2 (ai p))(h2:bH s a' q.length 3 (ai q)):
  BH 22 [.agg ⟨ie a c p a' c' q⟩] s [] (aj a++aj a') λR L=>∃b d b' d',R= .agg ⟨ie b d p b' d' q⟩/\L=[cv b d p,dK b' d' q]:=by
 have hd1:Rd ⟨s,([]:bZ).flatMap It.a8,aj a++aj a'⟩ a p.length 2 (ai p):=Rd.of h1 λ_ hb=>cT _ hb
 refine' zbo;refine aT f22 ?_;(repeat' (first|refine' aW|((with_reducible apply WO.JB);exact aC;exact λs hr=>U2 s _ _ _ ag ag hr;exact cb;intro _ _ ajP ajQ _ _)|((with_reducible apply WO.JB);exact aC;exact λs hr=>U3 s _ _ _ ag ag hr;exact cb;intro _ _ ajR ajS _ _)|refine' av|fail));all_goals exact⟨bG,_,_,bu,ar,_,_,_,_,rfl,rfl⟩
def oF (f:Flat)(o:Op):Flat×Int:=if ik o=true then(if lM f.ad f.ae o=0 then(Gq f.ad f.ae o,0) else(f,lM f.ad f.ae o)) else(f,1)
structure DoV (p:List a7)(q:fg)(o:Op):Prop where
 V:J3 p q
 tx:∀x∈q,x.bq.length<=5000
 z:o.af∈Ev.dN
 y:o.to∈Ev.dN
 th:lM p q o=0->o.kind=3\/o.kind=4->∃t,ot q (de p o.af)=some t
 P1:ik o=true->lM p q o=0->1<=(oN p q o).1.length
 Q1:ik o=true->lM p q o=0->1<=(oN p q o).2.length
 Pa:ik o=true->lM p q o=0->Ev.xJ (oN p q o).1=true
 Qa:ik o=true->lM p q o=0->Ev.xK (oN p q o).2=true
theorem Fv:∀z∈Ev.dN,z.length<=3000:=by decide
theorem N2 (s:St)(b:Nat)(a:aM)(c:Nat)(a':aM)(c':Nat)(f:Flat)(o:Op)(hD:DoV f.ad f.ae o):A7 bh bw 23 [bg b,ov o] s b a c f.ad a' c' f.ae (iv (oF f o).2) (oF f o).1:=by
 have Gz:∀s,bF 47 [ov o] s [] (.bool (ik o)):=λs=>YF s o hD.z hD.y
 unfold oF;cases fm:ik o with
 |false=>
  rw[fm] at Gz;rw[if_neg iZ];obtain⟨kd,pa,tq9,at_,tx⟩:=o;have mG:=Gz;refine aT f23 ?_;dsimp only[wo];repeat' (first|refine' aW|refine' Mk|refine' av|fail)
  all_goals refine' zbq
 |true=>
  rw[fm] at Gz;rw[if_pos rfl];obtain⟨h1,h2,Ts,h4,h5⟩:=gZ fm;have h3:o.kind=7->aP o.to=true:=λe=>Ts (.inr e)
  have af1:∀s,iX s b a c f.ad a' c' f.ae->bF 48 [Uk b,ov o] s (rb b a a') (iv (lM f.ad f.ae o)):=λs hr=>P7 s b a c f.ad a' c' f.ae hD.V o hD.z hD.y h1 h2 h3 h4 h5 hr
  by_cases h0:lM f.ad f.ae o=0
  .rw[if_pos h0];rw[h0] at af1;have ZO:∀s,A7 bh bw 49 [bg b,ov o] s b a c f.ad a' c' f.ae (.tuple ⟨[]⟩) (Gq f.ad f.ae o):=λs=>ai6 s b a c f.ad a' c' f.ae hD.V o (Fv _ hD.z) (Fv _ hD.y) h1 h4 h5 hD.tx (hD.th h0) (hD.P1 fm h0) (hD.Q1 fm h0) (hD.Pa fm h0) (hD.Qa fm h0)
   generalize Gq f.ad f.ae o=F at *
   obtain⟨kd,pa,tq9,at_,tx⟩:=o;have mG:=Gz;have Lp:∀s,iX s b a c f.ad a' c' f.ae->bF 48 [Uk b,ov ⟨kd,pa,tq9,at_,tx⟩] s (rb b a a') (iv 0):=af1;have je:=ZO;refine aT f23 ?_;dsimp only[wo];(repeat' (first|refine' aW|refine' Mk|refine' ac9|((with_reducible apply WO.Ho);exact gT;intro _)|((with_reducible apply WO.ZN);exact aC;(intro s;exact je s);exact eC;intro _ _ ZP ZQ ajT adH ZR ZS ajU adI _ _ adJ Sj adK Sk)|refine' av|fail));(all_goals try refine cj);all_goals exact⟨bG,_,_,bu,ar,rfl,_,_,_,_,_,_,_,_,adJ,Sj,adK,Sk,rfl⟩
  .rw[if_neg h0];generalize lM f.ad f.ae o=cd at *
   obtain⟨kd,pa,tq9,at_,tx⟩:=o;have mG:=Gz;have Lp:=af1;refine aT f23 ?_;dsimp only[wo];(repeat' (first|refine' aW|refine' Mk|refine' ac9|((with_reducible apply WO.Ho);exact gT;intro _)|refine' av|fail));all_goals refine' zbq
end Go.Pl
namespace Go.Pl
open Go.Lg
variable {z:az}{q:fg}{n:Int}
structure OkG (p:List a7)(q:fg):Prop where
 tl:1<=q.length/\q.length<=16
 st:gU q
 t0:∃x∈q,x.id=0/\x.aJ=true
 tx:∀x∈q,(0<=x.id/\x.id<=15)/\(x.aJ=true->x.bq=[])/\x.bq.length<=192
 sn:kM p
 nr:(⟨[47],0⟩:a7)∈p
 th:∀x∈p,(ot q x.id).isSome=true
 up:∀x∈p,x.af≠[47]->aU (aw x.af).2=true/\∃w∈p,w.af=(aw x.af).1/\iw q w.id=true
 ct:∀n,sf p n<=9
 cf:∀n,iw q n=true->sf p n<=1
 cn:∀z,(p.countP λx=>decide (x.af≠[47])&&decide ((aw x.af).1=z))<=12
 al:∀x∈q,∃w∈p,w.id=x.id
theorem Sm:∀(s:az)(t:Nat),t<s.length->bS (s.take t) s=true
 |[],t,h=>by simp at h
 |c::s,0,_=>rfl
 |c::s,t+1,h=>by
  rw[x_5,qL,if_neg (GP _),if_neg (GP _)];exact Sm s t (by simpa using h)
theorem N8 (h:aU (aw z).2=true):bS (aw z).1 z=true:=by
 unfold aw at h⊢;cases hl:dQ z with
 |none=>rw[hl] at h;cases h
 |some t=>
  rw[hl] at h;have dG:=qc z t hl;have h:aU (z.drop (t+1))=true:=h;have fY:z.drop (t+1)≠[]:=λe=>by rw[e] at h;cases h
  have uo:t+1<z.length:=by
   refine lP λhn=>fY (yE ag)
  exact Sm z (max t 1) ag
theorem Kw (p:List a7)(n:Int):sf p n=cL p p.length n:=(qd (λx:a7=>decide (x.id=n)) cy p).symm
theorem Kx {p:List a7}(hr:p.getD 0 cy=⟨[47],0⟩)(h0:∀j,1<=j->j<p.length->(p.getD j cy).af≠[47])(z:az):(p.countP λx=>decide (x.af≠[47])&&decide ((aw x.af).1=z))=cN p p.length z:=by
 unfold cN;rw[<-qd (λx:a7=>decide (x.af≠[47])&&decide ((aw x.af).1=z)) cy p];refine C6 λj hj=>?_
 have hj:=lX.1 hj;by_cases hj0:j=0
 .subst hj0;rw[hr];simp
 .have:=h0 j ag hj;rw[bY this,bY (show 1<=j by omega)]
theorem iC.g {f:Flat}(h:iC f):OkG f.ad f.ae:=by
 have x7:∀x∈f.ad,∃j,j<f.ad.length/\x=f.ad.getD j cy:=λx hx=>by
  obtain⟨j,hj,rfl⟩:=iY hx;exact⟨j,hj,by rw[aZ,bd hj];rfl⟩
 have adL:∀x∈f.ae,∃j,j<f.ae.length/\x=f.ae.getD j eS:=λx hx=>by
  obtain⟨j,hj,rfl⟩:=iY hx;exact⟨j,hj,by rw[aZ,bd hj];rfl⟩
 refine' za8;refine⟨⟨h.q1,h.q16⟩,h.st,⟨_,du eS h.q1,h.t0,h.tf⟩,λx hx=>?_,h.sn,by rw[<-h.nr];exact du cy h.n1,λx hx=>?_,λx hx uE=>?_,λn=>?_,λn hn=>?_,λz=>?_,λx hx=>?_⟩
 .obtain⟨j,hj,rfl⟩:=adL x hx;have:=h.tb j hj;unfold tB fV at this;simp only[bO,bQ,qi,An,mg] at this;refine⟨this.1.1.1,λhf=>?_,ag⟩;rcases this.1.2 with h1|h1
  .rw[hf] at h1;cases h1
  .exact Classical.not_not.1 h1
 .obtain⟨j,hj,rfl⟩:=x7 x hx;exact(h.nm j hj).1
 .obtain⟨j,hj,rfl⟩:=x7 x hx;have h1:1<=j:=by
   (refine lP λhn=>uE ?_);rw[show j=0 by omega,h.nr]
  obtain⟨m,hm,zI,hf,hp⟩:=h.par h1 hj;exact⟨((h.nm j hj).2.1 h1).2.2.1,_,du cy (show m<f.ad.length by omega),hp,hf⟩
 .rw[Kw];exact EK _ λj hj hid=>by rw[<-hid];exact(h.nm j hj).2.2.1
 .rw[Kw];refine EK _ λj hj hid=>?_
  rw[<-hid];refine(h.nm j hj).2.2.2 ?_;rw[<-h.fld,hid];exact hn
 .rw[Kx h.nr fY];exact PS _ λj h1 hj hz=>by rw[<-hz];exact((h.nm j hj).2.1 h1).2.2.2
 .obtain⟨j,hj,rfl⟩:=adL x hx;obtain⟨k,hk,hid⟩:=h.al j hj;exact⟨_,du cy hk,hid⟩
theorem OkG.f {p:List a7}(h:OkG p q):iC ⟨p,q⟩:=by
 have WV:0<p.length:=GQ h.nr;have hgm:∀j,j<p.length->p.getD j cy∈p:=λj hj=>du cy hj
 have dG:∀i j,j<p.length->i<j->bS (p.getD i cy).af (p.getD j cy).af=true:=λi j hj nD=>qM h.sn cy nD hj
 have N9:p.getD 0 cy=⟨[47],0⟩:=by
  obtain⟨j,hj,hje⟩:=iY h.nr;have hje:p.getD j cy=⟨[47],0⟩:=by rw[aZ,bd hj];exact hje
  by_cases hj0:j=0
  .rw[<-hj0];exact hje
  .exfalso;have h1:=dG 0 j hj ag;rw[hje] at h1;have h2:(p.getD 0 cy).af≠[47]:=np h1;obtain⟨h3,w,hw,KH,_⟩:=h.up _ (hgm 0 WV) h2;have h4:=N8 h3;rw[<-KH] at h4;obtain⟨m,hm,rfl⟩:=iY hw;by_cases FN:m=0
   .subst FN;rw[aZ,bd WV] at h4;have h4:bS p[0].af p[0].af=true:=h4;rw[kq] at h4;cases h4
   .have h5:=dG 0 m hm ag;rw[show p.getD m cy=p[m] by rw[aZ,bd hm];rfl] at h5;have:=EI h5;rw[h4] at this;cases this
 have fY:∀j,1<=j->j<p.length->(p.getD j cy).af≠[47]:=λj h1 hj e=>by
  have:=dG 0 j hj ag;rw[N9,e,kq] at this;cases this
 obtain⟨x0,uE,ajV,amD⟩:=h.t0;have hq0:(q.getD 0 eS).id=0/\(q.getD 0 eS).aJ=true:=by
  obtain⟨j,hj,rfl⟩:=iY uE;have e:q.getD j eS=q[j]:=by rw[aZ,bd hj];rfl
  by_cases hj0:j=0
  .subst hj0;rw[e];exact⟨ajV,amD⟩
  .exfalso;have h1:=qM h.st eS (show 0<j by omega) hj;rw[e,ajV] at h1;have:=(h.tx _ (du eS (show 0<q.length by omega))).1.1;omega
 refine⟨by have:=h.tl;show fV (q.length:Int) 1 16=true;unfold fV;simp only[bO,bQ];omega,hq0.1,hq0.2,λi hi=>?_,by show p.length≠0;omega,N9,λi hi=>⟨h.th _ (hgm i hi),λh1=>?_,?_,λhf=>?_⟩,λi hi=>?_⟩
 .have h1:=h.tx _ (du eS hi);unfold tB fV;simp only[bO,bQ,qi,An,mg];refine⟨⟨⟨h1.1,?_⟩,?_⟩,ag⟩
  .by_cases rM:0<i
   .right
    have:=qM h.st eS (show i-1<i by omega) hi;omega
   .exact .inl rM
  .cases hb:(q.getD i eS).aJ with
   |false=>exact .inl rfl
   |true=>exact .inr (λe=>e (h1.2.1 hb))
 .obtain⟨h3,w,hw,KH,Kf⟩:=h.up _ (hgm i hi) (fY i h1 hi);have h4:=N8 h3;obtain⟨m,hm,rfl⟩:=iY hw;have e:p.getD m cy=p[m]:=by rw[aZ,bd hm];rfl
  have hmi:m<i:=by
   (refine lP λhn=>?_);rw[<-KH,<-e] at h4;rcases lA i m with F0|hge
   .have:=EI (dG i m hm F0);rw[h4] at this;cases this
   .have:m=i:=by omega
    subst this;rw[kq] at h4;cases h4
  refine⟨dG (i-1) i hi ag,⟨m,hmi,by rw[e];exact KH,?_⟩,h3,?_⟩
  .show iw q (p.getD m cy).id=true;rw[e];exact Kf
  .refine gK (RM p _ (show i+1<=p.length by exact hi)) ?_;rw[<-Kx N9 fY];exact h.cn _
 .refine gK (CQ p _ (show i+1<=p.length by exact hi)) ?_;rw[<-Kw];exact h.ct _
 .refine gK (CQ p _ (show i+1<=p.length by exact hi)) ?_;rw[<-Kw];exact h.cf _ hf
 .obtain⟨w,hw,hid⟩:=h.al _ (du eS hi);obtain⟨m,hm,rfl⟩:=iY hw;exact⟨m,hm,by show(p.getD m cy).id=_;rw[aZ,bd hm];exact hid⟩
theorem yq (P:a7->Bool):∀(l:List a7)(e:a7),(Flat.gm l e).countP P=l.countP P+if P e=true then 1 else 0
 |[],e=>by unfold Flat.gm;rw[iH]
 |y::l,e=>by
  unfold Flat.gm;split
  .rw[iH,iH]
  .rw[iH,yq P l e,iH];omega
theorem Bf:∀(l:fg)(e:bP),(Flat.oX l e).length=l.length+1
 |[],e=>rfl
 |x::l,e=>by
  unfold Flat.oX;split
  .rw[cY,Bf l e,cY]
  .rfl
theorem Ag:(ot q n).isSome=true↔∃y∈q,y.id=n:=by unfold ot;rw[List.findIdx?_isSome,GM];simp
theorem nA (hs:gU q):iw q n=true↔∃y∈q,y.id=n/\y.aJ=true:=by
 unfold iw;cases ht:ot q n with
 |none=>
  refine⟨λe=>(by cases e),λ⟨y,hy,hi,_⟩=>?_⟩;have:=Ag.2 ⟨y,hy,hi⟩;rw[ht] at this;cases this
 |some t=>
  obtain⟨h1,h2⟩:=x8 ht;refine⟨λe=>⟨_,du eS h1,h2,e⟩,λ⟨y,hy,hi,hf⟩=>?_⟩;obtain⟨j,hj,rfl⟩:=iY hy;have e:q.getD j eS=q[j]:=by rw[aZ,bd hj];rfl
  have:=EL hs hj;rw[e,hi,ht] at this;cases this
  show(q.getD t eS).aJ=true;rw[e];exact hf
theorem qT:∀z∈Ev.dN,aP z=true->z≠[47]->aU (aw z).2=true:=by decide
theorem OkG.make {p:List a7}(h:OkG p q)(hz:aU (aw z).2=true)(hn:rZ p z=none){w:a7}(hw:w∈p)(KH:w.af=(aw z).1)(Kf:iw q w.id=true)(yw:0<=n/\n<=15)(OQ:ot q n=none)(hc:(p.countP λx=>decide (x.af≠[47])&&decide ((aw x.af).1=(aw z).1))<12)(fo:Bool):OkG (Flat.gm p ⟨z,n⟩) (Flat.oX q ⟨n,fo,[]⟩):=by
 have iK:gU (Flat.oX q ⟨n,fo,[]⟩):=A1 q ⟨n,fo,[]⟩ h.st (Ae (f:=⟨p,q⟩) OQ);have amE:∀x∈p,x.id≠n:=λx hx e=>by
  have:=h.th x hx;rw[e,OQ] at this;cases this
 have Cg:∀m,m≠n->iw (Flat.oX q ⟨n,fo,[]⟩) m=true->iw q m=true:=λm hm hf=>by
  obtain⟨y,hy,hi,hyf⟩:=(nA iK).1 hf;rcases(kr _ _ _).1 hy with rfl|hy
  .exact absurd hi.symm hm
  .exact(nA h.st).2 ⟨y,hy,hi,hyf⟩
 have afp:∀m,iw q m=true->iw (Flat.oX q ⟨n,fo,[]⟩) m=true:=λm hf=>by
  obtain⟨y,hy,hi,hyf⟩:=(nA h.st).1 hf;exact(nA iK).2 ⟨y,(kr _ _ _).2 (.inr hy),hi,hyf⟩
 have cX:q.length<16:=by
  have h1:=qe (q.map bP.id) (((List.range 16).map λ(k:Nat)=>(k:Int)).erase n) h.st.nodup λm hm=>by
   obtain⟨y,hy,rfl⟩:=jK.1 hm;have h2:=(h.tx y hy).1;refine(QP (Ae (f:=⟨p,q⟩) OQ y hy)).2 (jK.2 ⟨y.id.toNat,lX.2 ag,ag⟩)
  rw[td,QQ (jK.2 ⟨n.toNat,lX.2 ag,ag⟩),td,KX] at h1;omega
 have MK:∀m,sf (Flat.gm p ⟨z,n⟩) m=sf p m+if n=m then 1 else 0:=λm=>by
  unfold sf;rw[yq];simp
 have ajW:sf p n=0:=uM.2 λx hx e=>amE x hx (by simpa using e)
 refine⟨⟨by rw[Bf];omega,by rw[Bf];omega⟩,iK,?_,λx hx=>?_,wh p ⟨z,n⟩ h.sn (oE (f:=⟨p,q⟩) hn),(ic _ _ _).2 (.inr h.nr),λx hx=>?_,λx hx uE=>?_,λm=>?_,λm hm=>?_,λy=>?_,λx hx=>?_⟩
 .obtain⟨x,hx,h1⟩:=h.t0;exact⟨x,(kr _ _ _).2 (.inr hx),h1⟩
 .rcases(kr _ _ _).1 hx with rfl|hx
  .exact⟨yw,λ_=>rfl,ay⟩
  .exact h.tx x hx
 .rw[Ag];rcases(ic _ _ _).1 hx with rfl|hx
  .exact⟨_,(kr _ _ _).2 (.inl rfl),rfl⟩
  .obtain⟨y,hy,hi⟩:=Ag.1 (h.th x hx);exact⟨y,(kr _ _ _).2 (.inr hy),hi⟩
 .rcases(ic _ _ _).1 hx with rfl|hx
  .exact⟨hz,w,(ic _ _ _).2 (.inr hw),KH,afp _ Kf⟩
  .obtain⟨h1,v,hv,hvp,hvf⟩:=h.up x hx uE;exact⟨h1,v,(ic _ _ _).2 (.inr hv),hvp,afp _ hvf⟩
 .rw[MK];by_cases hm:n=m
  .rw[if_pos hm,<-hm,ajW];omega
  .rw[if_neg hm];exact h.ct m
 .rw[MK];by_cases zI:n=m
  .rw[if_pos zI,<-zI,ajW];omega
  .rw[if_neg zI];exact h.cf m (Cg m (λe=>zI e.symm) hm)
 .rw[yq];by_cases hy:(aw z).1=y
  .rw[<-hy];split<;>omega
  .have hz2:¬((decide ((⟨z,n⟩:a7).af≠[47])&&decide ((aw (⟨z,n⟩:a7).af).1=y))=true):=by
    rw[bO,bQ,bQ];exact λe=>hy e.2
   rw[if_neg hz2];exact h.cn y
 .rcases(kr _ _ _).1 hx with rfl|hx
  .exact⟨_,(ic _ _ _).2 (.inl rfl),rfl⟩
  .obtain⟨v,hv,hi⟩:=h.al x hx;exact⟨v,(ic _ _ _).2 (.inr hv),hi⟩
variable {f:Flat}{o:Op}
theorem yX (h:iC f)(ho:ik o=true)(hk:o.kind=1\/o.kind=2)(h0:lM f.ad f.ae o=0):Gq f.ad f.ae o=⟨Flat.gm f.ad ⟨o.af,f.cx⟩,Flat.oX f.ae ⟨f.cx,decide (o.kind=2),[]⟩⟩/\f.cx<16/\rZ f.ad o.af=none/\o.af≠[47]/\(∃k,rZ f.ad (aR o.af).1=some k/\tV f.ad f.ae k=true)/\f.nE (aR o.af).1<12:=by
 obtain⟨_,h3,_⟩:=gZ ho;have ha:lM f.ad f.ae o=uI f.ad f.ae o.af (decide (yz f.ae 16 0<0)):=by unfold lM;exact if_pos hk
 rw[ha,Bb h h3] at h0;have hf:¬0<f.bI o.af:=λe=>by rw[if_pos e] at h0;omega
 rw[if_neg hf] at h0;obtain⟨g1,g2,g3⟩:=oD hf;have hr:=afY f;have dG:f.cx<16:=by
  refine lP λhh=>?_
  rw[if_neg hh] at hr;rw[hr] at h0;have:(if decide ((-1:Int)<0)=true\/12<=f.nE (aR o.af).1 then(6:Int) else 0)=6:=if_pos (.inl bJ);rw[this] at h0;cases h0
 rw[if_pos dG] at hr;have AD:f.nE (aR o.af).1<12:=by
  refine lP λhh=>?_
  have:(if decide (yz f.ae 16 0<0)=true\/12<=f.nE (aR o.af).1 then(6:Int) else 0)=6:=if_pos (.inr ag);rw[this] at h0;cases h0
 refine⟨?_,dG,g1,g2,g3,AD⟩;have hJ:oN f.ad f.ae o=(f.ad++[⟨o.af,yz f.ae 16 0⟩],f.ae++[⟨yz f.ae 16 0,decide (o.kind=2),[]⟩]):=by
  unfold oN;exact if_pos hk
 unfold Gq;rw[hJ,hr];dsimp only;rw[x9 h.sn (oE g1),EO h.st (Ae (n:=(f.cx:Int)) (vG f).1)]
theorem acb (h:iC f)(ho:ik o=true)(hz:o.af∈Ev.dN)(hk:o.kind=1\/o.kind=2)(h0:lM f.ad f.ae o=0):iC (Gq f.ad f.ae o)/\de (Gq f.ad f.ae o).ad o.af=(f.cx:Int):=by
 obtain⟨e,h1,h2,h3,⟨k,h4,h5⟩,h6⟩:=yX h ho hk h0;obtain⟨_,hp,_⟩:=gZ ho;obtain⟨Aj,wN⟩:=h.yn h4;have zI:=qT _ hz hp h3;have M1:=pU zI;have fY:∀j,1<=j->j<f.ad.length->(f.ad.getD j cy).af≠[47]:=λj h1 hj e=>by
  have:=h.Ba hj;rw[e,h.cI] at this;cases this;omega
 have hcn:(f.ad.countP λx=>decide (x.af≠[47])&&decide ((aw x.af).1=(aw o.af).1))<12:=by
  rw[Kx h.nr fY,<-h.ab5,<-M1];exact h6
 have hg:=h.g.make (z:=o.af) zI h2 (w:=f.ad.getD k cy) (du cy Aj) (by rw[wN,M1]) (by rw[h.fld];exact h5) (n:=(f.cx:Int)) ag (vG f).1 hcn (decide (o.kind=2));rw[e];have hF:=hg.f;refine⟨hF,?_⟩;have hm:(⟨o.af,f.cx⟩:a7)∈Flat.gm f.ad ⟨o.af,f.cx⟩:=(ic _ _ _).2 (.inl rfl);obtain⟨j,hj,hje⟩:=iY hm;have hjd:(Flat.gm f.ad ⟨o.af,f.cx⟩).getD j cy=⟨o.af,f.cx⟩:=by rw[aZ,bd hj];exact hje
 have:=hF.Ba hj;rw[show(⟨Flat.gm f.ad ⟨o.af,f.cx⟩,Flat.oX f.ae ⟨f.cx,decide (o.kind=2),[]⟩⟩:Flat).ad.getD j cy=⟨o.af,f.cx⟩ from hjd] at this;rw[hF.lu this];show((Flat.gm f.ad ⟨o.af,f.cx⟩).getD j cy).id=_;rw[hjd]
end Go.Pl
namespace Go.Pl
open Go Go.Ev Go.Lg Go.Proofs
variable {f:Flat}{o:Op}
theorem wB:∀z∈ym,z∈Ev.dN:=by decide
theorem Ky:∀z∈Ev.dN,vD z:=by decide
theorem af3 (h:iC f)(hf:NZ f):J3 f.ad f.ae:=
 ⟨h.sn,h.st,by have:=hf.nl;omega,by have:=hf.tl;omega,λx hx=>by have:=(hf.nm x hx).1.1;omega,λz hz=>by
   obtain⟨i,hi⟩:=jh.1 ((h.ld0 z).1 hz);rw[h.lu hi];exact(h.nm i (h.yn hi).1).1,λx hx=>by have:=hf.nm x hx;omega⟩
theorem ajX (h:iC f)(hf:gf f)(ho:OpD o):DoV f.ad f.ae o:=
 ⟨af3 h hf.e,λx hx=>by have:=hf.th x hx;omega,wB _ ho.af,wB _ ho.to,λh0 hk=>(by
  have hV:=af3 h hf.e;refine jh.1 (hV.th _ ?_);refine lP λhn=>?_
  unfold lM at h0;rw[if_neg ag,if_pos ag] at h0;cases h0),λh1 h2=>(wA h h1 h2).2.2.1,λh1 h2=>(wA h h1 h2).2.2.2,λh1 h2=>U0 (wA h h1 h2).1,λh1 h2=>U1 (wA h h1 h2).2.1⟩
theorem Sp (h:iC f):oF f o=if ik o=true then f.fb o else(f,1):=by
 unfold oF;by_cases ho:ik o=true
 .rw[if_pos ho,if_pos ho,ajM h ho]
 .rw[if_neg ho,if_neg ho]
end Go.Pl
namespace Go.Pl
open Go.Lg
variable {q:fg}
def uf (z:az)(x:a7):Bool:=decide (x.af≠[47])&&decide ((aw x.af).1=z)
structure QE (p:List a7)(q:fg):Prop where
 tl:1<=q.length/\q.length<=16
 st:(q.map bP.id).Nodup
 t0:∃x∈q,x.id=0/\x.aJ=true
 tx:∀x∈q,(0<=x.id/\x.id<=15)/\(x.aJ=true->x.bq=[])/\x.bq.length<=192
 sn:(p.map a7.af).Nodup
 nr:(⟨[47],0⟩:a7)∈p
 th:∀x∈p,∃y∈q,y.id=x.id
 up:∀x∈p,x.af≠[47]->aU (aw x.af).2=true/\∃w∈p,w.af=(aw x.af).1/\∃y∈q,y.id=w.id/\y.aJ=true
 ct:∀n,sf p n<=9
 cf:∀y∈q,y.aJ=true->sf p y.id<=1
 cn:∀z,p.countP (uf z)<=12
 al:∀x∈q,∃w∈p,w.id=x.id
theorem OkG.p {p:List a7}(h:OkG p q):QE p q:=
 ⟨h.tl,h.st.nodup,h.t0,h.tx,h.sn.nodup,h.nr,λx hx=>Ag.1 (h.th x hx),λx hx uE=>by
   obtain⟨h1,w,hw,hp,hf⟩:=h.up x hx uE;exact⟨h1,w,hw,hp,(nA h.st).1 hf⟩,h.ct,λy hy hf=>h.cf _ ((nA h.st).2 ⟨y,hy,rfl,hf⟩),h.cn,h.al⟩
theorem IM (x:a7):∀l:List a7,(Ev.wI x l).Perm (x::l)
 |[]=>.refl _
 |y::l=>by
  unfold Ev.wI;split
  .exact .refl _
  .exact((IM x l).cons y).trans (.swap x y l)
theorem yr:∀l:List a7,(Ev.gS l).Perm l
 |[]=>.refl _
 |x::l=>(IM x (Ev.gS l)).trans ((yr l).cons x)
theorem IN (x:bP):∀l:fg,(Ev.wJ x l).Perm (x::l)
 |[]=>.refl _
 |y::l=>by
  unfold Ev.wJ;split
  .exact .refl _
  .exact((IN x l).cons y).trans (.swap x y l)
theorem Fz:∀l:fg,(Ev.il l).Perm l
 |[]=>.refl _
 |x::l=>(IN x (Ev.il l)).trans ((Fz l).cons x)
theorem QE.g {p:List a7}(h:QE p q):OkG (Ev.gS p) (Ev.il q):=by
 have hs:=qO q h.st;have hl:=(Fz q).length_eq;have hc:∀P,(Ev.gS p).countP P=p.countP P:=λP=>(yr p).countP_eq P
 have uu:∀n,iw (Ev.il q) n=true↔∃y∈q,y.id=n/\y.aJ=true:=λn=>by
  rw[nA hs];constructor
  .rintro⟨y,hy,h1⟩;exact⟨y,(jw q y).1 hy,h1⟩
  .rintro⟨y,hy,h1⟩;exact⟨y,(jw q y).2 hy,h1⟩
 refine⟨by rw[hl];exact h.tl,hs,?_,λx hx=>h.tx x ((jw q x).1 hx),ou p h.sn,(ib p _).2 h.nr,λx hx=>?_,λx hx uE=>?_,λn=>?_,λn hn=>?_,λz=>?_,λx hx=>?_⟩
 .obtain⟨x,hx,h1⟩:=h.t0;exact⟨x,(jw q x).2 hx,h1⟩
 .obtain⟨y,hy,h1⟩:=h.th x ((ib p x).1 hx);exact Ag.2 ⟨y,(jw q y).2 hy,h1⟩
 .obtain⟨h1,w,hw,h2,h3⟩:=h.up x ((ib p x).1 hx) uE;exact⟨h1,w,(ib p w).2 hw,h2,(uu _).2 h3⟩
 .unfold sf;rw[hc];exact h.ct n
 .obtain⟨y,hy,rfl,h2⟩:=(uu n).1 hn;unfold sf;rw[hc];exact h.cf y hy h2
 .rw[hc];exact h.cn z
 .obtain⟨w,hw,h1⟩:=h.al x ((jw q x).1 hx);exact⟨w,(ib p w).2 hw,h1⟩
theorem QE.bq {p:List a7}(h:QE p q){t:Nat}(ht:t<q.length)(hf:(q.getD t eS).aJ=false){s:az}(hs:s.length<=192):QE p (q.set t ⟨(q.getD t eS).id,(q.getD t eS).aJ,s⟩):=by
 have hgd:=du eS ht;have hid:(q.set t ⟨(q.getD t eS).id,(q.getD t eS).aJ,s⟩).map bP.id=q.map bP.id:=by
  rw[List.map_set];refine List.ext_getElem (by rw[gN]) λi h1 h2=>?_
  rw[List.getElem_set];split
  .rename_i e;subst e;rw[List.getElem_map,aZ,bd ht];rfl
  .rfl
 have h1:∀y∈q.set t ⟨(q.getD t eS).id,(q.getD t eS).aJ,s⟩,∃x∈q,x.id=y.id/\x.aJ=y.aJ:=λy hy=>by
  rcases GN hy with hy|rfl
  .exact⟨y,hy,rfl,rfl⟩
  .exact⟨_,hgd,rfl,rfl⟩
 have h2:∀x∈q,∃y∈q.set t ⟨(q.getD t eS).id,(q.getD t eS).aJ,s⟩,y.id=x.id/\y.aJ=x.aJ:=λx hx=>by
  obtain⟨i,hi,rfl⟩:=iY hx;by_cases hit:i=t
  .subst hit;refine⟨_,List.mem_set hi _,?_⟩;rw[aZ,bd ht];exact⟨rfl,rfl⟩
  .refine⟨(q.set t ⟨(q.getD t eS).id,(q.getD t eS).aJ,s⟩)[i]'(by rw[gN];exact hi),rj _,?_⟩;rw[List.getElem_set_ne (λe=>hit e.symm)];exact⟨rfl,rfl⟩
 refine⟨by rw[gN];exact h.tl,by rw[hid];exact h.st,?_,λx hx=>?_,h.sn,h.nr,λx hx=>?_,λx hx uE=>?_,h.ct,λy hy hyf=>?_,h.cn,λx hx=>?_⟩
 .obtain⟨x,hx,h3,h4⟩:=h.t0;obtain⟨y,hy,h5,h6⟩:=h2 x hx;exact⟨y,hy,by rw[h5,h3],by rw[h6,h4]⟩
 .rcases GN hx with hx|rfl
  .exact h.tx x hx
  .exact⟨(h.tx _ hgd).1,λe=>(by rw[show(q.getD t eS).aJ=true from e] at hf;cases hf),hs⟩
 .obtain⟨y,hy,h3⟩:=h.th x hx;obtain⟨y',xD,h5,_⟩:=h2 y hy;exact⟨y',xD,by rw[h5,h3]⟩
 .obtain⟨h3,w,hw,h4,y,hy,h5,h6⟩:=h.up x hx uE;obtain⟨y',xD,h7,h8⟩:=h2 y hy;exact⟨h3,w,hw,h4,y',xD,by rw[h7,h5],by rw[h8,h6]⟩
 .obtain⟨x,hx,h3,h4⟩:=h1 y hy;rw[<-h3];exact h.cf x hx (by rw[h4,hyf])
 .obtain⟨y,hy,h3,_⟩:=h1 x hx;rw[<-h3];exact h.al y hy
theorem Oa (p:List a7)(z:az)(n m:Int):sf (p++[⟨z,n⟩]) m=sf p m+if n=m then 1 else 0:=by unfold sf;rw[Bp,List.countP_singleton];simp
theorem ZV (h:(q.map bP.id).Nodup){x y:bP}(hx:x∈q)(hy:y∈q)(e:x.id=y.id):x=y:=by
 refine' zbp
 .exact absurd e (uj.1 h i j hi hj nD)
 .subst nD;rfl
 .exact absurd e.symm (uj.1 h j i hj hi nD)
theorem FA {p:List a7}(h:(p.map a7.af).Nodup){x y:a7}(hx:x∈p)(hy:y∈p)(e:x.af=y.af):x=y:=by
 refine' zbp
 .exact absurd e (uj.1 h i j hi hj nD)
 .subst nD;rfl
 .exact absurd e.symm (uj.1 h j i hj hi nD)
theorem QE.link {p:List a7}(h:QE p q){z:az}(hz:aU (aw z).2=true)(hn:∀x∈p,x.af≠z){w:a7}(hw:w∈p)(KH:w.af=(aw z).1)(Kf:∃y∈q,y.id=w.id/\y.aJ=true){t:bP}(ht:t∈q)(htf:t.aJ=false)(hl:sf p t.id<9)(hc:p.countP (uf (aw z).1)<12):QE (p++[⟨z,t.id⟩]) q:=by
 refine⟨h.tl,h.st,h.t0,h.tx,oz a7.af h.sn hn,cT _ h.nr,λx hx=>?_,λx hx uE=>?_,λn=>?_,λy hy hyf=>?_,λy=>?_,λx hx=>?_⟩
 .rcases eZ.1 hx with hx|hx
  .exact h.th x hx
  .rw[ix] at hx;subst hx;exact⟨t,ht,rfl⟩
 .rcases eZ.1 hx with hx|hx
  .obtain⟨h1,v,hv,h2⟩:=h.up x hx uE;exact⟨h1,v,cT _ hv,h2⟩
  .rw[ix] at hx;subst hx;exact⟨hz,w,cT _ hw,KH,Kf⟩
 .rw[Oa];by_cases hm:t.id=n
  .rw[if_pos hm,<-hm];omega
  .rw[if_neg hm];exact h.ct n
 .rw[Oa,if_neg]
  .exact h.cf y hy hyf
  .intro e;have:=ZV h.st ht hy e;rw[this,hyf] at htf;cases htf
 .rw[Bp,List.countP_singleton];by_cases hy:(aw z).1=y
  .rw[<-hy];split<;>omega
  .have h2:¬uf y ⟨z,t.id⟩=true:=by
    unfold uf;rw[bO,bQ,bQ];exact λe=>hy e.2
   rw[if_neg h2];exact h.cn y
 .obtain⟨v,hv,hi⟩:=h.al x hx;exact⟨v,cT _ hv,hi⟩
theorem QE.drop {p:List a7}(h:QE p q){e:a7}(he:e∈p)(hz:e.af≠[47])(h0:e.id≠0)(hk:p.countP (uf e.af)=0):QE (xg p q e.af e.id).1 (xg p q e.af e.id).2:=by
 unfold xg;dsimp only;have jn:(p.filter λx=>!decide (x.af=e.af)).Sublist p:=Bm;have U8:∀P,(p.filter λx=>!decide (x.af=e.af)).countP P<=p.countP P:=λP=>jn.countP_le
 have u3:∀x,x∈p.filter (λx=>!decide (x.af=e.af))↔x∈p/\x.af≠e.af:=λx=>by
  rw[pD];simp
 have hup:∀x∈p,x.af≠[47]->aU (aw x.af).2=true/\∃w∈p.filter (λx=>!decide (x.af=e.af)),w.af=(aw x.af).1/\∃y∈q,y.id=w.id/\y.aJ=true:=λx hx uE=>by
  obtain⟨h1,w,hw,h2,h3⟩:=h.up x hx uE;refine⟨h1,w,(u3 w).2 ⟨hw,λe2=>?_⟩,h2,h3⟩;refine uM.1 hk x hx ?_;unfold uf;rw[bO,bQ,bQ];exact⟨uE,by rw[<-h2,e2]⟩
 have hsn:((p.filter λx=>!decide (x.af=e.af)).map a7.af).Nodup:=List.Nodup.sublist (jn.map _) h.sn;have hnr:(⟨[47],0⟩:a7)∈p.filter (λx=>!decide (x.af=e.af)):=(u3 _).2 ⟨h.nr,λe2=>hz e2.symm⟩;by_cases hl:sf (p.filter λx=>!decide (x.af=e.af)) e.id=0
 .rw[if_pos hl];have adM:(q.filter λx=>!decide (x.id=e.id)).Sublist q:=Bm;have U9:∀x,x∈q.filter (λx=>!decide (x.id=e.id))↔x∈q/\x.id≠e.id:=λx=>by
   rw[pD];simp
  have nN:∀x∈p.filter (λx=>!decide (x.af=e.af)),x.id≠e.id:=λx hx e2=>uM.1 hl x hx (by simpa using e2)
  obtain⟨x0,uE,h1,h2⟩:=h.t0;have FN:=(U9 x0).2 ⟨uE,λe2=>h0 (by rw[<-e2,h1])⟩;refine⟨⟨GQ FN,gK adM.length_le h.tl.2⟩,List.Nodup.sublist (adM.map _) h.st,⟨x0,FN,h1,h2⟩,λx hx=>h.tx x ((U9 x).1 hx).1,hsn,hnr,λx hx=>?_,λx hx uE=>?_,λn=>gK (U8 _) (h.ct n),λy hy hf=>gK (U8 _) (h.cf y ((U9 y).1 hy).1 hf),λz=>gK (U8 _) (h.cn z),λx hx=>?_⟩
  .obtain⟨y,hy,h3⟩:=h.th x ((u3 x).1 hx).1;exact⟨y,(U9 y).2 ⟨hy,λe2=>nN x hx (by rw[<-h3,e2])⟩,h3⟩
  .obtain⟨h3,w,hw,h4,y,hy,h5,h6⟩:=hup x ((u3 x).1 hx).1 uE;exact⟨h3,w,hw,h4,y,(U9 y).2 ⟨hy,λe2=>nN w hw (by rw[<-h5,e2])⟩,h5,h6⟩
  .obtain⟨hx,hxe⟩:=(U9 x).1 hx;obtain⟨w,hw,hi⟩:=h.al x hx;refine⟨w,(u3 w).2 ⟨hw,λe2=>hxe ?_⟩,hi⟩;rw[<-hi,FA h.sn hw he e2]
 .rw[if_neg hl];refine⟨h.tl,h.st,h.t0,h.tx,hsn,hnr,λx hx=>h.th x ((u3 x).1 hx).1,λx hx uE=>hup x ((u3 x).1 hx).1 uE,λn=>gK (U8 _) (h.ct n),λy hy hf=>gK (U8 _) (h.cf y hy hf),λz=>gK (U8 _) (h.cn z),λx hx=>?_⟩;obtain⟨w,hw,hi⟩:=h.al x hx;by_cases hwe:w.af=e.af
  .obtain⟨v,hv,OV⟩:=C8.1 (Nat.pos_of_ne_zero hl);refine⟨v,hv,?_⟩;have OV:v.id=e.id:=by simpa using OV
   rw[OV,<-hi,FA h.sn hw he hwe]
  .exact⟨w,(u3 w).2 ⟨hw,hwe⟩,hi⟩
variable {z r y:az}
theorem FB:∀(z r:az)(s:Nat),dQ r=some s->dQ (z++r)=some (z.length+s)
 |[],r,s,h=>by rw[pn,h,lW,mU]
 |c::z,r,s,h=>by
  rw[yv];unfold dQ;rw[FB z r s h,cY];show some (z.length+s+1)=_
  congr 1;omega
theorem B2 (r:az):∃s,dQ (47::r)=some s:=by
 unfold dQ;cases dQ r with
 |some j=>exact⟨j+1,rfl⟩
 |none=>exact⟨0,if_pos rfl⟩
theorem wC (hz:z≠[]){s:Nat}(hs:dQ (47::r)=some s):((47::r).take s=[]\/((47::r).take s).getD 0 0=47)/\aw (z++47::r)=(z++(47::r).take s,(47::r).drop (s+1)):=by
 have hl:0<z.length:=nL.2 hz;refine⟨?_,?_⟩
 .cases s with
  |zero=>exact .inl rfl
  |succ s=>exact .inr rfl
 .unfold aw;rw[FB z _ s hs];show(List.take (max (z.length+s) 1) (z++47::r),List.drop (z.length+s+1) (z++47::r))=_;rw[Nat.max_eq_left ag,Bk,qW ag,List.drop_append,yE ag,pn,show z.length+s-z.length=s by omega,show z.length+s+1-z.length=s+1 by omega]
theorem FC {x:az}(h:aU (aw x).2=true):x=(aw x).1++47::(aw x).2\/((aw x).1=[47]/\x=47::(aw x).2):=by
 unfold aw at h⊢;cases hl:dQ x with
 |none=>rw[hl] at h;cases h
 |some t=>
  have dG:=qc x t hl;have nJ:=wc x t hl;have hg:x[t]=47:=by
   rw[aZ,bd dG] at nJ;exact nJ
  have ni:x=x.take t++47::x.drop (t+1):=by
   rw[<-hg,<-ui dG,yD]
  by_cases ht:t=0
  .subst ht
   right
   refine⟨?_,by simpa using ni⟩;show List.take (max 0 1) x=_;rw[ni];rfl
  .left
   show x=List.take (max t 1) x++47::List.drop (t+1) x;rw[Nat.max_eq_left ag];exact ni
theorem FD {α:Type}{K A B:α->Bool}:∀l:List α,(∀x∈l,K x=true->A x=true\/B x=true)->l.countP K<=l.countP A+l.countP B
 |[],_=>iG _
 |x::l,h=>by
  have h1:=FD l λy hy=>h y (jA _ hy)
  rw[iH,iH,iH];by_cases hK:K x=true
  .rw[if_pos hK];rcases h x gh hK with h2|h2<;>rw[if_pos h2]<;>split<;>omega
  .rw[if_neg hK];omega
theorem B3 {p:List a7}(h:(p.map a7.af).Nodup)(z:az):(p.countP λx=>decide (x.af=z))<=1:=by
 induction p with
 |nil=>exact iG _
 |cons x p ih=>
  rw[wO,uN] at h;rw[iH];by_cases hx:x.af=z
  .rw[if_pos (by simpa using hx)];have:(p.countP λx=>decide (x.af=z))=0:=uM.2 λy hy e=>h.1 (jK.2 ⟨y,hy,by rw[hx];simpa using e⟩)
   omega
  .rw[if_neg (by simpa using hx)];exact ih h.2
theorem Bg:∀y∈Ev.dN,aP y=true->y≠[47]->y.take 2≠[47,47]/\2<=y.length/\(aw y).1.length<y.length/\(aw y).1≠[]:=by decide
theorem QF:(Ev.dN.all λy=>Ev.dN.all λz=>!aP y||decide (y=[47])||!aP z||decide (z=[47])||under y z||(l7 (aw y).1 z).isNone)=true:=by kernel_rfl
theorem Va (h1:y∈Ev.dN)(h2:aP y=true)(h3:y≠[47])(h4:z∈Ev.dN)(h5:aP z=true)(h6:z≠[47])(h7:under y z=false):l7 (aw y).1 z=none:=by have h:=gA.1 (gA.1 QF y h1) z h4;rw[h2,h5,h7,eI h3,eI h6] at h;exact Option.isNone_iff_eq_none.1 h
theorem tc {x:a7}(h:l7 x.af z=some r):xf z y x=⟨y++r,x.id⟩:=by unfold xf;rw[h]
theorem pg {x:a7}(h:l7 x.af z=none):xf z y x=x:=by unfold xf;rw[h]
theorem Kz (z y:az)(x:a7):(xf z y x).id=x.id:=by unfold xf;split<;>rfl
theorem iC.move {f:Flat}(h:iC f)(KA:z∈Ev.dN)(GB:y∈Ev.dN)(hz:aP z=true)(hy:aP y=true)(vO:z≠[47])(nN:rZ f.ad y=none)(CE:under y z=false){w:a7}(hw:w∈f.ad)(KH:w.af=(aw y).1)(Kf:∃t∈f.ae,t.id=w.id/\t.aJ=true)(hc:(aw y).1≠(aw z).1->f.ad.countP (uf (aw y).1)<12):QE (f.ad.map (xf z y)) f.ae:=by
 have hg:=h.g.p;have hy0:y≠[47]:=λe=>by
  have:=h.cI;rw[<-e,nN] at this;cases this
 have Vu:=qh hy;have hz1:=qh hz;obtain⟨_,hy2,hy3,_⟩:=Bg y GB hy hy0;obtain⟨_,hz2,_,_⟩:=Bg z KA hz vO;have hyn:=qT y GB hy hy0;have hya:=Va GB hy hy0 KA hz vO CE;have amF:∀x∈f.ad,∀r,l7 x.af y=some r->False:=λx hx r hr=>by
  obtain⟨g1,g2⟩:=er.1 hr;obtain⟨j,hj,rfl⟩:=iY hx;rcases g2 with rfl|g2
  .exact oE nN _ (rj hj) (by rw[g1,gg])
  .cases r with
   |nil=>exact absurd g2 bJ
   |cons c r=>
    (have:c=47:=by simpa using g2);subst this;obtain⟨m,hm,UZ⟩:=h.closed Vu j j (cG _) hj r (by rw[aZ,bd hj];exact g1);exact oE nN _ (du cy hm) UZ
 have amG:∀x,aU (aw x).2=true->l7 x z=none->l7 (aw x).1 z=none:=λx hx hc=>by
  cases hw:l7 (aw x).1 z with
  |none=>rfl
  |some r=>
   exfalso;obtain⟨g1,g2⟩:=er.1 hw;rcases FC hx with e|⟨e1,e2⟩
   .have:l7 x z=some (r++47::(aw x).2):=er.2 ⟨by rw[<-ku,<-g1];exact e,.inr (by
     rcases g2 with rfl|g2
     .rfl
     .cases r with
      |nil=>rfl
      |cons c r=>exact g2)⟩
    rw[hc] at this;cases this
   .rw[e1] at g1;have:=ep List.length g1;rw[bL] at this;simp at this;omega
 have N9:xf z y ⟨[47],0⟩=⟨[47],0⟩:=pg (by
  show l7 [47] z=none;cases hw:l7 [47] z with
  |none=>rfl
  |some r=>
   have:=ep List.length (er.1 hw).1;rw[bL] at this;simp at this;omega)
 have MK:∀n,sf (f.ad.map (xf z y)) n=sf f.ad n:=λn=>by
  unfold sf;rw[List.countP_map];refine C6 λx _=>?_
  show decide ((xf z y x).id=n)=true↔_;rw[Kz]
 refine⟨hg.tl,hg.st,hg.t0,hg.tx,yp h Vu nN,jK.2 ⟨_,hg.nr,N9⟩,λx hx=>?_,λx hx uE=>?_,λn=>by rw[MK];exact hg.ct n,λt ht hf=>by rw[MK];exact hg.cf t ht hf,λZ=>?_,λx hx=>?_⟩
 .obtain⟨v,hv,rfl⟩:=jK.1 hx;rw[Kz];exact hg.th v hv
 .obtain⟨v,hv,rfl⟩:=jK.1 hx;cases hcv:l7 v.af z with
  |some r=>
   rw[tc hcv] at uE⊢;obtain⟨g1,g2⟩:=er.1 hcv;by_cases hr:r=[]
   .subst hr;rw[show(⟨y++[],v.id⟩:a7).af=y from gg y];refine⟨hyn,w,jK.2 ⟨w,hw,pg (by rw[KH];exact hya)⟩,KH,Kf⟩
   .cases r with
    |nil=>exact absurd rfl hr
    |cons c r=>
    have:c=47:=by rcases g2 with g2|g2;cases g2;simpa using g2
    subst this;obtain⟨s,hs⟩:=B2 r;obtain⟨h1,h2⟩:=wC hz1 hs;obtain⟨_,h4⟩:=wC Vu hs;have hv0:v.af≠[47]:=λe=>by
     rw[e] at g1;have:=ep List.length g1;rw[bL] at this;simp at this;omega
    obtain⟨h5,u,hu,h6,h7⟩:=hg.up v hv hv0;rw[g1,h2] at h5 h6;show aU (aw (y++47::r)).2=true/\∃w∈f.ad.map (xf z y),w.af=(aw (y++47::r)).1/\_;rw[h4];refine⟨h5,_,jK.2 ⟨u,hu,rfl⟩,?_,by rw[Kz];exact h7⟩;rw[tc (er.2 ⟨h6,h1⟩)]
  |none=>
   rw[pg hcv] at uE⊢;obtain⟨h5,u,hu,h6,h7⟩:=hg.up v hv uE;exact⟨h5,u,jK.2 ⟨u,hu,pg (by rw[h6];exact amG _ h5 hcv)⟩,h6,h7⟩
 .rw[List.countP_map];have hK:∀x∈f.ad,uf Z (xf z y x)=true->(∃r s,x.af=z++47::r/\(aw x.af).1=z++(47::r).take s/\((47::r).take s=[]\/((47::r).take s).getD 0 0=47)/\y++(47::r).take s=Z)\/(x.af=z/\(aw y).1=Z)\/uf Z x=true:=λx hx hk=>by
   cases hcv:l7 x.af z with
   |none=>rw[pg hcv] at hk;exact .inr (.inr hk)
   |some r=>
    rw[tc hcv] at hk;obtain⟨g1,g2⟩:=er.1 hcv;unfold uf at hk;rw[bO,bQ,bQ] at hk;cases r with
    |nil=>rw[gg] at g1 hk;exact .inr (.inl ⟨g1,hk.2⟩)
    |cons c r=>
     (have:c=47:=by rcases g2 with g2|g2;cases g2;simpa using g2);subst this;obtain⟨s,hs⟩:=B2 r;obtain⟨h1,h2⟩:=wC hz1 hs;obtain⟨_,h4⟩:=wC Vu hs;refine .inl ⟨r,s,g1,by rw[g1,h2],h1,?_⟩;have:=hk.2;rw[h4] at this;exact this
  have fY:∀x:a7,∀r,x.af=z++r->x.af≠[47]:=λx r g1 e=>by
   rw[e] at g1;have:=ep List.length g1;rw[bL] at this;simp at this;omega
  cases hZ:l7 Z y with
  |some r0=>
   obtain⟨hZ1,hZ2⟩:=er.1 hZ;refine gK (List.countP_mono_left λx hx hk=>?_) (hg.cn (z++r0));rcases hK x hx hk with⟨r,s,h1,h2,h3,h4⟩|⟨h1,h2⟩|h1
   .unfold uf;rw[bO,bQ,bQ];refine⟨fY x _ h1,?_⟩;rw[h2];rw[hZ1] at h4;rw[List.append_cancel_left h4]
   .exfalso;rw[h2,hZ1,bL] at hy3;omega
   .exfalso;unfold uf at h1;rw[bO,bQ,bQ] at h1;obtain⟨_,v,hv,h5,_⟩:=hg.up x hx h1.1;exact amF v hv r0 (by rw[h5,h1.2];exact hZ)
  |none=>
   have hK:∀x∈f.ad,uf Z (xf z y x)=true->(x.af=z/\(aw y).1=Z)\/uf Z x=true:=λx hx hk=>by
    rcases hK x hx hk with⟨r,s,h1,h2,h3,h4⟩|h1
    .have:=er.2 ⟨h4.symm,h3⟩;rw[hZ] at this;cases this
    .exact h1
   by_cases hs:(aw y).1=Z/\(aw y).1≠(aw z).1
   .have h1:=hc hs.2;rw[hs.1] at h1;have h2:=FD (K:=uf Z ∘ xf z y) (A:=λx:a7=>decide (x.af=z)) (B:=uf Z) f.ad λx hx hk=>by
     rcases hK x hx hk with h3|h3
     .exact .inl (bY h3.1)
     .exact .inr h3
    have h3:=B3 hg.sn z;omega
   .refine gK (List.countP_mono_left λx hx hk=>?_) (hg.cn Z);rcases hK x hx hk with⟨h1,h2⟩|h1
    .unfold uf;rw[bO,bQ,bQ];refine⟨fY x [] (by rw[gg];exact h1),?_⟩;rw[h1];refine lP λh3=>hs ⟨h2,λh4=>h3 ?_⟩
     rw[<-h4];exact h2
    .exact h1
 .obtain⟨v,hv,hi⟩:=hg.al x hx;exact⟨_,jK.2 ⟨v,hv,rfl⟩,by rw[Kz];exact hi⟩
variable {f:Flat}{o:Op}
theorem ZW:∀z∈Ev.dN,z.take 2=[47,47]->z.length=2:=by decide
theorem iC.kids (h:iC f)(z:az):f.ad.countP (uf z)=f.nE z:=by refine' za8;rw[h.ab5,<-Kx h.nr fY];rfl
theorem acd (a:Nat)(x t:az):(wrJ (a:Int) x t).length<=max t.length (a+x.length):=by unfold wrJ;rw[Kt,bL,bL,cW,eW,bL,qX];omega
theorem ace (a:Nat)(t:az):(ctJ (a:Int) t).length<=a:=by unfold ctJ;rw[cW];show min a _<=a;omega
theorem iC.Oy (h:iC f){z:az}{k:Nat}(hk:rZ f.ad z=some k)(hf:¬iw f.ae (de f.ad z)=true)(g:az->az)(hg:∀x:az,x.length<=192->(g x).length<=192):QE f.ad (Go.Pl.Oy f.ae (de f.ad z) g):=by obtain⟨Aj,wN⟩:=h.yn hk;obtain⟨t,ht⟩:=jh.1 (h.nm k Aj).1;rw[h.lu hk] at hf⊢;unfold Go.Pl.Oy;unfold iw at hf;rw[ht] at hf⊢;have hp:=h.g.p;have pO:=(x8 ht).1;exact hp.bq pO (Bool.eq_false_iff.2 hf) (hg _ (hp.tx _ (du eS pO)).2.2)
theorem iC.newAt (h:iC f){y:az}(GB:y∈Ev.dN)(hy:aP y=true)(cJ:Bool)(h0:uI f.ad f.ae y cJ=0):rZ f.ad y=none/\y≠[47]/\cJ=false/\aU (aw y).2=true/\f.ad.countP (uf (aw y).1)<12/\∃w∈f.ad,w.af=(aw y).1/\∃t∈f.ae,t.id=w.id/\t.aJ=true:=by
 rw[Bb h hy] at h0;have hf:¬0<f.bI y:=λe=>by rw[if_pos e] at h0;omega
 rw[if_neg hf] at h0;obtain⟨g1,g2,k,g3,g4⟩:=oD hf;have hc:¬(cJ=true\/12<=f.nE (aR y).1):=λe=>by rw[if_pos e] at h0;cases h0
 have hn:=qT y GB hy g2;have hs:=pU hn;rw[hs] at hc g3;obtain⟨Aj,wN⟩:=h.yn g3;refine⟨g1,g2,Bool.eq_false_iff.2 λe=>hc (.inl e),hn,?_,_,du cy Aj,wN,(nA h.st).1 (by rw[h.fld];exact g4)⟩;rw[h.kids];refine lP λe=>hc (.inr ag)
theorem af4 (h:iC f)(ho:ik o=true)(KA:o.af∈Ev.dN)(GB:o.to∈Ev.dN)(hk:¬(o.kind=1\/o.kind=2))(h0:lM f.ad f.ae o=0):QE (oN f.ad f.ae o).1 (oN f.ad f.ae o).2:=by
 obtain⟨⟨h1,h2⟩,h3,h4,h5,h6⟩:=gZ ho;obtain⟨kd,pa,tq9,at_,tx⟩:=o;dsimp only at h1 h2 h3 h4 h5 h6 KA GB hk;obtain⟨a,rfl⟩:=wT h5.1;have hp:=h.g.p;unfold lM at h0;dsimp only at h0;unfold oN;dsimp only;rw[if_neg hk] at h0⊢;have c1:¬de f.ad pa<0:=λe=>by rw[if_pos e] at h0;cases h0
 rw[if_neg c1] at h0;obtain⟨k,v8⟩:=jh.1 ((h.ld0 pa).1 ag);obtain⟨Aj,wN⟩:=h.yn v8;have D0:=h.lu v8;by_cases N1:kd=3\/kd=4
 .rw[if_pos N1] at h0;have c2:¬iw f.ae (de f.ad pa)=true:=λe=>by rw[if_pos e] at h0;cases h0
  rw[if_neg c2] at h0;have c3:¬192<(a:Int)+(tx.length:Int):=λe=>by rw[if_pos e] at h0;cases h0
  by_cases k3:kd=3
  .rw[if_pos k3];dsimp only;split
   .exact hp
   .exact h.Oy v8 c2 _ λx hx=>by
     have:=acd a tx x;omega
  .rw[if_neg k3,if_pos (show kd=4 by omega)];exact h.Oy v8 c2 _ λx hx=>by
    have:=ace a x;omega
 rw[if_neg (show ¬kd=3 by omega),if_neg (show ¬kd=4 by omega)];rw[if_neg N1] at h0;by_cases k5:kd=5
 .rw[if_pos k5] at h0⊢;have c2:¬(de f.ad pa=0\/(iw f.ae (de f.ad pa)=true/\0<Ox f.ad (de f.ad pa))):=λe=>by rw[if_pos e] at h0;cases h0
  have hm:=du cy Aj;have hr:=h.wz v8;have:=hp.drop hm (by rw[wN];exact λe=>c2 (.inl (hr.2 e))) (by rw[<-D0];exact λe=>c2 (.inl e)) (by
   rw[h.kids];cases hb:tV f.ad f.ae k with
   |false=>exact h.adG Aj hb
   |true=>
    refine lP λe=>c2 (.inr ?_)
    rw[D0,h.fld,h.ZI Aj];exact⟨hb,ag⟩)
  rw[wN] at this;rw[D0];exact this
 rw[if_neg k5] at h0⊢;by_cases k6:kd=6
 .rw[if_pos k6] at h0⊢;have c2:¬iw f.ae (de f.ad pa)=true:=λe=>by rw[if_pos e] at h0;cases h0
  rw[if_neg c2] at h0;obtain⟨g1,g2,g3,g4,g5,w,g6,g7,g8⟩:=h.newAt GB (h4 (.inl k6)) _ h0;obtain⟨t,ht⟩:=jh.1 (h.nm k Aj).1;rw[D0] at c2 g3⊢;unfold iw at c2;rw[ht] at c2;obtain⟨pO,hti⟩:=x8 ht;have:=hp.link g4 (oE g1) g6 g7 g8 (du eS pO) (Bool.eq_false_iff.2 c2) (by
   rw[hti];have:=of_decide_eq_false g3;omega) g5
  rw[hti] at this;exact this
 rw[if_neg k6] at h0⊢;have k7:kd=7:=by omega
 refine' zaS;rw[if_neg c3] at h0;have c4:¬under tq9 pa=true:=λe=>by rw[if_pos e] at h0;cases h0
 rw[if_neg c4] at h0;have nN:rZ f.ad tq9=none:=(h.vF tq9).1 ag;have vO:pa≠[47]:=λe=>c2 ((h.wz v8).2 e)
 have hy0:tq9≠[47]:=λe=>by
  have:=h.cI;rw[<-e,nN] at this;cases this
 have tz:=pU (qT tq9 GB R6 hy0);have hs2:=pU (qT pa KA h3 vO);rw[qS R6 hy0,qS h3 vO,tz,hs2] at h0;have c5:¬de f.ad (aw tq9).1<0:=λe=>by rw[if_pos e] at h0;cases h0
 rw[if_neg c5] at h0;obtain⟨m,hm⟩:=jh.1 ((h.ld0 (aw tq9).1).1 ag);obtain⟨Q6,UZ⟩:=h.yn hm;rw[h.lu hm,h.fld,h.ZI Q6,UZ] at h0;have c6:¬tV f.ad f.ae m=false:=λe=>by rw[if_pos e] at h0;cases h0
 rw[if_neg c6] at h0;refine h.move KA GB h3 R6 vO nN (Bool.eq_false_iff.2 c4) (du cy Q6) UZ ((nA h.st).1 (by rw[h.fld];cases hb:tV f.ad f.ae m with|true=>rfl|false=>exact absurd hb c6)) λe=>?_
 rw[h.kids];refine lP λe2=>?_
 rw[if_pos] at h0
 .cases h0
 .refine⟨λe3=>e ?_,ag⟩;have SZ:1<=k:=by
   (refine lP λhk=>?_);(have:k=0:=by omega);subst this;rw[h.nr] at wN;exact vO wN.symm
  obtain⟨w,hw,hwn,Kf,KH⟩:=h.par SZ Aj;rw[wN] at hwn KH;rw[h.lu hwn] at e3;have:=h.uniq Q6 ag e3 (by cases hb:tV f.ad f.ae m with|true=>rfl|false=>exact absurd hb c6);rw[<-UZ,this,KH]
theorem af5 (h:iC f)(ho:ik o=true)(KA:o.af∈Ev.dN)(GB:o.to∈Ev.dN)(h0:lM f.ad f.ae o=0):iC (Gq f.ad f.ae o):=by
 by_cases hk:o.kind=1\/o.kind=2
 .exact(acb h ho KA hk h0).1
 .exact(af4 h ho KA GB hk h0).g.f
theorem iC.amH (h:iC f):f.ad.length<=144:=by
 have hp:=h.g.p;have key:∀(q:fg)(p:List a7),(∀n,sf p n<=9)->(∀x∈p,∃y∈q,y.id=x.id)->p.length<=9*q.length:=by
  intro q;induction q with
  |nil=>
   intro p _ h2;cases p with
   |nil=>exact iG _
   |cons x p=>obtain⟨y,hy,_⟩:=h2 x gh;cases hy
  |cons t q ih=>
   intro p h1 h2;have h3:=ih (p.filter λx=>!decide (x.id=t.id)) (λn=>gK (List.filter_sublist.countP_le) (h1 n)) (λx hx=>by
    rw[pD] at hx;obtain⟨y,hy,e⟩:=h2 x hx.1;rcases bT.1 hy with rfl|hy
    .rw[e] at hx;simp at hx
    .exact⟨y,hy,e⟩)
   have h4:=h1 t.id;unfold sf at h4;rw[List.countP_eq_length_filter] at h4;have h5:p.length=(p.filter λx=>decide (x.id=t.id)).length+(p.filter λx=>!decide (x.id=t.id)).length:=by
    rw[<-List.countP_eq_length_filter,<-List.countP_eq_length_filter];have h6:=List.length_eq_countP_add_countP (λx:a7=>decide (x.id=t.id)) (l:=p);rw[h6]
    congr 1
    exact C6 λx _=>by simp
   rw[cY];omega
 have:=key f.ae f.ad hp.ct hp.th;have:=hp.tl;omega
theorem iC.ajY (h:iC f):∀(n j:Nat),j<=n->j<f.ad.length->(f.ad.getD j cy).af.length<=1+5*j/\∀c∈(f.ad.getD j cy).af,c.toNat<128
 |n,j,hjn,hj=>by
  by_cases h0:j=0
  .subst h0;rw[h.nr];refine⟨cG _,λc hc=>?_⟩;have:c=47:=by simpa using hc
   subst this;decide
  .obtain⟨m,hm,zI,hfm,hpm⟩:=h.par (show 1<=j by omega) hj;have nN:=((h.nm j hj).2.1 ag).2.2.1;cases n with
   |zero=>omega
   |succ n=>
    obtain⟨i1,i2⟩:=h.ajY n m ag ag;rw[hpm] at i1 i2;unfold aU at nN;simp only[bO,bQ,gA] at nN;have hx:(f.ad.getD j cy).af.length<=(aw (f.ad.getD j cy).af).1.length+1+(aw (f.ad.getD j cy).af).2.length/\∀c∈(f.ad.getD j cy).af,c∈(aw (f.ad.getD j cy).af).1\/c=47\/c∈(aw (f.ad.getD j cy).af).2:=by
     rcases FC ((h.nm j hj).2.1 ag).2.2.1 with e|⟨e1,e2⟩
     .have e3:=ep List.length e;rw[bL,cY] at e3;refine⟨ag,λc hc=>?_⟩;rw[e,eZ,bT] at hc;exact hc
     .have e3:=ep List.length e2;rw[cY] at e3;refine⟨ag,λc hc=>?_⟩;rw[e2,bT] at hc;exact .inr hc
    refine⟨ag,λc hc=>?_⟩;rcases hx.2 c hc with h1|rfl|h1
    .exact i2 c h1
    .decide
    .have:=nN.1.1 c h1;omega
theorem ajZ (h:iC f)(hN:∀x∈f.ad,vv x.af)(ho:ik o=true)(KA:o.af∈Ev.dN)(GB:o.to∈Ev.dN)(h0:lM f.ad f.ae o=0):∀x∈(Gq f.ad f.ae o).ad,vv x.af:=by
 have hI:∀z∈Ev.dN,vv z:=ZW;obtain⟨⟨h1,h2⟩,h3,h4,h5,h6⟩:=gZ ho;intro x hx;have hx:x∈(oN f.ad f.ae o).1:=(ib _ x).1 hx;unfold lM at h0;unfold oN at hx;have hs:∀(y:a7),x∈f.ad++[y]->vv y.af->vv x.af:=λy hx hy=>by
  rcases eZ.1 hx with hx|hx
  .exact hN x hx
  .rw[ix] at hx;subst hx;exact hy
 by_cases yC:o.kind=1\/o.kind=2
 .rw[if_pos yC] at hx;exact hs _ hx (hI _ KA)
 rw[if_neg yC] at hx h0;by_cases k3:o.kind=3
 .rw[if_pos k3] at hx;exact hN x hx
 rw[if_neg k3] at hx;by_cases k4:o.kind=4
 .rw[if_pos k4] at hx;exact hN x hx
 rw[if_neg k4] at hx;have c1:¬de f.ad o.af<0:=λe=>by rw[if_pos e] at h0;cases h0
 rw[if_neg c1,if_neg (show ¬(o.kind=3\/o.kind=4) by omega)] at h0;by_cases k5:o.kind=5
 .rw[if_pos k5] at hx;exact hN x (pD.1 hx).1
 rw[if_neg k5] at hx h0;by_cases k6:o.kind=6
 .rw[if_pos k6] at hx;exact hs _ hx (hI _ GB)
 rw[if_neg k6] at hx h0;obtain⟨v,hv,rfl⟩:=jK.1 hx;cases hc:l7 v.af o.af with
 |none=>rw[pg hc];exact hN v hv
 |some r=>
  rw[tc hc];have c2:¬de f.ad o.af=0:=λe=>by rw[if_pos e] at h0;cases h0
  rw[if_neg c2] at h0;have c3:¬0<=de f.ad o.to:=λe=>by rw[if_pos e] at h0;cases h0
  have nN:rZ f.ad o.to=none:=(h.vF o.to).1 ag;have hy0:o.to≠[47]:=λe=>by
   have:=h.cI;rw[<-e,nN] at this;cases this
  obtain⟨g1,g2,_⟩:=Bg _ GB (h4 (.inr ag)) hy0;intro e;have e:(o.to++r).take 2=[47,47]:=e;rw[B8 g2] at e;exact absurd e g1
end Go.Pl
namespace Go.Pl
open Go Go.Ev Go.Lg Go.Proofs
variable {E:ig}{X:fR}{Γ:qV}{l:Kn}{L R:bZ}{K:KO}{g:FuncId}{xs:List Operand}{ts:Array TypeId}{vs:a6}{a:aM}{br c p d n:Nat}{code:az}
abbrev aoY (a:aM)(c:Nat)(os:List Op):It:=.aQ (.slice a os.length c) 28 5 (ai os)
abbrev ao0 (a:aM)(c:Nat)(cs:List Int):It:=.aQ (.slice a cs.length c) 3 1 (ai cs)
abbrev ao1 (E:ig)(X:fR)(g:FuncId)(vs:a6)(s:St)(br:Nat)(a:aM)(code:az)(c p d:Nat):Prop:=fM E X g vs s [oB br a code.length c p] (aj a) λR L=>∃(p':Nat)(os:List Op)(ao:aM)(co:Nat),p'<=p+d/\os.length<=9/\(∀o∈os,OpD o)/\R= .slice ao os.length co/\L=[oB br a code.length c p',aoY ao co os]
theorem WO.ao8 (hx:kA l xs vs)(hp:oZ [oB br a code.length c p] L R)(hh:tR Γ a code)(h:∀s,sZ s a code->(∀i∈aj a,i∉[oB br a code.length c p].flatMap It.a8)->ao1 E X g vs s br a code c p d)(k:∀m m' p' os ao co,p'<=p+d->os.length<=9->(∀o∈os,OpD o)->jX L m->m<=m'->K (.slice ao os.length co) (oB br a code.length c p'::aoY ao co os::R) m m' (FtR (aj a) [oB br a code.length c p] m m') (FtW [oB br a code.length c p] m m')):WC E X Γ l g xs ts L K:=
 WO.call (Lm:=[oB br a code.length c p]) (R:=R) hx hp.cZ (λs hi=>(hh.row (hi.cZ hp.cZ|>.sub ⟨R,.refl _,nK _ _⟩)).2) (λs hi=>h s (hh.row (hi.cZ hp.cZ|>.sub ⟨R,.refl _,nK _ _⟩)).1 (tR.apart hh (hi.cZ hp.cZ))) (by rintro r' L' m m' ho hm ⟨p',os,ao,co,h1,h2,h3,rfl,rfl⟩;exact k m m' p' os ao co h1 h2 h3 ho hm)
theorem ao9 (s:St)(br:Nat)(a:aM)(code:az)(c p:Nat)(hc:code.length<=2000)(hp:p<=60000)(hr:sZ s a code)(hm:∀i∈aj a,i∉[oB br a code.length c p].flatMap It.a8):
  ao1 bh bw 35 [bg br,iv 9] s br a code c p 2000:=by
 have hd:tR ⟨s,[oB br a code.length c p].flatMap It.a8,aj a⟩ a code:=⟨hr,λb hb=>hb,hm⟩;refine aT f35 ?_;(repeat' (first|refine' aW|((with_reducible apply WO.lit (α:=Op) (xs:=[]));exact zf;exact rfl;exact rfl;intro bl _)|refine' BK|refine' av|fail))
 obtain⟨j1,rfl⟩:∃j1:Nat,Ed=j1:=⟨Ed.toNat,ag⟩;refine W.bN (λk l L=>∃(j:Nat)(os:List Op)(ao:aM)(co p1:Nat),Le [(0,bg br),(5,.slice ao os.length co),(6,iv (j:Int))] l/\cC [oB br a code.length c p1,aoY ao co os] L/\k=j/\os.length+j<=9/\(∀o∈os,OpD o)/\p1<=p+1+220*(9-j))
                                                       (λl L=>∃(os:List Op)(ao:aM)(co p1:Nat),Le [(5,.slice ao os.length co)] l/\cC [oB br a code.length c p1,aoY ao co os] L/\os.length<=9/\(∀o∈os,OpD o)/\p1<=p+2000) _ ⟨j1,[],_,_,ng,bj,ar,rfl,by simp only[lW];omega,(λ_ h=>by cases h),ag⟩ ?_ ?_
 .rintro k l L ⟨j,os,ao,co,p1,hl,hL,rfl,h1,h2,h3⟩;refine W.le ?_ hl hL;clear hl hL;rcases wD k with h0|h0
  .subst h0;repeat' (first|refine' aW|refine' av|fail)
   (all_goals try refine cj);all_goals exact⟨os,ao,co,p1,bj,ar,ag,h2,ag⟩
  ·(repeat' (first|refine' aW|refine' ac6|((with_reducible apply WO.lit (α:=Op) (xs:=[_]));exact zf;exact rfl;exact rfl;intro bl _)|refine' av|fail))
   (all_goals try refine cj);all_goals exact⟨k-1,ag,k-1,os++[Ef],Xc,Xd,anu,by(rw[show((k-1:Nat):Int)=(k:Int)-1 by omega];exact bj),ar,rfl,by(rw[bL,Bt];omega),λo ho=>(eZ.1 ho).elim (h2 o) λe=>by(rw[ix] at e;subst e;exact XM),ag⟩
 .rintro l L ⟨os,ao,co,p1,hl,hL,h1,h2,h3⟩;refine aq ?_;refine W.le ?_ hl hL;clear hl hL;repeat' (first|refine' aW|refine' av|fail)
  all_goals exact⟨bG,_,_,bu,ar,p1,os,ao,co,h3,h1,h2,rfl,rfl⟩
abbrev ao2 (E:ig)(X:fR)(g:FuncId)(vs:a6)(s:St)(a:aM):Prop:=fM E X g vs s [] (aj a) λR L=>∃(f:Flat)(os:List Op)(an:aM)(cn:Nat)(a0:aM)(p0:List a7)(c0:Nat)(at_:aM)(ct:Nat)(ao:aM)(co:Nat),gf f/\os.length<=9/\(∀o∈os,OpD o)/\Sub 2 a0 p0 an f.ad/\R= .tuple ⟨[.agg ⟨ie an cn f.ad at_ ct f.ae⟩,.slice ao os.length co]⟩/\L=[cv a0 c0 p0,dK at_ ct f.ae,aoY ao co os]
theorem aoJ (s:St)(a:aM)(code:az)(c:Nat)(hr:sZ s a code)(hv:UL code.length c):ao2 bh bw 14 [.slice a code.length c] s a:=by
 refine' za5;have hv':UL code.length c:=hv;refine aT f14 ?_;(repeat' (first|refine' aW|((with_reducible apply WO.afP);exact aC;(intro s h1 h2;exact UU s _ _ _ h1 h2);assumption;assumption;intro _ _ b_o a_o c_o amp aop aoq aor _ _)|((with_reducible apply WO.afQ);exact aC;exact eC;assumption;(intro s hr hm;exact Kk s _ _ _ _ _ aL ag hr hm);intro _ _ p_f f_f aos aot aou aov aow aox aoy aoz amq amr _ _)|((with_reducible apply WO.ao8);exact aC;exact eC;assumption;(intro s hr hm;exact ao9 s _ _ _ _ _ aL ag hr hm);intro _ _ apt apg apq apr aps aph api _ _)|refine' av|fail));all_goals try refine cj
 exact⟨bG,_,_,bu,ar,f_f,apg,_,_,_,_,_,_,_,_,_,amq,aph,api,amr,rfl,rfl⟩
variable {i:Nat}{f:Flat}
def R1 (f:Flat)(os:List Op):Flat:=os.foldl (λf o=>(oF f o).1) f
def S1:Flat->List Op->List Int
 |_,[]=>[]
 |f,o::os=>(oF f o).2::S1 (oF f o).1 os
theorem aoF:∀(f:Flat)(os:List Op),(S1 f os).length=os.length
 |_,[]=>rfl
 |f,o::os=>by rw[S1,cY,aoF,cY]
theorem aoP (f:Flat)(os os':List Op):R1 f (os++os')=R1 (R1 f os) os':=List.foldl_append ..
theorem aoI:∀(f:Flat)(os os':List Op),S1 f (os++os')=S1 f os++S1 (R1 f os) os'
 |_,[],_=>rfl
 |f,o::os,os'=>by
  rw[yv,S1,aoI,S1];rfl
theorem ao3 {os:List Op}(hi:i<os.length)(d:Op):os.take (i+1)=os.take i++[os.getD i d]:=by rw[uO,bd hi,aZ,bd hi];rfl
theorem aoL {os:List Op}(hi:i<os.length)(d:Op):R1 f (os.take (i+1))=(oF (R1 f (os.take i)) (os.getD i d)).1:=by rw[ao3 hi d,aoP];rfl
theorem aoM {os:List Op}(hi:i<os.length)(d:Op):S1 f (os.take (i+1))=S1 f (os.take i)++[(oF (R1 f (os.take i)) (os.getD i d)).2]:=by rw[ao3 hi d,aoI];rfl
end Go.Pl
