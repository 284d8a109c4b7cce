/- Lemmas of the proof. No conditions. -/
import Derived.Test.YtoiielhpadnflaaGreatDoorAe11
set_option maxRecDepth 100000
set_option maxHeartbeats 4000000
set_option linter.unusedVariables false
set_option linter.unusedSimpArgs false
open Go.Proofs.Tryz
namespace Go.Pl
open Go Go.Ev Go.Lg Go.Proofs
variable {s:St}{i:Nat}{E:iq}{X:fY}{Γ:qN}{l:Kn}{L:dy}{K:KO}{g:FuncId}{xs:List Operand}{ts:Array TypeId}{vs:aY}{r:Value}
section
variable {A:List Nat}
theorem R6.of {A:List Nat}(h:yg s)(hA:4∈A):R6 ⟨s,([]:dy).flatMap It.cr,A⟩:=⟨h,hA,λh=>by cases h⟩
theorem R6.row (h:R6 Γ)(hi:Inv Γ s L):yg s/\Ca Γ s 4:=by have hle:=hi.le;refine⟨⟨by have:=h.r0.lt;omega,?_⟩,⟨by have:=h.r0.lt;omega,.inl h.A⟩⟩;obtain⟨o,h1,h2⟩:=h.r0.row;exact⟨o,by rw[hi.fr 4 h.r0.lt h.M];exact h1,h2⟩
theorem WO.Kc (hx:jY l xs vs)(hd:R6 Γ)(h:∀s,yg s->l7 E X g vs s [4] r)(k:∀m m',iY L m->m<=m'->K r L m m' (mV [4] [] m m') (mW [] m m')):WC E X Γ l g xs ts L K:=
 WO.nu hx (λs hi=>⟨λb hb=>by rw[fJ] at hb;subst hb;exact(hd.row hi).2,h s (hd.row hi).1⟩) k
end
theorem abZ (s:St)(n:Int)(h0:0<=n)(h1:n<=199)(hr:yg s):bL 69 [iv n] s [4] (sv (dec n)):=λhi ht hA=>by
 obtain⟨k,rfl⟩:∃k:Nat,n=k:=⟨n.toNat,af⟩;obtain⟨o,h2,h3⟩:=hr.row;have hI:Inv ⟨s,([]:dy).flatMap It.cr,[4]⟩ s ([]:dy):=⟨λ_ _ _=>rfl,cC _,λx hx=>(by cases hx),λx hx=>(by cases hx),wS,λb hb=>.inl hb,λb hb=>.inl hb,λb hb=>.inl hb,λb hb=>.inl hb⟩;refine nT.Wy (fn:=f69) cj (s':=s.aU 4) (v:=sv (dec (k:Nat))) (λq=>?_) ⟨[],hI.aU ⟨hr.lt,.inl ay⟩,rfl,rfl⟩;show dN (Nat.ble k 199) (ob (s.look 4) λo=>dN (Hb o)<| aM (.string ⟨⟨dec (.ofNat k)⟩⟩) (s.aU 4))=_;rw[gb (show k<=199 by omega),ep];unfold St.look;rw[h2,bu,h3];rfl
variable {x y:Operand}{m:Nat}
def yh:Op:=⟨1,[47,122,122],[],0,[]⟩
theorem Kd:kV yh=true:=by decide
def R7:aC:=[109,97,107,101,32,47,122,122]
structure Ns (s:St)(m:Nat):Prop where
 lt:0<s.next
 lm:m<s.next
 v:s.heap.get 0=some (.nW [(0,[.map (some m)])])
 t:∃es,s.heap.get m=some (.map es)/\nQ (sv [109,97,107,101]) es=some (some (iv 1))
structure Zu (Γ:qN)(m:Nat):Prop where
 r0:Ns Γ.s0 m
 A:0∈Γ.A
 Am:m∈Γ.A
 M:0∉Γ.M
 Mm:m∉Γ.M
section
variable {t:TypeId}
theorem Zu.of {A:List Nat}(h:Ns s m)(h0:0∈A)(hm:m∈A):Zu ⟨s,([]:dy).flatMap It.cr,A⟩ m:=⟨h,h0,hm,λh=>(by cases h),λh=>(by cases h)⟩
theorem Zu.row (h:Zu Γ m)(hi:Inv Γ s L):Ns s m/\Ca Γ s 0/\Ca Γ s m:=by have hle:=hi.le;have h1:=h.r0.lt;have h2:=h.r0.lm;obtain⟨es,h3,h4⟩:=h.r0.t;exact⟨⟨af,af,by rw[hi.fr 0 h1 h.M];exact h.r0.v,es,by rw[hi.fr m h2 h.Mm];exact h3,h4⟩,⟨af,.inl h.A⟩,⟨af,.inl h.Am⟩⟩
theorem WO.ajh {d:TypeDesc}(hd:Zu Γ m)(h1:gX E t=some d)(h2:xl d=false)(k:∀n,K (.map (some m)) L n n (λi=>i=0) Z):WO E X Γ l (.load t (.global 0)) L K:=λtm s hl hi=>by
 obtain⟨hr,hm,_⟩:=hd.row hi;refine fy.pure (v:=.map (some m)) (s':=s.aU 0) (λcall=>?_) ⟨L,(λi=>i=0),Z,hi.aU hm,cH hm.1 rfl,by rw[bQ];exact k _⟩;show lM E s t 0 0=_;unfold lM St.IH St.look;rw[hr.v];simp only[bu];show ob (gX E t) _=_;rw[h1];show bo (xl d) _ _=_;rw[h2];rfl
theorem WO.ab0 {kt e:TypeId}{kd:TypeDesc}{z:Value}(hd:Zu Γ m)(h1:gX E t=some (.map kt e))(h2:gX E kt=some kd)(h3:xm E kt kd (sv [109,97,107,101])=true)(h4:zero E e=some z)(hx:Ev l x (.map (some m)))(hy:Ev l y (sv [109,97,107,101]))(k:∀n,K (iv 1) L n n (λi=>i=m) Z):WO E X Γ l (.lookup t x y false) L K:=λtm s hl hi=>by
 obtain⟨hr,_,hm⟩:=hd.row hi;obtain⟨es,h5,h6⟩:=hr.t;refine fy.pure (v:=iv 1) (s':=s.aU m) (λcall=>?_) ⟨L,(λi=>i=m),Z,hi.aU hm,cH hm.1 rfl,by rw[bQ];exact k _⟩;show s7 E s t (aO tm x) (aO tm y) false=_;rw[hx.eval hl,hy.eval hl];unfold s7;rw[h1,bu];show ob (gX E kt) _=_;rw[h2,bu,h3,ep,h4,bu];unfold St.look;rw[h5,bu];show ob (some es) _=_;rw[bu,h6,bu];rfl
theorem WO.Zv (hx:jY l xs vs)(hd:Zu Γ m)(h:∀s,Ns s m->l7 E X g vs s [0,m] r)(k:∀n n',iY L n->n<=n'->K r L n n' (mV [0,m] [] n n') (mW [] n n')):WC E X Γ l g xs ts L K:=
 WO.nu hx (λs hi=>⟨λb hb=>by
   rcases bH.1 hb with rfl|hb
   .exact(hd.row hi).2.1
   .rw[fJ] at hb;subst hb;exact(hd.row hi).2.2,h s (hd.row hi).1⟩) k
end
variable {a:aS}{n c e sz:Nat}
theorem Nt:∀p:List aC,OT (ai p)=some p
 |[]=>rfl
 |x::p=>by
  show(OT (ai p)).map (x::·)=_;rw[Nt p];rfl
theorem A5:∀z:aC,kW [47] (cut 47 z)=z
 |[]=>rfl
 |x::z=>by
  have ih:=A5 z;rw[gI];cases h:cut 47 z with
  |nil=>exact absurd h (zP z)
  |cons w r=>
   rw[h] at ih;by_cases hx:x=47
   .rw[if_pos hx,hx];show []++([47]++kW [47] (w::r))=_;rw[ih];rfl
   .rw[if_neg hx];cases r with
    |nil=>show x::w=_;rw[show w=z from ih]
    |cons y r=>
     show(x::w)++_=_;rw[yw];exact eC (x::·) ih
theorem Zw {s:St}{A:List Nat}:Inv ⟨s,([]:dy).flatMap It.cr,A⟩ s []:=
 ⟨λ_ _ _=>rfl,cC _,λx hx=>(by cases hx),λx hx=>(by cases hx),wS,λb hb=>.inl hb,λb hb=>.inl hb,λb hb=>.inl hb,λb hb=>.inl hb⟩
theorem w6.fr {s:St}{L:dy}(h:w6 Γ.s0 a n c e sz)(hi:Inv Γ s L)(hM:∀b∈aj a,b∉Γ.M):w6 s a n c e sz:=by
 rcases h with h|⟨b,o,cs,w,rfl,h1,h2,h3⟩
 .exact .inl h
 .exact .inr ⟨b,o,cs,w,rfl,xi h1 hi.le,(hi.fr b h1 (hM b (by simp[aj]))).trans h2,h3⟩
theorem WO.XQ {E:iq}{X:fY}{l:Kn}{L:dy}{K:KO}{g:FuncId}{xs:List Operand}{ts:Array TypeId}{vs:aY}{cs:aY}{r:Value}(hx:jY l xs vs)(h:∀s,bM s a n sz cs->w6 s a n c e sz->l7 E X g vs s (aj a) r)(hd:Rd Γ a n sz cs)(hv:w6 Γ.s0 a n c e sz)(k:∀m m',iY L m->m<=m'->K r L m m' (mV (aj a) [] m m') (mW [] m m')):WC E X Γ l g xs ts L K:=
 WO.nu hx (λs hi=>by
   have h1:=(kr.rd (L:=L) hd).row hi;exact⟨h1.2,h s h1.1 (w6.fr hv hi hd.M)⟩) k
theorem ab1 (s:St)(a:aS)(c:Nat)(p:List aC)(h1:1<=p.length)(h2:p.length<=1000)(hl:(kW [47] p).length<=1000000)(hr:bM s a p.length 1 (ai p))(hv:w6 s a p.length c 9 1):bL 231 [.slice a p.length c,sv [47]] s (aj a) (sv (kW [47] p)):=λi1 i2 i3=>by
 have hI:=Zw (s:=s) (A:=aj a);obtain⟨Vn,⟨h,_⟩|⟨b,o,cs,e,w,rfl,hb,hg,ht⟩⟩:=hr
 .omega
 rw[uz] at ht;have cX:o+p.length<=cs.length:=by
  have h4:=eC List.length ht;rw[cO,eP,Vn] at h4;omega
 have u3:((Nat.ble (Nat.succ c) dS&&Nat.ble p.length c)||(Nat.ble dS c&&Nat.beq o (c-dS)&&Nat.beq e 9))=true:=by
  rcases hv with⟨h,_⟩|⟨b',o',cs',w',h3,h4,h5,h6⟩
  .cases h
  .cases h3
   rw[hg] at h5;(cases h5);rcases h6 with⟨h6,h7⟩|⟨_,h6,h7,_⟩
   .rw[gb (show Nat.succ c<=dS from h7),gb h6];rfl
   .rw[gb h6,h7,uz,ja,ja,mh];exact .inr rfl
 refine nT.Wy (fn:=f231) cj (s':=s.aU b) (v:=sv (kW [47] p)) (λk=>?_) ⟨[],hI.aU ⟨hb,.inl (by simp[aj])⟩,rfl,rfl⟩;show(s.row b λcs e _ s=>dN (Nat.ble (o+p.length) cs.length&&((Nat.ble (Nat.succ c) dS&&Nat.ble p.length c)||(Nat.ble dS c&&Nat.beq o (c-dS)&&Nat.beq e 9))&&Nat.ble 1 p.length&&Nat.ble p.length 1000)<| ob (OT ((cs.drop o).take p.length)) λl=>dN (Nat.ble (kW [47] l).length 1000000)<| aM (.string ⟨⟨kW [47] l⟩⟩) s)=_;unfold St.row St.look;rw[hg];simp only[bu];rw[u3,gb cX,gb h1,gb h2,ht,Nt];show dN (Nat.ble (kW [47] p).length 1000000) _=_;rw[gb hl];rfl
theorem Nu (s:St)(a:aS)(c:Nat)(p:List aC)(h1:1<=p.length)(h2:p.length<=1000)(hl:(kW [47] p).length<=1000000)(hr:bM s a p.length 1 (ai p))(hv:w6 s a p.length c 9 1):bL 184 [.slice a p.length c] s (aj a) (sv (47::kW [47] p)):=by
 have hd:=Rd.of hr (A:=aj a) λb hb=>hb
 have hjn:=λs=>ab1 s a c p h1 h2 hl
 refine aX f184 ?_;(repeat' (first|refine' aZ|((with_reducible apply WO.XQ);exact aD;(intro s hr hv;exact hjn s hr hv);(exact hd);(exact hv);intros)|refine' av|fail));all_goals refine' ax
 all_goals rfl
theorem UH (s:St)(a:aS)(c:Nat)(p:List aC)(h1:1<=p.length)(h2:p.length<=1000)(hl:(kW [47] p).length<=1000000)(hn:∀e∈p,e.length<=100000/\∀c∈e,c.toNat<128)(hr:bM s a p.length 1 (ai p))(hv:w6 s a p.length c 9 1)(ok:Bool)(gd:ok=(decide (p.length<=4)&&p.all aV)):bL 124 [.slice a p.length c] s (aj a) (.tuple ⟨[sv (if ok then 47::kW [47] p else []),.bool ok]⟩):=by
 have hd:=Rd.of hr (A:=aj a) λb hb=>hb
 have Cb:=λs=>Nu s a c p h1 h2 hl
 have TO:=λs=>Kb s a c p af hn
 clear hn;by_cases h4:p.length<=4
 .rw[du h4,uN] at gd;rw[<-gd] at TO;clear gd;cases ok with
  |true=>
   refine' zaV
  |false=>
   refine' zaV
 .rw[ec h4,Bl] at gd;subst gd;refine aX f124 ?_;repeat' (first|refine' aZ|refine' ae5|refine' ae6|refine' av|fail)
  all_goals try refine cI
  all_goals refine' ax
  all_goals rfl
variable {z:aC}
theorem Ke (s:St)(z:aC)(hz:z.length<=100000):bL 188 [sv z,sv [47]] s [] (.bool (decide (z.take 1=[47]))):=by
 refine aX f188 ?_;refine' cM;all_goals try refine cI
 all_goals refine' ax
 all_goals first|rfl|(cases z with
  |nil=>rfl
  |cons x z=>exfalso;simp only[cU,kC] at uw;omega)
theorem Nv (s:St)(z:aC)(hz:z.length<=100000):bL 136 [sv z,sv [47]] s [] (.tuple ⟨[sv (if z.take 1=[47] then z.drop 1 else z),.bool (decide (z.take 1=[47]))]⟩):=by
 have hhp:=λs=>Ke s z hz
 by_cases h:z.take 1=[47]
 .rw[if_pos h,du h];rw[du h] at hhp;have h1:1<=z.length:=by
   have:=eC List.length h;rw[cO] at this;simp at this;omega
  refine aX f136 ?_;(repeat' (first|refine' aZ|((with_reducible apply WO.aW);exact aD;(exact hhp);intros)|refine' av|fail));all_goals try refine cI
  all_goals refine' ax
  all_goals rfl
 .rw[if_neg h,ec h];rw[ec h] at hhp;refine aX f136 ?_;(repeat' (first|refine' aZ|((with_reducible apply WO.aW);exact aD;(exact hhp);intros)|refine' av|fail))
  all_goals try refine cI
  all_goals refine' ax
  all_goals rfl
theorem Kf (s:St)(z:aC)(hz:z.length<=100000):bL 90 [sv z,sv [47]] s [] (.tuple ⟨[sv (if z.take 1=[47] then z.drop 1 else z),.bool (decide (z.take 1=[47]))]⟩):=by
 have hlc:=λs=>Nv s z hz
 generalize(if z.take 1=[47] then z.drop 1 else z)=y at *
 generalize decide (z.take 1=[47])=b at *
 refine aX f90 ?_;(repeat' (first|refine' aZ|((with_reducible apply WO.aW);exact aD;(exact hlc);intros)|refine' av|fail));all_goals try refine cI
 all_goals refine' ax
 all_goals rfl
theorem WO.ae7 {Γ:qN}{K:KO}{g:FuncId}{xs:List Operand}{ts:Array TypeId}{vs:aY}{a:aS}{n c Q0 e':Nat}{cs:aY}{r:Value}(hx:jY l xs vs)(hm:It.aQ (.slice a n c) e' Q0 cs∈L)(h:∀s,bM s a n Q0 cs->w6 s a n c e' Q0->l7 E X g vs s (aj a) r)(k:∀m m',iY L m->m<=m'->K r L m m' (mV (aj a) [] m m') (mW [] m m')):WC E X Γ l g xs ts L K:=
 WO.nu hx (λs hi=>by
   have h1:=(kr.aQ (Γ:=Γ) hm).row hi;exact⟨h1.2,h s h1.1 (mu.slv (hi.it _ hm) λb hb=>(h1.2 b hb).1)⟩) k
theorem W.CM {Γ:qN}{c:Code}{Q:Ex->Kn->dy->Prop}{e:TypeId}(h:W E X Γ c l (.aQ (eM) e 1 (ai ([]:List aC))::L) Q):W E X Γ c l L Q:=λtm s h1 h2=>h tm s h1 ⟨h2.fr,h2.le,λx hx=>by
  rcases bH.1 hx with rfl|hx
  .exact .inl ⟨rfl,rfl⟩
  .exact h2.it x hx,λx hx b hb=>by
  rcases bH.1 hx with rfl|hx
  .cases hb
  .exact h2.lt x hx b hb,h2.nd,h2.cV,h2.wr,h2.top,h2.y1⟩
theorem Iq (h:z≠[47]):aT z=(decide (z.take 1=[47])&&(decide ((cut 47 (z.drop 1)).length<=4)&&(cut 47 (z.drop 1)).all aV)):=by
 unfold aT aI;rw[if_neg h,if_neg h];cases z with
 |nil=>rfl
 |cons x r=>
  rw[gI];show(if(x::r=[]||decide (x≠47))=true then false else _)=(decide ([x]=[47])&&(decide ((cut 47 r).length<=4)&&(cut 47 r).all aV));by_cases hx:x=47
  .subst hx;rw[if_neg ay,if_pos rfl];show((cut 47 r).all aV&&decide ((cut 47 r).length<=4))=_;rw[du rfl,uN,Bool.and_comm]
  .rw[if_pos (by simp[hx]),ec (λe=>hx (List.cons.inj e).1),Bl]
theorem Ir:∀p:List aC,p≠[]->(∀e∈p,e.length<=4)->(kW [47] p).length+1<=5*p.length
 |[],h,_=>absurd rfl h
 |[x],_,h=>by
  have:=h x ga;show x.length+1<=5*1;omega
 |x::y::l,_,h=>by
  have h1:=h x ga;have h2:=Ir (y::l) ay λe he=>h e (iV _ he)
  show(x++([47]++kW [47] (y::l))).length+1<=_;rw[bn,bn,cU,cU (a:=x)];simp only[kC] at *
  omega
theorem Qd (h:aT z=true):z.length<=20:=by
 by_cases h0:z=[47]
 .rw[h0];decide
 .rw[Iq h0,bI,bI,bR,bR,fT] at h;obtain⟨h1,h2,h3⟩:=h;have h4:=Ir _ (zP (z.drop 1)) λe he=>by
   have:=h3 e he;unfold aV at this;simp at this;omega
  rw[A5,eP] at h4;omega
theorem Nw {P:UInt8->Prop}:∀z:aC,(∀c∈z,P c)->∀e∈cut 47 z,e.length<=z.length/\∀c∈e,P c
 |[],_,e,he=>by
  have:e=[]:=by simpa[cut] using he
  subst this;exact⟨cC _,λc hc=>by cases hc⟩
 |x::z,h,e,he=>by
  have ih:=Nw z λc hc=>h c (iV _ hc)
  rw[gI] at he;split at he
  .rcases bH.1 he with rfl|he
   .exact⟨iK _,λc hc=>by cases hc⟩
   .exact⟨Nat.le_succ_of_le (ih e he).1,(ih e he).2⟩
  .split at he
   .rename_i hc;exact absurd hc (zP z)
   .rename_i w r hc;rcases bH.1 he with rfl|he
    .have:=ih w (by rw[hc];exact ga);exact⟨Nat.succ_le_succ this.1,λc hc=>by
      rcases bH.1 hc with rfl|hc
      .exact h _ ga
      .exact this.2 c hc⟩
    .have:=ih e (by rw[hc];exact iV _ he);exact⟨Nat.le_succ_of_le this.1,this.2⟩
theorem rR (s:St)(z:aC)(hz:z.length<=100000)(ha:∀c∈z,c.toNat<128):jF bf bw 76 [sv z] s [] 9 (cv z) (aT z):=by
 by_cases h0:z=[47]
 .subst h0;refine aX f76 ?_;refine W.CM (e:=9) ?_;refine' Yk
  all_goals try refine cI
  all_goals refine' zar
 have e0:=Iq h0;have Oa:=λs=>Kf s z hz
 by_cases ht:z.take 1=[47]
 .rw[if_pos ht,du ht] at Oa;rw[du ht,uN] at e0;by_cases hl:z.length<=20
  .have hsp:=λs=>Zt s (z.drop 1) (by rw[eP];omega)
   have hj:=A5 (z.drop 1);have gh:=zP (z.drop 1);have uC:=Nw (z.drop 1) λc hc=>ha c (List.mem_of_mem_drop hc)
   have hcn:=zQ (z.drop 1);have ame:mz (z.drop 1)<=20:=gu (Bm _ _) (by rw[eP];omega);have FE:aI z=cut 47 (z.drop 1):=by
    unfold aI;rw[if_neg h0];cases z with
    |nil=>simp at ht
    |cons x r=>
     (have hx:x=47:=by simpa using ht);rw[gI,if_pos hx];rfl
   generalize cut 47 (z.drop 1)=p at *
   have hz1:47::kW [47] p=z:=by
    rw[hj];cases z with
    |nil=>simp at ht
    |cons x r=>
     (have hx:x=47:=by simpa using ht);rw[hx];rfl
   have VU:1<=p.length:=by cases p with
    |nil=>exact absurd rfl gh
    |cons x p=>simp
   have FD:∀s a c,bM s a p.length 1 (ai p)->w6 s a p.length c 9 1->bL 124 [.slice a p.length c] s (aj a) (.tuple ⟨[sv (if aT z then z else []),.bool (aT z)]⟩):=λs a c hr hv=>by
    have:=UH s a c p VU af (by rw[hj,eP];omega) (λe he=>⟨by have:=(uC e he).1;rw[eP] at this;omega,(uC e he).2⟩) hr hv (aT z) e0
    rwa [hz1] at this
   clear hz1 hj uC e0 gh hcn ame;cases gd:aT z with
   |true=>
    (have Ky:cv z=p:=by unfold cv;rw[if_pos gd,FE]);rw[gd] at FD;rw[Ky];clear FE Ky;refine aX f76 ?_;refine' Yk;(all_goals try refine cI);(all_goals refine' fa);all_goals rfl
   |false=>
    (have Ky:cv z=[]:=by unfold cv;rw[gd];rfl);rw[gd] at FD;rw[Ky];clear FE Ky;refine aX f76 ?_;refine W.CM (e:=9) ?_;refine' Yk;(all_goals try refine cI);all_goals refine' zar
  .have gd:aT z=false:=by
    cases h:aT z with
    |false=>rfl
    |true=>exact absurd (Qd h) hl
   (have Ky:cv z=[]:=by unfold cv;rw[gd];rfl);rw[gd,Ky];refine aX f76 ?_;refine W.CM (e:=9) ?_;refine' Yk;(all_goals try refine cI);all_goals refine' zar
 .rw[if_neg ht,ec ht] at Oa;rw[ec ht,Bl] at e0;have Ky:cv z=[]:=by unfold cv;rw[e0];rfl
  rw[e0,Ky];refine aX f76 ?_;refine W.CM (e:=9) ?_;refine' Yk;all_goals try refine cI
  all_goals refine' zar
theorem Qe (s:St)(z:aC)(hz:z.length<=100000)(ha:∀c∈z,c.toNat<128):bL 47 [sv z] s [] (.bool (aT z)):=by
 have Ky:=λs=>rR s z hz ha
 generalize cv z=p at *
 generalize aT z=b at *
 refine aX f47 ?_;(repeat' (first|refine' aZ|((with_reducible apply WO.tM);exact aD;(exact Ky);intro _ _ alu alv _ _)|refine' av|fail));all_goals try refine cI
 all_goals refine' ax
 all_goals rfl
theorem UI (s:St)(a:aS)(c:Nat)(a2:aS)(c2:Nat)(p q:List aC)(hp:p.length<=100000)(hq:q.length<=100000)(hr:bM s a p.length 1 (ai p))(mG:bM s a2 q.length 1 (ai q)):bL 126 [.slice a p.length c,.slice a2 q.length c2] s (aj a++aj a2) (.bool (decide (p=q))):=by
 refine' zaA
 .refine aX f126 ?_;refine' cM
  all_goals try refine cI
  refine' zah
  .rintro m l L ⟨i,lQ,hL,rfl,h1,h2⟩;refine W.le ?_ lQ hL;clear lQ hL;by_cases hi:i<p.length
   .have tp:i<q.length:=by omega
    by_cases hb:p.getD i aq.ah=q.getD i aq.ah
    ·(repeat' (first|refine' aZ|refine' ae8|refine' TP|refine' av|fail))
     (all_goals try refine nU);all_goals refine' zav
    ·(repeat' (first|refine' aZ|refine' ae8|refine' TP|refine' av|fail))
     (all_goals try refine nU);refine' zaM
   ·(refine' cM)
    (all_goals try refine cI);all_goals exact⟨bp,au,λj hj=>h2 j af⟩
  .rintro l L ⟨lQ,hL,h2⟩;refine ak ?_;refine W.le ?_ lQ hL;clear lQ hL;have e:decide (p=q)=true:=du (List.ext_getElem hl λj h3 h4=>by
    have:=h2 j h3
    rwa [a7,a7,bc h3,bc h4] at this)
   rw[e];refine' cM;(all_goals refine' ax);all_goals rfl
 .have e:decide (p=q)=false:=ec λh=>hl (eC List.length h)
  rw[e];refine aX f126 ?_;refine' cM;all_goals try refine cI
  all_goals refine' ax
  all_goals rfl
theorem R8:∀w:aC,(∀c∈w,c≠47)->cut 47 w=[w]
 |[],_=>rfl
 |x::w,h=>by rw[gI,if_neg (h x ga),R8 w λc hc=>h c (iV _ hc)]
theorem Nx:∀(w z:aC),(∀c∈w,c≠47)->cut 47 (w++47::z)=w::cut 47 z
 |[],z,_=>by rw[pF,gI,if_pos rfl]
 |x::w,z,h=>by rw[yw,gI,if_neg (h x ga),Nx w z λc hc=>h c (iV _ hc)]
theorem E7:∀l:List aC,(∀e∈l,∀c∈e,c≠47)->cut 47 (l.map λs=>47::s).flatten=[]::l
 |[],_=>rfl
 |x::l,h=>by
  have ih:=E7 l λe he=>h e (iV _ he)
  rw[xg,List.flatten_cons,yw,gI,if_pos rfl];cases l with
  |nil=>rw[CS,List.flatten_nil,gJ,R8 _ (h x ga)]
  |cons y l=>
   rw[xg,List.flatten_cons,yw] at ih⊢;rw[gI,if_pos rfl] at ih;rw[Nx _ _ (h x ga),(List.cons.inj ih).2]
theorem Qf {l m:List aC}(hl:∀e∈l,aV e=true)(hm:∀e∈m,aV e=true)(h:pathOf l=pathOf m):l=m:=by
 have HP:∀e:aC,aV e=true->(∀c∈e,c≠47)/\e≠[]:=λe he=>by
  unfold aV at he;rw[bI,bI,fT] at he;refine⟨λc hc hx=>?_,λhx=>?_⟩
  .have:=he.1.1 c hc;rw[hx] at this;simp at this
  .rw[hx] at he;simp at he
 have cl:=E7 l λe he=>(HP e (hl e he)).1
 have cm:=E7 m λe he=>(HP e (hm e he)).1
 have h2:=eC (cut 47) h;unfold pathOf at h2;cases l with
 |nil=>
  cases m with
  |nil=>rfl
  |cons x m=>
   rw[if_pos rfl,if_neg ay,cm] at h2;exact absurd (List.cons.inj (List.cons.inj h2).2).1.symm (HP x (hm x ga)).2
 |cons y l=>
  cases m with
  |nil=>
   rw[if_pos rfl,if_neg ay,cl] at h2;exact absurd (List.cons.inj (List.cons.inj h2).2).1 (HP y (hl y ga)).2
  |cons x m=>
   rw[if_neg ay,if_neg ay,cl,cm] at h2;exact(List.cons.inj h2).2
theorem zf {z:aC}(h:aT z=true):∀e∈aI z,aV e=true:=by
 unfold aT at h;split at h
 .rename_i h0;subst h0;intro e he;cases he
 .split at h
  .cases h
  .rw[bI,fT] at h;exact h.1
theorem Zx (z t:aC):under z t=(aT z&&(aT t&&(decide ((cv t).length<=(cv z).length)&&decide ((cv z).take (cv t).length=cv t)))):=by
 unfold under cv;cases hz:aT z with
 |false=>rfl
 |true=>
  cases ht:aT t with
  |false=>rfl
  |true=>
   rw[if_pos rfl,if_pos rfl];show(decide _&&decide _)=(decide _&&decide _);refine eC _ ?_;rw[CW];exact⟨λh=>Qf (λe he=>zf hz e (B2 he)) (zf ht) h,λh=>by rw[h]⟩
theorem WO.ab2 {E:iq}{X:fY}{Γ:qN}{l:Kn}{L:dy}{K:KO}{g:FuncId}{xs:List Operand}{ts:Array TypeId}{vs:aY}{r:Value}{a a2:aS}{n sz n2 sz2:Nat}{cs cs2:aY}(hx:jY l xs vs)(h:∀s,bM s a n sz cs->bM s a2 n2 sz2 cs2->l7 E X g vs s (aj a++aj a2) r)(h1:kr Γ L a n sz cs)(h2:kr Γ L a2 n2 sz2 cs2)(k:∀m m',iY L m->m<=m'->K r L m m' (mV (aj a++aj a2) [] m m') (mW [] m m')):WC E X Γ l g xs ts L K:=
 WO.nu hx (λs hi=>⟨λi hb=>by
   rcases eW.1 hb with hb|hb
   .exact(h1.row hi).2 i hb
   .exact(h2.row hi).2 i hb,h s (h1.row hi).1 (h2.row hi).1⟩) k
theorem Gk (s:St)(z t:aC)(hz:z.length<=100000)(ha:∀c∈z,c.toNat<128)(ht:t.length<=100000)(hb:∀c∈t,c.toNat<128):bL 81 [sv z,sv t] s [] (.bool (under z t)):=by
 have Ky:=λs=>rR s z hz ha
 have hqn:=λs=>rR s t ht hb
 have cX:∀z,(cv z).length<=4:=λz=>by
  unfold cv;split
  .rename_i h;unfold aT at h;split at h
   .rename_i h0;subst h0;exact iK _
   .split at h
    .cases h
    .rw[bI,bR] at h;exact h.2
  .exact iK _
 have hp4:=cX z;have hq4:=cX t;rw[Zx];clear cX ha hb;generalize cv z=p at *
 generalize cv t=q at *
 generalize aT z=b1 at *
 generalize aT t=b2 at *
 cases b1 with
 |false=>
  refine' za3
 |true=>
  cases b2 with
  |false=>
   refine' za3
  |true=>
   by_cases hl:q.length<=p.length
   .rw[du hl];have heq:∀s a c a2 c2,bM s a (p.take (q.length:Int).toNat).length 1 (ai (p.take (q.length:Int).toNat))->bM s a2 q.length 1 (ai q)->bL 126 [.slice a (p.take (q.length:Int).toNat).length c,.slice a2 q.length c2] s (aj a++aj a2) (.bool (decide ((p.take (q.length:Int).toNat)=q))):=λs a c a2 c2 hr mG=>UI s a c a2 c2 _ q (by rw[cO];omega) af hr mG
    refine aX f81 ?_;(repeat' (first|refine' aZ|refine' abj|((with_reducible apply WO.ab2);exact aD;(intro s hr mG;exact heq s _ _ _ _ hr mG);exact cD;exact cD;intros)|refine' av|fail));(all_goals try refine cI);(all_goals refine' ax);all_goals rfl
   .rw[ec hl];refine aX f81 ?_;repeat' (first|refine' aZ|refine' abj|refine' av|fail)
    (all_goals try refine cI);(all_goals refine' ax);all_goals rfl
theorem sQ:∀z∈Ev.dL,z.length<=100000/\∀c∈z,c.toNat<128:=λz h=>by
 have e:Ev.dL.all (λz=>decide (z.length<=100000)&&z.all λc=>decide (c.toNat<128))=true:=by decide
 have:=fT.1 e z h;rw[bI,bR,fT] at this;exact⟨this.1,λc hc=>Bf (this.2 c hc)⟩
theorem Qg (s:St)(z:aC)(hz:z∈Ev.dL):bL 47 [sv z] s [] (.bool (aT z)):=Qe s z (sQ z hz).1 (sQ z hz).2
theorem Ek (s:St)(z:aC)(hz:z∈Ev.dL):bL 80 [sv z] s [] (sv (Ev.eE z)):=R5 (fn:=f80) cj λk=>by
 show dN (decide (z∈Ev.dL)) (aM (sv (Ev.eE z)) s)=_;rw[du hz];rfl
theorem F6 (s:St)(z t:aC)(hz:z∈Ev.dL/\t∈Ev.dL/\aT z=true/\aT t=true):bL 81 [sv z,sv t] s [] (.bool (under z t)):=Gk s z t (sQ z hz.1).1 (sQ z hz.1).2 (sQ t hz.2.1).1 (sQ t hz.2.1).2
theorem Ny (s:St)(o:Op)(hp:o.ag∈Ev.dL)(ht:o.to∈Ev.dL):bL 18 [ov o] s [] (.bool (kV o)):=by
 obtain⟨kd,pa,to,at_,tx⟩:=o;dsimp only at hp ht;have e0:aT []=false:=rfl;refine aX f18 ?_;(repeat' (first|refine' aZ|refine' TN|((with_reducible apply WO.aW);exact aD;exact λs=>Qg s _ aP;intros)|refine' av|fail));all_goals try refine cI
 all_goals refine' ax
 all_goals(simp only[gK];refine eC Value.bool ?_;unfold kV;unfold fM at *)
 all_goals first
  |(simp_all;done)
  |(simp_all;omega)
  |(simp_all;split<;>first|rfl|omega|(simp_all;done)|(simp_all;omega);done)
  |(by_cases e1:to=[]<;>by_cases e2:kd=7<;>first|(simp_all;done)|(simp_all;omega))
  |(by_cases e1:to=[]<;>by_cases e2:kd=7<;>by_cases e3:24<tx.length<;>first|(simp_all;done)|(simp_all;omega)|(rw[show decide ((tx.length:Int)<=24)=false by rw[mQ];omega];simp_all;done)|(rw[show decide ((tx.length:Int)<=24)=true by rw[bR];omega];simp_all;done)|(rw[show decide ((tx.length:Int)<=24)=true by rw[bR];omega];simp_all;omega))
end Go.Pl
