/- Lemmas of the proof. No conditions. -/
import Derived.Test.YtoiielhpadnflaaGreatDoorAe10
set_option maxRecDepth 100000
set_option maxHeartbeats 4000000
set_option linter.unusedVariables false
set_option linter.unusedSimpArgs false
open Go.Proofs.Tryz
namespace Go.Pl
open Go Go.Ev Go.Lg Go.Proofs
variable {t:Nat}
theorem amc {s a c a' c' f i A}(h:UE s a a' f i A)(b1 b5 b6 b7)(ht:pc f.ae (f.ad.getD i aq.ah).id=some t)(h0:0<i)(c1:bO (f.ad.getD ((i:Int)-1).toNat aq.ah).ag (f.ad.getD i aq.ah).ag=true)(c2:(dr A.fo (aw (f.ad.getD i aq.ah).ag).1).getD false=true)(c3:aV (aw (f.ad.getD i aq.ah).ag).2=true)(c7:¬12<Zn f i A)(c4:9<Aa f i A):J5 s a c a' c' f b1 b5 b6 b7 i A:=by
 obtain⟨hf,hr,hs,hi,g2⟩:=h;intro Q hQ;unfold P8 J3 J4;unfold Zn at c7;unfold Aa at c4;refine W.uG rfl rfl ?_;have pL:=iw.n hr;have sj:=iw.t hr;have qM:=hf.tl;have pJ:=hf.nl;have hx:=(hf.nm _ (aL hi aq.ah)).1;have FL:=hx.1;have lS:=fX (f.ad.getD i aq.ah).ag;have Pe:∀ch∈(aw (f.ad.getD i aq.ah).ag).2,ch.toNat<128:=λch dP=>hx.2.1 ch (fW _ ch dP)
 refine' zaa;refine' zad;all_goals exact hQ _ _ rfl
theorem amd {s a c a' c' f i A}(h:UE s a a' f i A)(b1 b5 b6 b7)(ht:pc f.ae (f.ad.getD i aq.ah).id=some t)(h0:0<i)(c1:bO (f.ad.getD ((i:Int)-1).toNat aq.ah).ag (f.ad.getD i aq.ah).ag=true)(c2:(dr A.fo (aw (f.ad.getD i aq.ah).ag).1).getD false=true)(c3:aV (aw (f.ad.getD i aq.ah).ag).2=true)(c7:¬12<Zn f i A)(c4:¬9<Aa f i A)(c5:(f.ae.getD t aq.ah).aN=true)(c6:1<Aa f i A):J5 s a c a' c' f b1 b5 b6 b7 i A:=by
 obtain⟨hf,hr,hs,hi,g2⟩:=h;intro Q hQ;unfold P8 J3 J4;unfold Zn at c7;unfold Aa at c4;unfold Aa at c6;refine W.uG rfl rfl ?_;have pL:=iw.n hr;have sj:=iw.t hr;have qM:=hf.tl;have pJ:=hf.nl;have hx:=(hf.nm _ (aL hi aq.ah)).1;have FL:=hx.1;have lS:=fX (f.ad.getD i aq.ah).ag;have Pe:∀ch∈(aw (f.ad.getD i aq.ah).ag).2,ch.toNat<128:=λch dP=>hx.2.1 ch (fW _ ch dP)
 refine' zaa;refine' zad;all_goals exact hQ _ _ rfl
theorem afS {s a c a' c' f i A}(h:UE s a a' f i A)(b1 b5 b6 b7)(ht:pc f.ae (f.ad.getD i aq.ah).id=some t)(h0:0<i)(c1:bO (f.ad.getD ((i:Int)-1).toNat aq.ah).ag (f.ad.getD i aq.ah).ag=true)(c2:(dr A.fo (aw (f.ad.getD i aq.ah).ag).1).getD false=true)(c3:aV (aw (f.ad.getD i aq.ah).ag).2=true)(c7:¬12<Zn f i A)(c4:¬9<Aa f i A)(c5:(f.ae.getD t aq.ah).aN=true)(c6:¬1<Aa f i A):RZ s a c a' c' f b1 b5 b6 b7 i A ⟨(er A.li (f.ad.getD i aq.ah).id ((dr A.li (f.ad.getD i aq.ah).id).getD 0+1)),(er A.nJ (aw (f.ad.getD i aq.ah).ag).1 ((dr A.nJ (aw (f.ad.getD i aq.ah).ag).1).getD 0+1)),(er A.fo (f.ad.getD i aq.ah).ag (f.ae.getD t aq.ah).aN)⟩:=by
 obtain⟨hf,hr,hs,hi,g2⟩:=h;intro Q hQ;unfold P8 J3 J4;unfold Zn at c7;unfold Aa at c4;unfold Aa at c6;dsimp only[J3,J4] at hQ;refine W.uG rfl rfl ?_;have pL:=iw.n hr;have sj:=iw.t hr;have qM:=hf.tl;have pJ:=hf.nl;have hx:=(hf.nm _ (aL hi aq.ah)).1;have FL:=hx.1;have lS:=fX (f.ad.getD i aq.ah).ag;have Pe:∀ch∈(aw (f.ad.getD i aq.ah).ag).2,ch.toNat<128:=λch dP=>hx.2.1 ch (fW _ ch dP)
 refine' zaa;refine' zad;all_goals exact hQ _ _ bp au
theorem afT {s a c a' c' f i A}(h:UE s a a' f i A)(b1 b5 b6 b7)(ht:pc f.ae (f.ad.getD i aq.ah).id=some t)(h0:0<i)(c1:bO (f.ad.getD ((i:Int)-1).toNat aq.ah).ag (f.ad.getD i aq.ah).ag=true)(c2:(dr A.fo (aw (f.ad.getD i aq.ah).ag).1).getD false=true)(c3:aV (aw (f.ad.getD i aq.ah).ag).2=true)(c7:¬12<Zn f i A)(c4:¬9<Aa f i A)(c5:(f.ae.getD t aq.ah).aN=false):RZ s a c a' c' f b1 b5 b6 b7 i A ⟨(er A.li (f.ad.getD i aq.ah).id ((dr A.li (f.ad.getD i aq.ah).id).getD 0+1)),(er A.nJ (aw (f.ad.getD i aq.ah).ag).1 ((dr A.nJ (aw (f.ad.getD i aq.ah).ag).1).getD 0+1)),(er A.fo (f.ad.getD i aq.ah).ag (f.ae.getD t aq.ah).aN)⟩:=by
 obtain⟨hf,hr,hs,hi,g2⟩:=h;intro Q hQ;unfold P8 J3 J4;unfold Zn at c7;unfold Aa at c4;dsimp only[J3,J4] at hQ;refine W.uG rfl rfl ?_;have pL:=iw.n hr;have sj:=iw.t hr;have qM:=hf.tl;have pJ:=hf.nl;have hx:=(hf.nm _ (aL hi aq.ah)).1;have FL:=hx.1;have lS:=fX (f.ad.getD i aq.ah).ag;have Pe:∀ch∈(aw (f.ad.getD i aq.ah).ag).2,ch.toNat<128:=λch dP=>hx.2.1 ch (fW _ ch dP)
 refine' zaa;refine' zad;all_goals exact hQ _ _ bp au
end Go.Pl
namespace Go.Pl
open Go.Lg
open Go Go.Ev Go.Lg Go.Proofs
theorem afU {q:gD}{i:Nat}(hl:(q.getD i fO).a8.length<=192):tB q i=true↔(0<=(q.getD i fO).id/\(q.getD i fO).id<=15)/\(0<i->(q.getD (i-1) fO).id<(q.getD i fO).id)/\((q.getD i fO).aN=true->(q.getD i fO).a8=[]):=by
 have h1:decide (192<(q.getD i fO).a8.length)=false:=by rw[mQ];omega
 unfold tB fM;rw[h1];generalize(q.getD i fO).id=x;generalize(q.getD (i-1) fO).id=y;generalize(q.getD i fO).aN=fo;generalize(q.getD i fO).a8=tx;have hd:(y<x)↔¬(x<=y):=by omega
 rw[hd];by_cases e1:x<=y<;>by_cases e2:0<i<;>by_cases e3:tx=[]<;>by_cases e4:0<=x<;>by_cases e5:x<=15<;>cases fo<;>simp_all
theorem yd (s:St)(a:aS)(c:Nat)(a':aS)(c':Nat)(f:Flat)(hf:RY f)(hr:eU s a a' f):bL 9 [vD a c a' c' f] s (qV a a') (.bool (Ul f)):=by
 have pL:=iw.n hr;have sj:=iw.t hr;have qM:=hf.tl;have pJ:=hf.nl;have rC:=afP f;by_cases h0:fM f.ae.length 1 16=true/\f.ad.length≠0/\f.ad.getD 0 cR=⟨[47],0⟩
 .obtain⟨h1,h2,h3⟩:=h0;have adO:(1:Int)<=(f.ae.length:Int)/\(f.ae.length:Int)<=16:=by unfold fM at h1;simp at h1;omega
  have h1':1<=f.ae.length:=by unfold fM at h1;simp at h1;omega
  have Te:(!(decide (f.ad.getD 0 cR=⟨[47],0⟩)))=false:=by rw[h3];decide
  rw[h1,h3,du h2,du rfl,uN,uN] at rC;have aje:∀i,i<f.ae.length->tB f.ae i≠true->Ul f=false:=λi hi hn=>by
   have:(List.range f.ae.length).all (tB f.ae)=false:=by
    rw[Gv];exact⟨i,kF.2 hi,hn⟩
   rw[rC,this];rfl
  clear h1;refine aX f9 ?_;repeat' (first|refine' aZ|refine' TN|refine' TP|refine' av|fail)
  all_goals first|(exfalso;simp[adO.1,adO.2] at uw;done)|(exfalso;omega;done)|contradiction|(exfalso;simp_all;done)|(exfalso;simp_all;omega)|skip
  refine W.bK (λm l L=>∃(i b1:Nat),Le [(1,bk b1),(33,.slice a' f.ae.length c'),(34,iv (f.ae.length:Int)),(35,iv (i:Int))] l/\cx [.box b1 (qb a c f.ad a' c' f.ae) 26 false] L/\m=f.ae.length-i/\i<=f.ae.length/\∀j,j<i->tB f.ae j=true)
   (λl L=>∃b1:Nat,Le [(1,bk b1)] l/\cx [.box b1 (qb a c f.ad a' c' f.ae) 26 false] L/\∀j,j<f.ae.length->tB f.ae j=true) _ ⟨0,_,bp,au,rfl,af,λj hj=>by omega⟩ ?_ ?_
  .rintro m l L ⟨i,b1,hl,hL,rfl,g1,g2⟩;refine W.le ?_ hl hL;clear hl hL;by_cases hi:i<f.ae.length
   .have sU:=hf.th _ (aL hi aq.ah);have hTi:tB f.ae i=true↔(0<=(f.ae.getD i aq.ah).id/\(f.ae.getD i aq.ah).id<=15)/\(0<i->(f.ae.getD ((i:Int)-1).toNat aq.ah).id<(f.ae.getD i aq.ah).id)/\((f.ae.getD i aq.ah).aN=true->(f.ae.getD i aq.ah).a8=[]):=by
     rw[show((i:Int)-1).toNat=i-1 by omega];exact afU (q:=f.ae) (i:=i) sU.2.2
    by_cases hT:tB f.ae i=true
    .obtain⟨c1,c2,c3⟩:=hTi.1 hT;have c2':¬(0<i)\/(f.ae.getD ((i:Int)-1).toNat aq.ah).id<(f.ae.getD i aq.ah).id:=by
      by_cases h:0<i
      .exact .inr (c2 h)
      .exact .inl h
     clear hTi;(repeat' (first|refine' aZ|refine' TN|refine' av|fail));(all_goals try refine Oc);all_goals(refine⟨_,af,i+1,b1,bp,au,rfl,af,λj hj=>?_⟩;rcases QC.1 hj with hj|rfl<;>first|exact g2 j hj|exact hT)
    .rw[aje i hi hT];have hT':=λh=>hT (hTi.2 h)
     clear hTi hT;repeat' (first|refine' aZ|refine' TN|refine' av|fail)
     all_goals first
      |(exfalso;omega;done)
      |contradiction
      |(refine⟨by(first|exact .inl rfl|exact .inr rfl),_,[],bY,cx.nil _,?_,rfl⟩;rfl)
      |(exfalso;refine hT' ⟨af,λh=>by omega,λh=>by first|assumption|(simp_all;done)⟩)
   .have fb:i=f.ae.length:=by omega
    subst fb;refine' cM;(all_goals try refine Oc);all_goals exact⟨b1,bp,au,g2⟩
  .rintro l L ⟨b1,hl,hL,g2⟩;(repeat(first|(with_reducible first|refine ak ?_|refine fe ?_|refine gS ?_)))
   refine W.le ?_ hl hL;clear hl hL;(have bU:(List.range f.ae.length).all (tB f.ae)=true:=fT.2 λj hj=>g2 j (kF.1 hj));rw[bU,uN] at rC;have hs:=wm g2;clear aje bU g2;by_cases h5:(f.ae.getD 0 fO).id=0/\(f.ae.getD 0 fO).aN=true
   .obtain⟨h5,h6⟩:=h5;rw[du h5,h6,uN,uN] at rC;(repeat' (first|refine' aZ|((with_reducible apply WO.makeMap);intro bm _)|refine' av|fail))
    all_goals try refine Oc
    refine W.bK (λm l L=>∃(i b1 b5 b6 b7:Nat)(A:Acc),Le [(1,bk b1),(5,.map (some b5)),(6,.map (some b6)),(7,.map (some b7)),(94,.slice a f.ad.length c),(95,iv (f.ad.length:Int)),(96,iv (i:Int))] l/\cx [.box b1 (qb a c f.ad a' c' f.ae) 26 false,.kK b5 (mII A.li),.kK b6 (mSI A.nJ),.kK b7 (mSB A.fo)] L/\m=f.ad.length-i/\i<=f.ad.length/\zH f.ad f.ae i A/\YK f.ad f.ae f.ad.length 0 ⟨[],[],[]⟩=YK f.ad f.ae (f.ad.length-i) i A)
     (λl L=>∃(b1 b5:Nat)(A:Acc),Le [(1,bk b1),(5,.map (some b5))] l/\cx [.box b1 (qb a c f.ad a' c' f.ae) 26 false,.kK b5 (mII A.li)] L/\YK f.ad f.ae f.ad.length 0 ⟨[],[],[]⟩=some A) _ ⟨0,_,_,_,_,⟨[],[],[]⟩,bp,au,rfl,af,YO _ _,rfl⟩ ?_ ?_
    .rintro m l L ⟨i,b1,b5,b6,b7,A,hl,hL,rfl,g1,g2,g3⟩;refine W.le ?_ hl hL;clear hl hL;by_cases hi:i<f.ad.length
     .rw[show f.ad.length-i=(f.ad.length-(i+1))+1 by omega,YK] at g3;have jz:=M4 g2;have R0:((i:Int)-1).toNat=i-1:=by omega
      have hpv:f.ad.getD (i-1) cR=(f.ad.getD ((i:Int)-1).toNat aq.ah):=by rw[R0]
      cases ht:pc f.ae (f.ad.getD i aq.ah).id with
      |none=>
       (have e:il f.ad f.ae i A=none:=by unfold il;rw[ht]);rw[e] at g3;rw[g3] at rC;rw[rC];refine ifA ⟨hf,hr,hs,hi,g2⟩ b1 b5 b6 b7 ht _ (λl L h2=>?_);(repeat(first|(with_reducible first|refine kg ?_|refine ke ?_|refine iP ?_)));exact⟨by(first|exact .inl rfl|exact .inr rfl),_,[],by(apply qO.tmp;(focus(exact h2));exact qO.nil),cx.nil _,rfl,rfl⟩
      |some t=>
       by_cases h0:0<i
       .cases c1:bO (f.ad.getD ((i:Int)-1).toNat aq.ah).ag (f.ad.getD i aq.ah).ag with
        |false=>
         (have e:il f.ad f.ae i A=none:=by unfold il;rw[ht];dsimp only;rw[hpv];exact if_pos ⟨h0,c1⟩);rw[e] at g3;rw[g3] at rC;rw[rC];refine al8 ⟨hf,hr,hs,hi,g2⟩ b1 b5 b6 b7 ht h0 c1 _ (λl L h2=>?_);(repeat(first|(with_reducible first|refine kg ?_|refine ke ?_|refine iP ?_)));exact⟨by(first|exact .inl rfl|exact .inr rfl),_,[],by(apply qO.tmp;(focus(exact h2));exact qO.nil),cx.nil _,rfl,rfl⟩
        |true=>
         cases c2:(dr A.fo (aw (f.ad.getD i aq.ah).ag).1).getD false with
         |false=>
          (have e:il f.ad f.ae i A=none:=by unfold il;rw[ht];dsimp only;rw[hpv,if_neg (λh=>by rw[c1] at h;cases h.2),if_pos h0];unfold iIn;rw[if_pos (.inl c2)]);rw[e] at g3;rw[g3] at rC;rw[rC];refine al9 ⟨hf,hr,hs,hi,g2⟩ b1 b5 b6 b7 ht h0 c1 c2 _ (λl L h2=>?_);(repeat(first|(with_reducible first|refine kg ?_|refine ke ?_|refine iP ?_)));exact⟨by(first|exact .inl rfl|exact .inr rfl),_,[],by(apply qO.tmp;(focus(exact h2));exact qO.nil),cx.nil _,rfl,rfl⟩
         |true=>
          cases c3:aV (aw (f.ad.getD i aq.ah).ag).2 with
          |false=>
           (have e:il f.ad f.ae i A=none:=by unfold il;rw[ht];dsimp only;rw[hpv,if_neg (λh=>by rw[c1] at h;cases h.2),if_pos h0];unfold iIn;rw[if_pos (.inr c3)]);rw[e] at g3;rw[g3] at rC;rw[rC];refine ama ⟨hf,hr,hs,hi,g2⟩ b1 b5 b6 b7 ht h0 c1 c2 c3 _ (λl L h2=>?_);(repeat(first|(with_reducible first|refine kg ?_|refine ke ?_|refine iP ?_)));exact⟨by(first|exact .inl rfl|exact .inr rfl),_,[],by(apply qO.tmp;(focus(exact h2));exact qO.nil),cx.nil _,rfl,rfl⟩
          |true=>
           (have c23:¬((dr A.fo (aw (f.ad.getD i aq.ah).ag).1).getD false=false\/aV (aw (f.ad.getD i aq.ah).ag).2=false):=by rw[c2,c3];decide);by_cases c7:12<Zn f i A
           .skip
            (have e:il f.ad f.ae i A=none:=by unfold il;rw[ht];dsimp only;rw[hpv,if_neg (λh=>by rw[c1] at h;cases h.2),if_pos h0];unfold iIn;rw[if_neg c23,if_pos c7]);rw[e] at g3;rw[g3] at rC;rw[rC];refine amb ⟨hf,hr,hs,hi,g2⟩ b1 b5 b6 b7 ht h0 c1 c2 c3 c7 _ (λl L h2=>?_);(repeat(first|(with_reducible first|refine kg ?_|refine ke ?_|refine iP ?_)));exact⟨by(first|exact .inl rfl|exact .inr rfl),_,[],by(apply qO.tmp;(focus(exact h2));exact qO.nil),cx.nil _,rfl,rfl⟩
           .by_cases c4:9<Aa f i A
            .skip
             (have e:il f.ad f.ae i A=none:=by unfold il;rw[ht];dsimp only;rw[hpv,if_neg (λh=>by rw[c1] at h;cases h.2),if_pos h0];unfold iIn;rw[if_neg c23,if_neg c7];dsimp only;unfold vA;exact if_pos (.inl c4));rw[e] at g3;rw[g3] at rC;rw[rC];refine amc ⟨hf,hr,hs,hi,g2⟩ b1 b5 b6 b7 ht h0 c1 c2 c3 c7 c4 _ (λl L h2=>?_);(repeat(first|(with_reducible first|refine kg ?_|refine ke ?_|refine iP ?_)));exact⟨by(first|exact .inl rfl|exact .inr rfl),_,[],by(apply qO.tmp;(focus(exact h2));exact qO.nil),cx.nil _,rfl,rfl⟩
            .cases c5:(f.ae.getD t aq.ah).aN with
             |true=>
              by_cases c6:1<Aa f i A
              .skip
               (have e:il f.ad f.ae i A=none:=by unfold il;rw[ht];dsimp only;rw[hpv,if_neg (λh=>by rw[c1] at h;cases h.2),if_pos h0];unfold iIn;rw[if_neg c23,if_neg c7];dsimp only;unfold vA;exact if_pos (.inr ⟨c5,c6⟩));rw[e] at g3;rw[g3] at rC;rw[rC];refine amd ⟨hf,hr,hs,hi,g2⟩ b1 b5 b6 b7 ht h0 c1 c2 c3 c7 c4 c5 c6 _ (λl L h2=>?_);(repeat(first|(with_reducible first|refine kg ?_|refine ke ?_|refine iP ?_)));exact⟨by(first|exact .inl rfl|exact .inr rfl),_,[],by(apply qO.tmp;(focus(exact h2));exact qO.nil),cx.nil _,rfl,rfl⟩
              .skip
               (have e:il f.ad f.ae i A=some ⟨(er A.li (f.ad.getD i aq.ah).id ((dr A.li (f.ad.getD i aq.ah).id).getD 0+1)),(er A.nJ (aw (f.ad.getD i aq.ah).ag).1 ((dr A.nJ (aw (f.ad.getD i aq.ah).ag).1).getD 0+1)),(er A.fo (f.ad.getD i aq.ah).ag (f.ae.getD t aq.ah).aN)⟩:=by unfold il;rw[ht];dsimp only;rw[hpv,if_neg (λh=>by rw[c1] at h;cases h.2),if_pos h0];unfold iIn;rw[if_neg c23,if_neg c7];dsimp only;unfold vA;rw[if_neg (by rintro(h|h)<;>first|exact c4 h|exact c6 h.2)]);refine' zan;rw[e] at g3;refine afS ⟨hf,hr,hs,hi,g2⟩ b1 b5 b6 b7 ht h0 c1 c2 c3 c7 c4 c5 c6 _ (λl L hl hL=>?_);(repeat(first|(with_reducible first|refine ak ?_|refine fe ?_|refine gS ?_)));refine' zaw
             |false=>
              (have e:il f.ad f.ae i A=some ⟨(er A.li (f.ad.getD i aq.ah).id ((dr A.li (f.ad.getD i aq.ah).id).getD 0+1)),(er A.nJ (aw (f.ad.getD i aq.ah).ag).1 ((dr A.nJ (aw (f.ad.getD i aq.ah).ag).1).getD 0+1)),(er A.fo (f.ad.getD i aq.ah).ag (f.ae.getD t aq.ah).aN)⟩:=by unfold il;rw[ht];dsimp only;rw[hpv,if_neg (λh=>by rw[c1] at h;cases h.2),if_pos h0];unfold iIn;rw[if_neg c23,if_neg c7];dsimp only;unfold vA;rw[if_neg (by rintro(h|h)<;>first|exact c4 h|(rw[show(f.ae.getD t fO).aN=false from c5] at h;cases h.1))]);refine' zan;rw[e] at g3;refine afT ⟨hf,hr,hs,hi,g2⟩ b1 b5 b6 b7 ht h0 c1 c2 c3 c7 c4 c5 _ (λl L hl hL=>?_);(repeat(first|(with_reducible first|refine ak ?_|refine fe ?_|refine gS ?_)));refine' zaw
       .by_cases c4:9<Aa f i A
        .skip
         (have e:il f.ad f.ae i A=none:=by unfold il;rw[ht];dsimp only;rw[if_neg (λh=>h0 h.1),if_neg h0];dsimp only;unfold vA;exact if_pos (.inl c4));rw[e] at g3;rw[g3] at rC;rw[rC];refine al6 ⟨hf,hr,hs,hi,g2⟩ b1 b5 b6 b7 ht h0 c4 _ (λl L h2=>?_);(repeat(first|(with_reducible first|refine kg ?_|refine ke ?_|refine iP ?_)));exact⟨by(first|exact .inl rfl|exact .inr rfl),_,[],by(apply qO.tmp;(focus(exact h2));exact qO.nil),cx.nil _,rfl,rfl⟩
        .cases c5:(f.ae.getD t aq.ah).aN with
         |true=>
          by_cases c6:1<Aa f i A
          .skip
           (have e:il f.ad f.ae i A=none:=by unfold il;rw[ht];dsimp only;rw[if_neg (λh=>h0 h.1),if_neg h0];dsimp only;unfold vA;exact if_pos (.inr ⟨c5,c6⟩));rw[e] at g3;rw[g3] at rC;rw[rC];refine al7 ⟨hf,hr,hs,hi,g2⟩ b1 b5 b6 b7 ht h0 c4 c5 c6 _ (λl L h2=>?_);(repeat(first|(with_reducible first|refine kg ?_|refine ke ?_|refine iP ?_)));exact⟨by(first|exact .inl rfl|exact .inr rfl),_,[],by(apply qO.tmp;(focus(exact h2));exact qO.nil),cx.nil _,rfl,rfl⟩
          .skip
           (have e:il f.ad f.ae i A=some ⟨(er A.li (f.ad.getD i aq.ah).id ((dr A.li (f.ad.getD i aq.ah).id).getD 0+1)),A.nJ,(er A.fo (f.ad.getD i aq.ah).ag (f.ae.getD t aq.ah).aN)⟩:=by unfold il;rw[ht];dsimp only;rw[if_neg (λh=>h0 h.1),if_neg h0];dsimp only;unfold vA;rw[if_neg (by rintro(h|h)<;>first|exact c4 h|exact c6 h.2)]);refine' zau;rw[e] at g3;refine afQ ⟨hf,hr,hs,hi,g2⟩ b1 b5 b6 b7 ht h0 c4 c5 c6 _ (λl L hl hL=>?_);(repeat(first|(with_reducible first|refine ak ?_|refine fe ?_|refine gS ?_)));refine' zaG
         |false=>
          (have e:il f.ad f.ae i A=some ⟨(er A.li (f.ad.getD i aq.ah).id ((dr A.li (f.ad.getD i aq.ah).id).getD 0+1)),A.nJ,(er A.fo (f.ad.getD i aq.ah).ag (f.ae.getD t aq.ah).aN)⟩:=by unfold il;rw[ht];dsimp only;rw[if_neg (λh=>h0 h.1),if_neg h0];dsimp only;unfold vA;rw[if_neg (by rintro(h|h)<;>first|exact c4 h|(rw[show(f.ae.getD t fO).aN=false from c5] at h;cases h.1))]);refine' zau;rw[e] at g3;refine afR ⟨hf,hr,hs,hi,g2⟩ b1 b5 b6 b7 ht h0 c4 c5 _ (λl L hl hL=>?_);(repeat(first|(with_reducible first|refine ak ?_|refine fe ?_|refine gS ?_)));refine' zaG
     .have fb:i=f.ad.length:=by omega
      subst fb;rw[Ag,YK] at g3;refine' cM;(all_goals try refine nU);all_goals exact⟨b1,b5,A,bp,au,g3⟩
    .rintro l L ⟨b1,b5,A,hl,hL,g3⟩;(repeat(first|(with_reducible first|refine ak ?_|refine fe ?_|refine gS ?_)))
     refine W.le ?_ hl hL;clear hl hL;rw[g3] at rC;(repeat' (first|refine' aZ|((with_reducible apply WO.ahz);exact fS;exact oX;intro _)|refine' av|fail));all_goals(refine⟨by(first|exact .inl rfl|exact .inr rfl),_,[],bY,cx.nil _,?_,rfl⟩;rw[rC];refine eC Value.bool ?_;show decide _=decide _;rw[CW];omega)
   .have pR:Ul f=false:=by
     rw[rC];by_cases e1:(f.ae.getD 0 fO).id=0
     .cases e2:(f.ae.getD 0 fO).aN with
      |false=>rw[du e1];rfl
      |true=>exact absurd ⟨e1,e2⟩ h5
     .rw[ec e1];rfl
    rw[pR];(repeat' (first|refine' aZ|((with_reducible apply WO.makeMap);intro bm _)|refine' av|fail))
    all_goals first
      |(exfalso;omega;done)
      |contradiction
      |(refine⟨by(first|exact .inl rfl|exact .inr rfl),_,[],bY,cx.nil _,?_,rfl⟩;rfl)
      |(exfalso;refine h5 ⟨by first|assumption|omega,by first|assumption|(simp_all;done)⟩)
 .have pR:Ul f=false:=by
   rw[rC];cases e1:fM f.ae.length 1 16 with
   |false=>rfl
   |true=>
    by_cases e2:f.ad.length≠0
    .by_cases e3:f.ad.getD 0 cR=⟨[47],0⟩
     .exact absurd ⟨e1,e2,e3⟩ h0
     .rw[ec e3];simp
    .rw[ec e2];simp
  rw[pR];clear rC;refine aX f9 ?_;repeat' (first|refine' aZ|refine' TN|refine' TP|refine' av|fail)
  all_goals first
   |(exfalso;omega;done)
   |contradiction
   |(refine⟨by(first|exact .inl rfl|exact .inr rfl),_,[],bY,cx.nil _,?_,rfl⟩;rfl)
   |(exfalso;refine h0 ⟨by unfold fM;simp;omega,af,aP⟩)
end Go.Pl
namespace Go.Pl
open Go.Lg
variable {f:Flat}{i j k:Nat}{z:aC}
theorem kE.sn (h:kE f):l5 f.ad:=by
 refine uk.2 λi j hi hj nI=>?_
 have:=YM (λj h1 hj=>((h.nm j hj).2.1 h1).1) (j-i-1) i af;rw[show i+(j-i-1)+1=j by omega,a7,bc hi,a7,bc hj] at this;exact this
theorem kE.st (h:kE f):ik f.ae:=wm h.tb
theorem kE.n1 (h:kE f):0<f.ad.length:=by have:=h.n0;omega
theorem kE.q1 (h:kE f):0<f.ae.length:=by have:=h.tl;unfold fM at this;simp at this;omega
theorem kE.q16 (h:kE f):f.ae.length<=16:=by have:=h.tl;unfold fM at this;simp at this;omega
theorem kE.Gj (h:kE f)(hi:i<f.ad.length):vT f.ad (f.ad.getD i cR).ag=some i:=by
 refine lE (d:=cR) hi ay λj hj e=>?_
 rw[bR] at e;exact nk (qz h.sn cR hj hi) e
theorem kE.J6 (_h:kE f)(hz:vT f.ad z=some i):i<f.ad.length/\(f.ad.getD i cR).ag=z:=by obtain⟨h1,h2,_⟩:=qe.1 hz;refine⟨h1,?_⟩;rw[a7,bc h1];simpa using h2
theorem kE.idr (h:kE f)(hi:i<f.ad.length):0<=(f.ad.getD i cR).id/\(f.ad.getD i cR).id<=15:=by obtain⟨t,ht⟩:=lV.1 (h.nm i hi).1;obtain⟨h1,h2⟩:=AV ht;have:=h.tb t h1;unfold tB fM at this;simp only[bI,bR] at this;rw[<-h2];exact this.1.1.1
theorem kE.uc (_h:kE f)(hz:vT f.ad z=some i):ia f.ad z=(f.ad.getD i cR).id:=by unfold ia;rw[hz]
theorem kE.ld0 (h:kE f)(z:aC):0<=ia f.ad z↔(vT f.ad z).isSome=true:=by
 unfold ia;cases hz:vT f.ad z with
 |none=>simp
 |some i=>have:=h.idr (h.J6 hz).1;simp;exact this.1
theorem kE.Zo (h:kE f)(z:aC):ia f.ad z<0↔vT f.ad z=none:=by
 have:=h.ld0 z;cases hz:vT f.ad z with
 |none=>rw[hz] at this;simp at this;simp;exact this
 |some i=>rw[hz] at this;simp at this;simp;exact this
theorem kE.fld (_h:kE f):lH f.ae (f.ad.getD i cR).id=vB f.ad f.ae i:=rfl
theorem kE.uniq (h:kE f)(hi:i<f.ad.length)(hj:j<f.ad.length)(hid:(f.ad.getD i cR).id=(f.ad.getD j cR).id)(hf:vB f.ad f.ae i=true):i=j:=by
 have key:∀a b,a<b->b<f.ad.length->(f.ad.getD a cR).id=(f.ad.getD b cR).id->vB f.ad f.ae b=true->False:=λa b lS hb hid hf=>by
  have h1:=(h.nm b hb).2.2.2 hf;rw[tW,if_pos rfl] at h1;have:=YS lS hid;omega
 have hfj:vB f.ad f.ae j=true:=by unfold vB at hf⊢;rw[<-hid];exact hf
 rcases CP i j with dz|heq|dz
 .exact(key i j dz hj hid hfj).elim
 .exact heq
 .exact(key j i dz hi hid.symm hf).elim
theorem kE.fb0 (h:kE f):vB f.ad f.ae 0=true:=by unfold vB;rw[h.nr];show(match pc f.ae 0 with|none=>false|some t=>(f.ae.getD t fO).aN)=true;have:=JW h.st h.q1;rw[h.t0] at this;rw[this];exact h.tf
theorem kE.cG (h:kE f):vT f.ad [47]=some 0:=by
 have:=h.Gj h.n1
 rwa [h.nr] at this
theorem kE.J7 (h:kE f)(hz:vT f.ad z=some i):ia f.ad z=0↔z=[47]:=by
 rw[h.uc hz];obtain⟨hi,hp⟩:=h.J6 hz;constructor
 .intro h0;have:=h.uniq h.n1 hi (by rw[h0,h.nr]) h.fb0;subst this;rw[<-hp,h.nr]
 .intro e;subst e;rw[h.cG] at hz;cases hz
  rw[h.nr]
theorem kE.par (h:kE f)(h1:1<=j)(hj:j<f.ad.length):∃m,m<j/\vT f.ad (aw (f.ad.getD j cR).ag).1=some m/\vB f.ad f.ae m=true/\(f.ad.getD m cR).ag=(aw (f.ad.getD j cR).ag).1:=by obtain⟨_,⟨m,hm,hp,hf⟩,_⟩:=(h.nm j hj).2.1 h1;exact⟨m,hm,by rw[<-hp];exact h.Gj af,hf,hp⟩
theorem kE.abU (h:kE f)(z:aC):f.vR z=cN f.ad f.ad.length z:=by
 rw[YR];unfold Flat.vR;refine GB λx hx=>?_
 obtain⟨j,hj,rfl⟩:=jO hx;rw[List.length_tail] at hj;have:=rB ((h.nm (j+1) af).2.1 af).2.2.1;rw[a7,bc af] at this;have e:f.ad.tail[j]=f.ad[j+1]:=List.getElem_tail _;rw[e];have this:bW f.ad[j+1].ag=aw f.ad[j+1].ag:=this;rw[this]
theorem kE.afV (h:kE f)(hk:k<f.ad.length):YT f.ad (f.ad.getD k cR).id=f.vR (f.ad.getD k cR).ag:=by
 rw[h.abU];unfold YT cN;rw[<-p9 (inJ f.ad (f.ad.getD k cR).id) cR f.ad];refine GB λj hj=>?_
 have hj:=kF.1 hj;unfold inJ;by_cases h0:j=0
 .subst h0;rw[h.nr];simp[aw,dM]
 .obtain⟨m,hm,FE,hfm,hpm⟩:=h.par (show 1<=j by omega) hj;have pR:=((h.nm j hj).2.1 af).2.2.1;have gh:(aw (f.ad.getD j cR).ag).2≠[]:=λe=>by rw[e] at pR;cases pR
  rw[h.uc FE,du gh,du (show 1<=j by omega),uN,uN,bR,bR,<-hpm];constructor
  .intro e;rw[h.uniq af hk e hfm]
  .intro e;have h1:=h.Gj (show m<f.ad.length by omega);rw[e,h.Gj hk] at h1;cases h1;rfl
theorem kE.ajf (h:kE f)(hk:k<f.ad.length)(hf:vB f.ad f.ae k=false):f.vR (f.ad.getD k cR).ag=0:=by
 rw[h.abU];unfold cN;rw[uO];intro j hj e;have hj:=kF.1 hj;rw[bI,bR,bR] at e;obtain⟨m,hm,FE,hfm,hpm⟩:=h.par e.1 hj;have h1:=h.Gj (show m<f.ad.length by omega);rw[hpm,e.2,h.Gj hk] at h1;cases h1
 rw[hf] at hfm;cases hfm
theorem Io (f:Flat):∀(n k:Nat),(∀j,j<k->(f.eB (j:Int)).isSome=true)->∀j,j<f.Ji n k->(f.eB (j:Int)).isSome=true
 |0,k,h,j,hj=>h j hj
 |n+1,k,h,j,hj=>by
  have e:f.Ji (n+1) k=if(f.eB (k:Int)).isSome then f.Ji n (k+1) else k:=rfl
  rw[e] at hj;by_cases hk:(f.eB (k:Int)).isSome=true
  .rw[if_pos hk] at hj;refine Io f n (k+1) (λj hj=>?_) j hj;by_cases hjk:j=k
   .rw[hjk];exact hk
   .exact h j af
  .rw[if_neg hk] at hj;exact h j hj
theorem Zp (f:Flat):∃k:Nat,k<=f.ae.length/\f.eB (k:Int)=none:=by
 refine nP λh=>?_
 have h':∀k:Nat,k<=f.ae.length->∃x∈f.ae,x.id=(k:Int):=λk hk=>by
  cases hz:f.eB (k:Int) with
  |none=>exact absurd ⟨k,hk,hz⟩ h
  |some i=>
   obtain⟨h1,h2,_⟩:=qe.1 hz;exact⟨_,rX h1,by simpa using h2⟩
 have:=qa ((List.range (f.ae.length+1)).map λ(k:Nat)=>(k:Int)) (f.ae.map bS.id) (by
  rw[CX,CY];exact(List.nodup_range).imp λ{a b} gh he=>gh af) (λx hx=>by
  obtain⟨k,hk,rfl⟩:=lp.1 hx;obtain⟨y,hy,he⟩:=h' k (by have:=kF.1 hk;omega);exact lp.2 ⟨y,hy,he⟩)
 rw[uI,uI,QD] at this;omega
theorem Ip (f:Flat):∀(m id:Nat),(∃k:Nat,id<=k/\k<id+m/\f.eB (k:Int)=none)->f.eB (f.Ji m id:Nat)=none/\f.Ji m id<id+m
 |0,id,⟨k,h1,h2,h3⟩=>by omega
 |m+1,id,⟨k,h1,h2,h3⟩=>by
  have e:f.Ji (m+1) id=if(f.eB (id:Int)).isSome then f.Ji m (id+1) else id:=rfl
  rw[e];cases hz:f.eB (id:Int) with
  |none=>rw[if_neg bT];exact⟨hz,af⟩
  |some j=>
   rw[if_pos (show(some j).isSome=true from rfl)];have:=Ip f m (id+1) ⟨k,by
    have:k≠id:=λe=>by rw[e,hz] at h3;cases h3
    omega,af,h3⟩
   exact⟨this.1,af⟩
theorem zO (f:Flat):f.eB (f.fw:Nat)=none/\f.fw<=f.ae.length/\∀j,j<f.fw->(f.eB (j:Int)).isSome=true:=by obtain⟨k,h1,h2⟩:=Zp f;have:=Ip f (f.ae.length+1) 0 ⟨k,af,af,h2⟩;exact⟨this.1,by have:=this.2;unfold Flat.fw;omega,Io f _ 0 λj hj=>by omega⟩
theorem Np (f:Flat):∀(n k:Nat),k<=f.fw->Ci f.ae n k=if f.fw<k+n then(f.fw:Int) else -1
 |0,k,hk=>by rw[if_neg af];rfl
 |n+1,k,hk=>by
  obtain⟨h1,h2,h3⟩:=zO f;have e:Ci f.ae (n+1) k=if(pc f.ae (k:Int)).isNone then(k:Int) else Ci f.ae n (k+1):=rfl
  rw[e];by_cases hkf:k=f.fw
  .have:(pc f.ae (k:Int)).isNone=true:=by rw[hkf];show(f.eB (f.fw:Nat)).isNone=true;rw[h1];rfl
   rw[if_pos this,if_pos af,hkf]
  .have:¬(pc f.ae (k:Int)).isNone=true:=by
    have:=h3 k af;rw[show f.eB (k:Int)=pc f.ae (k:Int) from rfl] at this;intro e;cases hh:pc f.ae (k:Int)<;>rw[hh] at this e<;>simp at this e
   rw[if_neg this,Np f n (k+1) af,show k+1+n=k+(n+1) by omega]
theorem ajg (f:Flat):Ci f.ae 16 0=if f.fw<16 then(f.fw:Int) else -1:=by rw[Np f 16 0 (iK _),mS]
theorem E5 (hk:vT f.ad (bW z).1=none):f.cu z=if z=[47] then 3 else 2:=by unfold Flat.cu;rw[show f.ju (bW z).1=none from hk]
theorem ye {k:Nat}(hk:vT f.ad (bW z).1=some k):f.cu z=if z=[47] then 3 else if vB f.ad f.ae k=false then 4 else if(vT f.ad z).isSome=true then 3 else 0:=by unfold Flat.cu;rw[show f.ju (bW z).1=some k from hk];show(if z=[47] then 3 else if(!f.kz (f.ad.getD k cR).id)=true then 4 else if(f.ju z).isSome=true then 3 else 0)=_;rw[show f.kz (f.ad.getD k cR).id=vB f.ad f.ae k from(PT f k).symm];cases vB f.ad f.ae k<;>rfl
theorem ud (h:¬0<f.cu z):vT f.ad z=none/\z≠[47]/\∃k,vT f.ad (bW z).1=some k/\vB f.ad f.ae k=true:=by
 cases hk:vT f.ad (bW z).1 with
 |none=>
  rw[E5 hk] at h;split at h<;>exact absurd bT h
 |some k=>
  rw[ye hk] at h;by_cases h1:z=[47]
  .rw[if_pos h1] at h;exact absurd bT h
  .rw[if_neg h1] at h;cases h2:vB f.ad f.ae k with
   |false=>rw[if_pos h2] at h;exact absurd bT h
   |true=>
    rw[if_neg (by rw[h2];decide)] at h;cases h3:vT f.ad z with
    |some m=>rw[h3,if_pos (show(some m).isSome=true from rfl)] at h;exact absurd bT h
    |none=>exact⟨rfl,h1,k,rfl,h2⟩
theorem yf (hz:aT z=true)(h1:z≠[47]):Ev.eE z=(bW z).1:=if_pos ⟨hz,h1⟩
theorem J8 (h:kE f)(hz:aT z=true)(cq:Bool):xc f.ad f.ae z cq=if 0<f.cu z then f.cu z else if cq=true\/12<=f.vR (bW z).1 then 6 else 0:=by
 unfold xc;by_cases h1:z=[47]
 .subst h1;have:f.cu [47]=3:=by rw[ye (k:=0) h.cG,if_pos rfl]
  rw[if_pos rfl,this];rfl
 rw[if_neg h1,yf hz h1];cases hk:vT f.ad (bW z).1 with
 |none=>
  rw[if_pos ((h.Zo _).2 hk),E5 hk,if_neg h1];rfl
 |some k=>
  have Of:=h.J6 hk;rw[if_neg (λe=>by rw[(h.Zo _).1 e] at hk;cases hk),h.uc hk,h.fld,ye hk,if_neg h1];cases h2:vB f.ad f.ae k with
  |false=>rw[if_pos rfl,if_pos rfl];rfl
  |true=>
   rw[if_neg (show ¬(true=false) by decide),if_neg (show ¬(true=false) by decide)];cases h3:vT f.ad z with
   |some m=>
    rw[if_pos ((h.ld0 z).2 (by rw[h3];rfl)),if_pos (show(some m).isSome=true from rfl)];rfl
   |none=>
    (have hn:¬0<=ia f.ad z:=λe=>by have:=(h.ld0 z).1 e;rw[h3] at this;cases this);rw[if_neg hn,if_neg (show ¬(none:Option Nat).isSome=true from iB),h.afV Of.1,Of.2];rfl
theorem ue (h:vT f.ad z=none):∀y∈f.ad,y.ag≠z:=λy hy e=>by
 have:=CT.1 h y hy;rw[mQ] at this;exact this e
theorem CL {n:Int}(h:pc f.ae n=none):∀y∈f.ae,y.id≠n:=λy hy e=>by
 have:=CT.1 h y hy;rw[mQ] at this;exact this e
theorem UF {l m:List bE}(h:l5 l)(hs:m.Sublist l):l5 m:=List.Pairwise.sublist hs h
theorem UG {l m:gD}(h:ik l)(hs:m.Sublist l):ik m:=List.Pairwise.sublist hs h
end Go.Pl
namespace Go.Pl
open Go Go.Ev Go.Lg Go.Proofs
variable {f:FuncId}{args:aY}{s:St}{i:Nat}
theorem R5 {fn:Func}{v:Value}(h1:bf.fn.get f=some fn)(h2:∀k,uV bw f args s k=some (v,s)):bL f args s [] v:=λh3 h4 h5=>nT.Wy h1 (s':=s) (v:=v) h2 ⟨[],⟨λ_ _ _=>rfl,cC _,λx hx=>(by cases hx),λx hx=>(by cases hx),wS,λb hb=>.inl hb,λb hb=>.inl hb,λb hb=>.inl hb,λb hb=>.inl hb⟩,rfl,rfl⟩
theorem nT.ext {E:iq}{X:fY}{fn:Func}{s s':St}{v:Value}{K:Value->St->Prop}(hf:E.fn.get f=some fn)(hb:fn.body=none)(hx:xu X f=false)(he:KX X f args s=some (v,s'))(hk:K v s'):nT E X f args s K:=by
 refine⟨v,s',⟨1,λn hn lf B8=>?_⟩,hk⟩;obtain⟨n,rfl⟩:∃q,n=q+1:=⟨n-1,af⟩;show(ob (E.fn.get f) λfn=>uV X f args s<| match fn.body with
   |none=>KX X f args s
   |some c=>bo (Nat.beq f X.look) (C4 args s)<| dN (Nat.ble (dX args) fn.ntmps)<| KY E fn (lN E (oP E X lf [] n) lf c (kv args (nat_lit 0) .nil) s))=_
 refine' zaE;rw[DC hx,hb];exact he
theorem abV {fn:Func}{v:Value}(h1:bf.fn.get f=some fn)(hb:fn.body=none)(hx:xu bw f=false)(h2:KX bw f args s=some (v,s)):bL f args s [] v:=λh3 h4 h5=>nT.ext h1 hb hx h2 ⟨[],⟨λ_ _ _=>rfl,cC _,λx hx=>(by cases hx),λx hx=>(by cases hx),wS,λb hb=>.inl hb,λb hb=>.inl hb,λb hb=>.inl hb,λb hb=>.inl hb⟩,rfl,rfl⟩
def P9 (z:aC):Option Nat:=z.findIdx? λb=>decide (b=47)
theorem Zq:∀(z:aC)(i:Nat),yK 47 z i=match P9 z with
  |some j=>((i+j:Nat):Int)
  |none=>-1
 |[],i=>rfl
 |b::z,i=>by
  have h:yK 47 (b::z) i=bo (Nat.beq b.toNat 47) (.ofNat i) (yK 47 z (i+1)):=rfl;rw[h,dJ,Zq z (i+1)];unfold P9;rw[Bo];by_cases hb:b=47
  .subst hb;rfl
  .have h1:Nat.beq b.toNat 47=false:=by
    rw[<-na,zZ];exact λe=>hb (sW.1 e)
   rw[if_neg (by rw[h1];exact iB),if_neg (by simpa using hb)];cases z.findIdx? λb=>decide (b=47) with
   |none=>rfl
   |some j=>
    show(((i+1+j:Nat)):Int)=((i+(j+1):Nat):Int);omega
theorem abW (s:St)(z:aC):bL 268 [sv z,.int .u8 47] s [] (iv (oI (P9 z))):=by
 refine abV (fn:=f268) cj rfl cj ?_;show aM (Value.int .i64 (yK 47 z 0)) s=_;rw[Zq];cases P9 z with
 |none=>rfl
 |some j=>
  show aM (Value.int .i64 ((0+j:Nat):Int)) s=_;rw[mS];rfl
theorem J9 (s:St)(z:aC):bL 224 [sv z,.int .u8 47] s [] (iv (oI (P9 z))):=by
 refine aX f224 ?_;(repeat' (first|refine' aZ|((with_reducible apply WO.aW);exact aD;exact λs=>abW s _;intros)|refine' av|fail));all_goals refine' ax
 all_goals rfl
theorem Ka (s:St)(z:aC):bL 178 [sv z,sv [47]] s [] (iv (oI (P9 z))):=by
 refine aX f178 ?_;(repeat' (first|refine' aZ|((with_reducible apply WO.aW);exact aD;exact λs=>J9 s _;intros)|refine' av|fail));all_goals try refine cI
 all_goals refine' ax
 all_goals first|rfl|(have e:[47]=z:=by assumption
                      subst e;rfl)
theorem Zr (s:St)(z:aC):bL 118 [sv z,sv [47]] s [] (iv (oI (P9 z))):=by
 refine aX f118 ?_;(repeat' (first|refine' aZ|((with_reducible apply WO.aW);exact aD;exact λs=>Ka s _;intros)|refine' av|fail));all_goals refine' ax
 all_goals rfl
def mz (z:aC):Nat:=(z.filter λb=>Nat.beq b.toNat 47).length
theorem abX (s:St)(z:aC):bL 177 [sv z,.int .u8 47] s [] (iv (mz z:Int)):=R5 (fn:=f177) cj λk=>by
 show aM (Value.int .i64 (Int.ofNat (dX (z.filter λb=>Nat.beq b.toNat 47)))) s=_;rw[c8];rfl
theorem Zs (s:St)(z:aC):bL 117 [sv z,sv [47]] s [] (iv (mz z:Int)):=by
 refine aX f117 ?_;(repeat' (first|refine' aZ|((with_reducible apply WO.aW);exact aD;exact λs=>abX s _;intros)|refine' av|fail));all_goals try refine cI
 all_goals refine' ax
 all_goals rfl
theorem gI (x:UInt8)(s:aC):cut 47 (x::s)=if x=47 then []::cut 47 s else match cut 47 s with
  |[]=>[[x]]
  |w::r=>(x::w)::r:=rfl
theorem zP:∀s:aC,cut 47 s≠[]
 |[]=>by simp[cut]
 |x::s=>by
  rw[gI];split
  .simp
  .split<;>simp
theorem zQ:∀z:aC,(cut 47 z).length=mz z+1
 |[]=>rfl
 |x::z=>by
  have ih:=zQ z;have hc:mz (x::z)=if x=47 then mz z+1 else mz z:=by
   unfold mz;rw[uj];by_cases hx:x=47
   .subst hx;rfl
   .have h1:Nat.beq x.toNat 47=false:=by
     rw[<-na,zZ];exact λe=>hx (sW.1 e)
    rw[h1,if_neg iB,if_neg hx]
  rw[hc,gI];by_cases hx:x=47
  .rw[if_pos hx,if_pos hx,cU,ih]
  .rw[if_neg hx,if_neg hx];cases h:cut 47 z with
   |nil=>exact absurd h (zP z)
   |cons w r=>rw[h] at ih;exact ih
theorem Nq (x:UInt8)(z:aC):P9 (x::z)=if x=47 then some 0 else(P9 z).map (·+1):=by
 unfold P9;rw[Bo];by_cases hx:x=47
 .rw[if_pos (by simpa using hx),if_pos hx]
 .rw[if_neg (by simpa using hx),if_neg hx]
theorem A3:∀z:aC,P9 z=none->cut 47 z=[z]
 |[],_=>rfl
 |x::z,h=>by
  rw[Nq] at h;by_cases hx:x=47
  .rw[if_pos hx] at h;cases h
  .rw[if_neg hx] at h;have h1:P9 z=none:=by simpa using h
   rw[gI,if_neg hx,A3 z h1]
theorem A4:∀(z:aC)(m:Nat),P9 z=some m->m<z.length/\cut 47 z=z.take m::cut 47 (z.drop (m+1))
 |[],m,h=>by cases h
 |x::z,m,h=>by
  rw[Nq] at h;by_cases hx:x=47
  .rw[if_pos hx] at h;cases h
   exact⟨ay,by rw[gI,if_pos hx];rfl⟩
  .rw[if_neg hx] at h;obtain⟨k,h1,rfl⟩:=Option.map_eq_some_iff.1 h;obtain⟨h2,h3⟩:=A4 z k h1;refine⟨by simpa using h2,?_⟩;rw[gI,if_neg hx,h3];rfl
def vE (all:List aC)(i:Nat):List aC:=all.take i++List.replicate (all.length-i) []
theorem sP (all:List aC)(hi:i<=all.length):(vE all i).length=all.length:=by unfold vE;rw[bn,cO,sX];omega
theorem zR (all:List aC)(hi:i<all.length){w:aC}{r:List aC}(hw:all.drop i=w::r):(vE all i).set i w=vE all (i+1)/\all.drop (i+1)=r:=by
 have h1:all[i]=w:=by
  have:=uQ hi;rw[hw] at this;exact(List.cons.inj this).1.symm
 have h2:all.drop (i+1)=r:=by
  have:=uQ hi;rw[hw] at this;exact(List.cons.inj this).2.symm
 refine⟨?_,h2⟩;unfold vE;rw[show all.length-i=(all.length-(i+1))+1 by omega,List.replicate_succ,List.set_append_right _ _ (by rw[cO];omega),cO,yA af,Ag,List.set_cons_zero,<-h1,ui,bc hi,Option.toList_some,iL];rfl
theorem Nr (s:St)(z:aC)(hz:z.length<=100000):eu bf bw 72 [sv z,sv [47],iv 0,iv (-1)] s [] 9 (cut 47 z):=by
 have hN:=zQ z;have hle:mz z<=z.length:=Bm _ _;refine aX f72 ?_;(repeat' (first|refine' aZ|((with_reducible apply WO.aW);exact aD;exact λs=>Zs s _;intros)|refine' av|fail));all_goals try refine cI
 rw[show min ((mz z:Int)+1) ((z.length:Int)+1)-1=(mz z:Int) by omega];rw[show(min ((mz z:Int)+1) ((z.length:Int)+1)).toNat=mz z+1 by omega];have hr0:List.replicate (mz z+1) ([]:aC)=vE (cut 47 z) 0:=by unfold vE;rw[hN];rfl
 rw[hr0];rw[show(vE (cut 47 z) 0).length=mz z+1 by rw[sP _ (iK _),hN]];refine W.bK (λm l L=>∃(i:Nat)(y:aC)(c:Nat)(w:List aC),Le [(0,sv y),(1,sv [47]),(2,iv 0),(3,iv (mz z:Int)),(9,.slice (iJ bm) (mz z+1) c),(10,iv (i:Int))] l/\cx [.aQ (.slice (iJ bm) (mz z+1) c) 9 1 (ai w)] L/\m=mz z-i/\i<=mz z/\w=vE (cut 47 z) i/\(cut 47 z).drop i=cut 47 y/\y.length<=100000)
                                                                                           (λl L=>∃(y:aC)(c:Nat)(w:List aC),Le [(0,sv y),(9,.slice (iJ bm) (mz z+1) c),(10,iv (mz z:Int))] l/\cx [.aQ (.slice (iJ bm) (mz z+1) c) 9 1 (ai w)] L/\w=vE (cut 47 z) (mz z)/\(cut 47 z).drop (mz z)=cut 47 y) _ ⟨0,z,_,_,bp,au,rfl,af,rfl,rfl,hz⟩ ?_ ?_
 .rintro m l L ⟨i,y,c,w,hl,hL,rfl,h1,h2,h3,h4⟩;refine W.le ?_ hl hL;clear hl hL;have Uc:w.length=mz z+1:=by rw[h2,sP _ af,hN]
  by_cases hi:i<mz z
  ·
   cases hs:P9 y with
   |none=>
    exfalso;rw[A3 y hs] at h3;have:=eC List.length h3;rw[eP,hN] at this;simp at this;omega
   |some j=>
    obtain⟨g1,g2⟩:=A4 y j hs;rw[g2] at h3;obtain⟨g3,g4⟩:=zR (cut 47 z) af h3;have F7:∀s,bL 118 [sv y,sv [47]] s [] (iv (j:Int)):=λs=>by
     have:=Zr s y;rw[hs] at this;exact this
    have lQ:(([47]:aC).length:Int)=1:=rfl;(repeat' (first|refine' aZ|((with_reducible apply WO.aW);exact aD;(exact F7);intros)|refine' av|fail));all_goals refine' za1
  .have fb:i=mz z:=by omega
   subst fb;refine' cM;(all_goals try refine cI);all_goals exact⟨y,c,w,bp,au,h2,h3⟩
 .rintro l L ⟨y,c,w,hl,hL,h2,h3⟩;refine ak ?_;refine W.le ?_ hl hL;clear hl hL;have Uc:w.length=mz z+1:=by rw[h2,sP _ af,hN]
  have hd1:(cut 47 z).drop (mz z)=[y]:=by
   have h4:(cut 47 y).length=1:=by
    rw[<-h3,eP,hN];omega
   cases hs:P9 y with
   |none=>rw[h3,A3 y hs]
   |some j=>
    rw[(A4 y j hs).2,cU] at h4;have:=zQ (y.drop (j+1));omega
  obtain⟨g3,g4⟩:=zR (cut 47 z) af hd1;repeat' (first|refine' aZ|refine' ae4|refine' av|fail)
  all_goals try refine cI
  have hw:w.set (mz z) y=cut 47 z:=by
   rw[h2,g3];unfold vE;rw[<-hN,Ag,List.replicate_zero,gJ,fU]
  rw[hw,<-hN];refine' jo;all_goals rfl
theorem Zt (s:St)(z:aC)(hz:z.length<=100000):eu bf bw 44 [sv z,sv [47]] s [] 9 (cut 47 z):=by
 refine aX f44 ?_;(repeat' (first|refine' aZ|((with_reducible apply WO.vh);exact aD;exact λs=>Nr s _ aP;intro _ _ Qb Qc _ _)|refine' av|fail));all_goals refine' jo
 all_goals rfl
theorem E6 (s:St)(z:aC)(hz:z.length<=100000)(ha:∀c∈z,c.toNat<128):bL 183 [sv z] s [] (.bool (!aV z)):=by
 have pR:∀s,bL 24 [sv z] s [] (.bool (aV z)):=λs=>EB s z hz ha
 refine aX f183 ?_;(repeat' (first|refine' aZ|((with_reducible apply WO.aW);exact aD;exact λs=>pR s;intros)|refine' av|fail));all_goals refine' ax
 all_goals rfl
theorem abY (s:St)(a:aS)(c:Nat)(p:List aC)(hp:p.length<=100000)(hn:∀e∈p,e.length<=100000/\∀c∈e,c.toNat<128)(hr:bM s a p.length 1 (ai p)):bL 230 [.slice a p.length c,.func (.func 183) ⟨[]⟩ ⟨[]⟩] s (aj a) (iv (oI (p.findIdx? λz=>!aV z))):=by
 have hd:=Rd.of hr (A:=aj a) λb hb=>hb
 refine aX f230 ?_;refine' cM;all_goals try refine cI
 refine W.bK (λm l L=>∃(i:Nat),Le [(0,.slice a p.length c),(1,.func (.func 183) ⟨[]⟩ ⟨[]⟩),(7,iv (p.length:Int)),(8,iv (i:Int))] l/\cx [] L/\m=p.length-i/\i<=p.length/\∀j:Nat,j<i->aV (p.getD j aq.ah)=true)
  (λl L=>Le [] l/\cx [] L/\∀j:Nat,j<p.length->aV (p.getD j aq.ah)=true) _ ⟨0,bp,au,rfl,af,λj h=>by omega⟩ ?_ ?_
 .rintro m l L ⟨i,hl,hL,rfl,h1,h2⟩;refine W.le ?_ hl hL;clear hl hL;by_cases hi:i<p.length
  .obtain⟨g1,g2⟩:=hn _ (aL hi aq.ah);cases hb:aV (p.getD i aq.ah) with
   |true=>
    have hnn:∀s,bL 183 [sv (p.getD i aq.ah)] s [] (.bool false):=λs=>by
     have:=E6 s _ g1 g2
     rwa [hb] at this
    refine' zaW;all_goals refine' zav
   |false=>
    have hnn:∀s,bL 183 [sv (p.getD i aq.ah)] s [] (.bool true):=λs=>by
     have:=E6 s _ g1 g2
     rwa [hb] at this
    refine' zaW
    have e:(p.findIdx? λz=>!aV z)=some i:=lE (d:=aq.ah (α:=aC)) hi (by rw[hb];rfl) λj hj he=>by
     rw[h2 j hj] at he;cases he
    (all_goals refine' ax);all_goals(rw[e];rfl)
  ·(refine' cM)
   (all_goals try refine cI);all_goals exact⟨bp,au,λj hj=>h2 j af⟩
 .rintro l L ⟨hl,hL,h2⟩;refine ak ?_;refine W.le ?_ hl hL;clear hl hL;have e:(p.findIdx? λz=>!aV z)=none:=vS aq.ah λj hj he=>by
   rw[h2 j hj] at he;cases he
  refine' cM;all_goals refine' ax
  all_goals(rw[e];rfl)
theorem Kb (s:St)(a:aS)(c:Nat)(p:List aC)(hp:p.length<=100000)(hn:∀e∈p,e.length<=100000/\∀c∈e,c.toNat<128)(hr:bM s a p.length 1 (ai p)):bL 182 [.slice a p.length c,.func (.func 183) ⟨[]⟩ ⟨[]⟩] s (aj a) (.bool (!p.all aV)):=by
 have hd:=Rd.of hr (A:=aj a) λb hb=>hb
 have F7:=λs=>abY s a c p hp hn
 have e:(p.findIdx? λz=>!aV z).isSome= !p.all aV:=by rw[List.findIdx?_isSome,List.not_all_eq_any_not]
 rw[<-e];clear e hn;cases hf:p.findIdx? λz=>!aV z with
 |none=>
  rw[hf] at F7;refine aX f182 ?_;refine' aiz;all_goals refine' ax
  all_goals rfl
 |some i=>
  rw[hf] at F7;refine aX f182 ?_;refine' aiz;all_goals refine' ax
  all_goals(unfold oI;simp;rfl)
variable {E:iq}{X:fY}{Γ:qN}{l:Kn}{L R:dy}{K:KO}{g:FuncId}{xs:List Operand}{ts:Array TypeId}{vs:aY}{r:Value}
structure yg (s:St):Prop where
 lt:4<s.next
 row:∃o,s.heap.get 4=some o/\Hb o=true
structure R6 (Γ:qN):Prop where
 r0:yg Γ.s0
 A:4∈Γ.A
 M:4∉Γ.M
end Go.Pl
