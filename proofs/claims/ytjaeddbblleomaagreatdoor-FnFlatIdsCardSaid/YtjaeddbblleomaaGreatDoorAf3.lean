/- Lemmas of the proof. No conditions. -/
import Derived.Test.YtjaeddbblleomaaGreatDoorAf2
set_option maxRecDepth 100000
set_option maxHeartbeats 4000000
set_option linter.unusedVariables false
set_option linter.unusedSimpArgs false
open Go.Proofs.Tryz
namespace Go.Pl
open Go Go.Ev Go.Lg Go.Proofs
variable {s:St}{a a':aH}{c c' i t:Nat}{f:Flat}{A:Acc}
theorem ifBok1 (hf:nz f)(hr:bY s a a' f)(hs:eB f.ae)(b1 b5 b6 b7:Nat)(hi:i<f.ad.length)(g2:oC f.ad f.ae i A)(ht:nS f.ae (f.ad.getD i c9.lW).id=some t)(h0:0<i)(c1:bK (f.ad.getD ((i:Int)-1).toNat c9.lW).ag (f.ad.getD i c9.lW).ag=true)(c2:(bN A.fo (au (f.ad.getD i c9.lW).ag).1).getD false=true)(c3:bT (au (f.ad.getD i c9.lW).ag).2=true)(c7:¬12<((bN (db A.jo (au (f.ad.getD i c9.lW).ag).1 ((bN A.jo (au (f.ad.getD i c9.lW).ag).1).getD 0+1)) (au (f.ad.getD i c9.lW).ag).1).getD 0))(c4:¬9<((bN (db A.li (f.ad.getD i c9.lW).id ((bN A.li (f.ad.getD i c9.lW).id).getD 0+1)) (f.ad.getD i c9.lW).id).getD 0))(c5:(f.ae.getD t c9.lW).aM=true)(c6:¬1<((bN (db A.li (f.ad.getD i c9.lW).id ((bN A.li (f.ad.getD i c9.lW).id).getD 0+1)) (f.ad.getD i c9.lW).id).getD 0))(Q:Ex->Kn->bn->Prop)(hQ:∀l L,Le [(1,aP b1),(5,.map (some b5)),(6,.map (some b6)),(7,.map (some b7)),(94,.slice a f.ad.length c),(95,iv (f.ad.length:Int)),(96,iv (i+1:Nat))] l->cr [.box b1 (fT a c f.ad a' c' f.ae) 26 false,.fy b5 (CP (db A.li (f.ad.getD i c9.lW).id ((bN A.li (f.ad.getD i c9.lW).id).getD 0+1))),.fy b6 (E1 (db A.jo (au (f.ad.getD i c9.lW).ag).1 ((bN A.jo (au (f.ad.getD i c9.lW).ag).1).getD 0+1))),.fy b7 (E2 (db A.fo (f.ad.getD i c9.lW).ag (f.ae.getD t c9.lW).aM))] L->Q .normal l L):W aU aW ⟨s,([]:bn).flatMap It.aS,jh a a'⟩ (mB f12) [(1,aP b1),(5,.map (some b5)),(6,.map (some b6)),(7,.map (some b7)),(94,.slice a f.ad.length c),(95,iv (f.ad.length:Int)),(96,iv (i:Int))] [.box b1 (fT a c f.ad a' c' f.ae) 26 false,.fy b5 (CP A.li),.fy b6 (E1 A.jo),.fy b7 (E2 A.fo)] Q:=by
 refine' zaa
 refine' zac
 all_goals exact hQ _ _ bd aq
theorem ifBok2 (hf:nz f)(hr:bY s a a' f)(hs:eB f.ae)(b1 b5 b6 b7:Nat)(hi:i<f.ad.length)(g2:oC f.ad f.ae i A)(ht:nS f.ae (f.ad.getD i c9.lW).id=some t)(h0:0<i)(c1:bK (f.ad.getD ((i:Int)-1).toNat c9.lW).ag (f.ad.getD i c9.lW).ag=true)(c2:(bN A.fo (au (f.ad.getD i c9.lW).ag).1).getD false=true)(c3:bT (au (f.ad.getD i c9.lW).ag).2=true)(c7:¬12<((bN (db A.jo (au (f.ad.getD i c9.lW).ag).1 ((bN A.jo (au (f.ad.getD i c9.lW).ag).1).getD 0+1)) (au (f.ad.getD i c9.lW).ag).1).getD 0))(c4:¬9<((bN (db A.li (f.ad.getD i c9.lW).id ((bN A.li (f.ad.getD i c9.lW).id).getD 0+1)) (f.ad.getD i c9.lW).id).getD 0))(c5:(f.ae.getD t c9.lW).aM=false)(Q:Ex->Kn->bn->Prop)(hQ:∀l L,Le [(1,aP b1),(5,.map (some b5)),(6,.map (some b6)),(7,.map (some b7)),(94,.slice a f.ad.length c),(95,iv (f.ad.length:Int)),(96,iv (i+1:Nat))] l->cr [.box b1 (fT a c f.ad a' c' f.ae) 26 false,.fy b5 (CP (db A.li (f.ad.getD i c9.lW).id ((bN A.li (f.ad.getD i c9.lW).id).getD 0+1))),.fy b6 (E1 (db A.jo (au (f.ad.getD i c9.lW).ag).1 ((bN A.jo (au (f.ad.getD i c9.lW).ag).1).getD 0+1))),.fy b7 (E2 (db A.fo (f.ad.getD i c9.lW).ag (f.ae.getD t c9.lW).aM))] L->Q .normal l L):W aU aW ⟨s,([]:bn).flatMap It.aS,jh a a'⟩ (mB f12) [(1,aP b1),(5,.map (some b5)),(6,.map (some b6)),(7,.map (some b7)),(94,.slice a f.ad.length c),(95,iv (f.ad.length:Int)),(96,iv (i:Int))] [.box b1 (fT a c f.ad a' c' f.ae) 26 false,.fy b5 (CP A.li),.fy b6 (E1 A.jo),.fy b7 (E2 A.fo)] Q:=by
 refine' zaa
 refine' zac
 all_goals exact hQ _ _ bd aq
end Go.Pl
namespace Go.Pl
open Go.Lg
open Go Go.Ev Go.Lg Go.Proofs
theorem tB_iff {q:eV}{i:Nat}(hl:(q.getD i fN).bh.length<=192):tB q i=true↔(0<=(q.getD i fN).id/\(q.getD i fN).id<=15)/\(0<i->(q.getD (i-1) fN).id<(q.getD i fN).id)/\((q.getD i fN).aM=true->(q.getD i fN).bh=[]):=by
 have h1:decide (192<(q.getD i fN).bh.length)=false:=by rw[lD];omega
 unfold tB fR;rw[h1];generalize(q.getD i fN).id=x;generalize(q.getD (i-1) fN).id=y;generalize(q.getD i fN).aM=fo;generalize(q.getD i fN).bh=tx;have hd:(y<x)↔¬(x<=y):=by omega
 rw[hd];by_cases e1:x<=y<;>by_cases e2:0<i<;>by_cases e3:tx=[]<;>by_cases e4:0<=x<;>by_cases e5:x<=15<;>cases fo<;>simp_all
theorem xq (s:St)(a:aH)(c:Nat)(a':aH)(c':Nat)(f:Flat)(hf:nz f)(hr:bY s a a' f):bO 12 [kr a c a' c' f] s (jh a a') (.bool (T2 f)):=by
 have oK:=fX.n hr;have qJ:=fX.t hr;have qM:=hf.tl;have nf:=hf.nl;have q8:=iok_eq f;by_cases h0:fR f.ae.length 1 16=true/\f.ad.length≠0/\f.ad.getD 0 cz=⟨[47],0⟩
 .obtain⟨h1,h2,h3⟩:=h0;have hlen1:(1:Int)<=(f.ae.length:Int)/\(f.ae.length:Int)<=16:=by unfold fR at h1;simp at h1;omega
  have h1':1<=f.ae.length:=by unfold fR at h1;simp at h1;omega
  have RW:(!(decide (f.ad.getD 0 cz=⟨[47],0⟩)))=false:=by rw[h3];decide
  rw[h1,h3,dO h2,dO rfl,xE,xE] at q8;have hTno:∀i,i<f.ae.length->tB f.ae i≠true->T2 f=false:=λi hi hn=>by
   have:(List.range f.ae.length).all (tB f.ae)=false:=by
    rw[Fy];exact⟨i,mH.2 hi,hn⟩
   rw[q8,this];rfl
  clear h1;refine aO f12 ?_;(repeat' (first|refine' aX|refine' Sb|refine' Qe|refine' ar|fail))
  all_goals first|(exfalso;simp[hlen1.1,hlen1.2] at tR;done)|(exfalso;omega;done)|contradiction|(exfalso;simp_all;done)|(exfalso;simp_all;omega)|skip
  refine W.bH (λm l L=>∃(i b1:Nat),Le [(1,aP b1),(33,.slice a' f.ae.length c'),(34,iv (f.ae.length:Int)),(35,iv (i:Int))] l/\cr [.box b1 (fT a c f.ad a' c' f.ae) 26 false] L/\m=f.ae.length-i/\i<=f.ae.length/\∀j,j<i->tB f.ae j=true)
   (λl L=>∃b1:Nat,Le [(1,aP b1)] l/\cr [.box b1 (fT a c f.ad a' c' f.ae) 26 false] L/\∀j,j<f.ae.length->tB f.ae j=true) _ ⟨0,_,bd,aq,rfl,af,λj hj=>by omega⟩ ?_ ?_
  .rintro m l L ⟨i,b1,hl,hL,rfl,g1,g2⟩;refine W.le ?_ hl hL;clear hl hL;by_cases hi:i<f.ae.length
   .have kh:=hf.th _ (aF hi c9.lW);have hTi:tB f.ae i=true↔(0<=(f.ae.getD i c9.lW).id/\(f.ae.getD i c9.lW).id<=15)/\(0<i->(f.ae.getD ((i:Int)-1).toNat c9.lW).id<(f.ae.getD i c9.lW).id)/\((f.ae.getD i c9.lW).aM=true->(f.ae.getD i c9.lW).bh=[]):=by
     rw[show((i:Int)-1).toNat=i-1 by omega];exact tB_iff (q:=f.ae) (i:=i) kh.2.2
    by_cases hT:tB f.ae i=true
    .obtain⟨c1,c2,c3⟩:=hTi.1 hT;have Yd:¬(0<i)\/(f.ae.getD ((i:Int)-1).toNat c9.lW).id<(f.ae.getD i c9.lW).id:=by
      by_cases h:0<i
      .exact .inr (c2 h)
      .exact .inl h
     clear hTi;(repeat' (first|refine' aX|refine' Sb|refine' ar|fail))
     all_goals try refine M0
     all_goals(refine⟨_,af,i+1,b1,bd,aq,rfl,af,λj hj=>?_⟩;rcases JO.1 hj with hj|rfl<;>first|exact g2 j hj|exact hT)
    .rw[hTno i hi hT];have hT':=λh=>hT (hTi.2 h)
     clear hTi hT;(repeat' (first|refine' aX|refine' Sb|refine' ar|fail))
     all_goals first
      |(exfalso;omega;done)
      |contradiction
      |(refine⟨by(first|exact .inl rfl|exact .inr rfl),_,[],bj,cr.nil _,?_,rfl⟩;rfl)
      |(exfalso;refine hT' ⟨af,λh=>by omega,λh=>by first|assumption|(simp_all;done)⟩)
   .have fG:i=f.ae.length:=by omega
    subst fG;(refine' cO)
    all_goals try refine M0
    all_goals exact⟨b1,bd,aq,g2⟩
  .rintro l L ⟨b1,hl,hL,g2⟩;(repeat(first|(with_reducible refine aj ?_)|(with_reducible refine cP ?_)|(with_reducible refine dC ?_)))
   refine W.le ?_ hl hL;clear hl hL;have bP:(List.range f.ae.length).all (tB f.ae)=true:=iM.2 λj hj=>g2 j (mH.1 hj)
   rw[bP,xE] at q8;have hs:=vn g2;clear hTno bP g2;by_cases h5:(f.ae.getD 0 fN).id=0/\(f.ae.getD 0 fN).aM=true
   .obtain⟨h5,h6⟩:=h5;rw[dO h5,h6,xE,xE] at q8;(repeat' (first|refine' aX|((with_reducible apply WO.makeMap);intro bm _)|refine' ar|fail))
    all_goals try refine M0
    refine W.bH (λm l L=>∃(i b1 b5 b6 b7:Nat)(A:Acc),Le [(1,aP b1),(5,.map (some b5)),(6,.map (some b6)),(7,.map (some b7)),(94,.slice a f.ad.length c),(95,iv (f.ad.length:Int)),(96,iv (i:Int))] l/\cr [.box b1 (fT a c f.ad a' c' f.ae) 26 false,.fy b5 (CP A.li),.fy b6 (E1 A.jo),.fy b7 (E2 A.fo)] L/\m=f.ad.length-i/\i<=f.ad.length/\oC f.ad f.ae i A/\WX f.ad f.ae f.ad.length 0 ⟨[],[],[]⟩=WX f.ad f.ae (f.ad.length-i) i A)
     (λl L=>∃(b1 b5:Nat)(A:Acc),Le [(1,aP b1),(5,.map (some b5))] l/\cr [.box b1 (fT a c f.ad a' c' f.ae) 26 false,.fy b5 (CP A.li)] L/\WX f.ad f.ae f.ad.length 0 ⟨[],[],[]⟩=some A) _ ⟨0,_,_,_,_,⟨[],[],[]⟩,bd,aq,rfl,af,W1 _ _,rfl⟩ ?_ ?_
    .rintro m l L ⟨i,b1,b5,b6,b7,A,hl,hL,rfl,g1,g2,g3⟩;refine W.le ?_ hl hL;clear hl hL;by_cases hi:i<f.ad.length
     .rw[show f.ad.length-i=(f.ad.length-(i+1))+1 by omega,WX] at g3;have ji:=Lw g2;have QO:((i:Int)-1).toNat=i-1:=by omega
      have hpv:f.ad.getD (i-1) cz=(f.ad.getD ((i:Int)-1).toNat c9.lW):=by rw[QO]
      cases ht:nS f.ae (f.ad.getD i c9.lW).id with
      |none=>
       have e:ia f.ad f.ae i A=none:=by unfold ia;rw[ht]
       rw[e] at g3;rw[g3] at q8;rw[q8];refine ifA hf hr hs b1 b5 b6 b7 hi g2 ht _ (λl L h2=>?_);(repeat(first|(with_reducible refine j4 ?_)|(with_reducible refine j3 ?_)|(with_reducible refine iy ?_)));exact⟨by(first|exact .inl rfl|exact .inr rfl),_,[],by(apply pV.tmp;(focus(exact h2));exact pV.nil),cr.nil _,rfl,rfl⟩
      |some t=>
       by_cases h0:0<i
       .cases c1:bK (f.ad.getD ((i:Int)-1).toNat c9.lW).ag (f.ad.getD i c9.lW).ag with
        |false=>
         have e:ia f.ad f.ae i A=none:=by unfold ia;rw[ht];dsimp only;rw[hpv];exact if_pos ⟨h0,c1⟩
         rw[e] at g3;rw[g3] at q8;rw[q8];refine ifB1 hf hr hs b1 b5 b6 b7 hi g2 ht h0 c1 _ (λl L h2=>?_);(repeat(first|(with_reducible refine j4 ?_)|(with_reducible refine j3 ?_)|(with_reducible refine iy ?_)));exact⟨by(first|exact .inl rfl|exact .inr rfl),_,[],by(apply pV.tmp;(focus(exact h2));exact pV.nil),cr.nil _,rfl,rfl⟩
        |true=>
         cases c2:(bN A.fo (au (f.ad.getD i c9.lW).ag).1).getD false with
         |false=>
          have e:ia f.ad f.ae i A=none:=by unfold ia;rw[ht];dsimp only;rw[hpv,if_neg (λh=>by rw[c1] at h;cases h.2),if_pos h0];unfold iIn;rw[if_pos (.inl c2)]
          rw[e] at g3;rw[g3] at q8;rw[q8];refine ifB2 hf hr hs b1 b5 b6 b7 hi g2 ht h0 c1 c2 _ (λl L h2=>?_);(repeat(first|(with_reducible refine j4 ?_)|(with_reducible refine j3 ?_)|(with_reducible refine iy ?_)));exact⟨by(first|exact .inl rfl|exact .inr rfl),_,[],by(apply pV.tmp;(focus(exact h2));exact pV.nil),cr.nil _,rfl,rfl⟩
         |true=>
          cases c3:bT (au (f.ad.getD i c9.lW).ag).2 with
          |false=>
           have e:ia f.ad f.ae i A=none:=by unfold ia;rw[ht];dsimp only;rw[hpv,if_neg (λh=>by rw[c1] at h;cases h.2),if_pos h0];unfold iIn;rw[if_pos (.inr c3)]
           rw[e] at g3;rw[g3] at q8;rw[q8];refine ifB3 hf hr hs b1 b5 b6 b7 hi g2 ht h0 c1 c2 c3 _ (λl L h2=>?_);(repeat(first|(with_reducible refine j4 ?_)|(with_reducible refine j3 ?_)|(with_reducible refine iy ?_)));exact⟨by(first|exact .inl rfl|exact .inr rfl),_,[],by(apply pV.tmp;(focus(exact h2));exact pV.nil),cr.nil _,rfl,rfl⟩
          |true=>
           have c23:¬((bN A.fo (au (f.ad.getD i c9.lW).ag).1).getD false=false\/bT (au (f.ad.getD i c9.lW).ag).2=false):=by rw[c2,c3];decide
           by_cases c7:12<((bN (db A.jo (au (f.ad.getD i c9.lW).ag).1 ((bN A.jo (au (f.ad.getD i c9.lW).ag).1).getD 0+1)) (au (f.ad.getD i c9.lW).ag).1).getD 0)
           .skip
            have e:ia f.ad f.ae i A=none:=by unfold ia;rw[ht];dsimp only;rw[hpv,if_neg (λh=>by rw[c1] at h;cases h.2),if_pos h0];unfold iIn;rw[if_neg c23,if_pos c7]
            rw[e] at g3;rw[g3] at q8;rw[q8];refine ifB7 hf hr hs b1 b5 b6 b7 hi g2 ht h0 c1 c2 c3 c7 _ (λl L h2=>?_);(repeat(first|(with_reducible refine j4 ?_)|(with_reducible refine j3 ?_)|(with_reducible refine iy ?_)));exact⟨by(first|exact .inl rfl|exact .inr rfl),_,[],by(apply pV.tmp;(focus(exact h2));exact pV.nil),cr.nil _,rfl,rfl⟩
           .by_cases c4:9<((bN (db A.li (f.ad.getD i c9.lW).id ((bN A.li (f.ad.getD i c9.lW).id).getD 0+1)) (f.ad.getD i c9.lW).id).getD 0)
            .skip
             have e:ia f.ad f.ae i A=none:=by unfold ia;rw[ht];dsimp only;rw[hpv,if_neg (λh=>by rw[c1] at h;cases h.2),if_pos h0];unfold iIn;rw[if_neg c23,if_neg c7];dsimp only;unfold uL;exact if_pos (.inl c4)
             rw[e] at g3;rw[g3] at q8;rw[q8];refine ifB4 hf hr hs b1 b5 b6 b7 hi g2 ht h0 c1 c2 c3 c7 c4 _ (λl L h2=>?_);(repeat(first|(with_reducible refine j4 ?_)|(with_reducible refine j3 ?_)|(with_reducible refine iy ?_)));exact⟨by(first|exact .inl rfl|exact .inr rfl),_,[],by(apply pV.tmp;(focus(exact h2));exact pV.nil),cr.nil _,rfl,rfl⟩
            .cases c5:(f.ae.getD t c9.lW).aM with
             |true=>
              refine' zaZ
              .skip
               have e:ia f.ad f.ae i A=none:=by unfold ia;rw[ht];dsimp only;rw[hpv,if_neg (λh=>by rw[c1] at h;cases h.2),if_pos h0];unfold iIn;rw[if_neg c23,if_neg c7];dsimp only;unfold uL;exact if_pos (.inr ⟨c5,c6⟩)
               rw[e] at g3;rw[g3] at q8;rw[q8];refine ifB6 hf hr hs b1 b5 b6 b7 hi g2 ht h0 c1 c2 c3 c7 c4 c5 c6 _ (λl L h2=>?_);(repeat(first|(with_reducible refine j4 ?_)|(with_reducible refine j3 ?_)|(with_reducible refine iy ?_)));exact⟨by(first|exact .inl rfl|exact .inr rfl),_,[],by(apply pV.tmp;(focus(exact h2));exact pV.nil),cr.nil _,rfl,rfl⟩
              .skip
               have e:ia f.ad f.ae i A=some ⟨(db A.li (f.ad.getD i c9.lW).id ((bN A.li (f.ad.getD i c9.lW).id).getD 0+1)),(db A.jo (au (f.ad.getD i c9.lW).ag).1 ((bN A.jo (au (f.ad.getD i c9.lW).ag).1).getD 0+1)),(db A.fo (f.ad.getD i c9.lW).ag (f.ae.getD t c9.lW).aM)⟩:=by unfold ia;rw[ht];dsimp only;rw[hpv,if_neg (λh=>by rw[c1] at h;cases h.2),if_pos h0];unfold iIn;rw[if_neg c23,if_neg c7];dsimp only;unfold uL;rw[if_neg (by rintro(h|h)<;>first|exact c4 h|exact c6 h.2)]
               refine' zan
               rw[e] at g3;refine ifBok1 hf hr hs b1 b5 b6 b7 hi g2 ht h0 c1 c2 c3 c7 c4 c5 c6 _ (λl L hl hL=>?_);(repeat(first|(with_reducible refine aj ?_)|(with_reducible refine cP ?_)|(with_reducible refine dC ?_)))
               refine' zav
             |false=>
              have e:ia f.ad f.ae i A=some ⟨(db A.li (f.ad.getD i c9.lW).id ((bN A.li (f.ad.getD i c9.lW).id).getD 0+1)),(db A.jo (au (f.ad.getD i c9.lW).ag).1 ((bN A.jo (au (f.ad.getD i c9.lW).ag).1).getD 0+1)),(db A.fo (f.ad.getD i c9.lW).ag (f.ae.getD t c9.lW).aM)⟩:=by unfold ia;rw[ht];dsimp only;rw[hpv,if_neg (λh=>by rw[c1] at h;cases h.2),if_pos h0];unfold iIn;rw[if_neg c23,if_neg c7];dsimp only;unfold uL;rw[if_neg (by rintro(h|h)<;>first|exact c4 h|(rw[show(f.ae.getD t fN).aM=false from c5] at h;cases h.1))]
              refine' zan
              rw[e] at g3;refine ifBok2 hf hr hs b1 b5 b6 b7 hi g2 ht h0 c1 c2 c3 c7 c4 c5 _ (λl L hl hL=>?_);(repeat(first|(with_reducible refine aj ?_)|(with_reducible refine cP ?_)|(with_reducible refine dC ?_)))
              refine' zav
       .by_cases c4:9<((bN (db A.li (f.ad.getD i c9.lW).id ((bN A.li (f.ad.getD i c9.lW).id).getD 0+1)) (f.ad.getD i c9.lW).id).getD 0)
        .skip
         have e:ia f.ad f.ae i A=none:=by unfold ia;rw[ht];dsimp only;rw[if_neg (λh=>h0 h.1),if_neg h0];dsimp only;unfold uL;exact if_pos (.inl c4)
         rw[e] at g3;rw[g3] at q8;rw[q8];refine ifC4 hf hr hs b1 b5 b6 b7 hi g2 ht h0 c4 _ (λl L h2=>?_);(repeat(first|(with_reducible refine j4 ?_)|(with_reducible refine j3 ?_)|(with_reducible refine iy ?_)));exact⟨by(first|exact .inl rfl|exact .inr rfl),_,[],by(apply pV.tmp;(focus(exact h2));exact pV.nil),cr.nil _,rfl,rfl⟩
        .cases c5:(f.ae.getD t c9.lW).aM with
         |true=>
          refine' zaZ
          .skip
           have e:ia f.ad f.ae i A=none:=by unfold ia;rw[ht];dsimp only;rw[if_neg (λh=>h0 h.1),if_neg h0];dsimp only;unfold uL;exact if_pos (.inr ⟨c5,c6⟩)
           rw[e] at g3;rw[g3] at q8;rw[q8];refine ifC6 hf hr hs b1 b5 b6 b7 hi g2 ht h0 c4 c5 c6 _ (λl L h2=>?_);(repeat(first|(with_reducible refine j4 ?_)|(with_reducible refine j3 ?_)|(with_reducible refine iy ?_)));exact⟨by(first|exact .inl rfl|exact .inr rfl),_,[],by(apply pV.tmp;(focus(exact h2));exact pV.nil),cr.nil _,rfl,rfl⟩
          .skip
           have e:ia f.ad f.ae i A=some ⟨(db A.li (f.ad.getD i c9.lW).id ((bN A.li (f.ad.getD i c9.lW).id).getD 0+1)),A.jo,(db A.fo (f.ad.getD i c9.lW).ag (f.ae.getD t c9.lW).aM)⟩:=by unfold ia;rw[ht];dsimp only;rw[if_neg (λh=>h0 h.1),if_neg h0];dsimp only;unfold uL;rw[if_neg (by rintro(h|h)<;>first|exact c4 h|exact c6 h.2)]
           refine' zau
           rw[e] at g3;refine ifCok1 hf hr hs b1 b5 b6 b7 hi g2 ht h0 c4 c5 c6 _ (λl L hl hL=>?_);(repeat(first|(with_reducible refine aj ?_)|(with_reducible refine cP ?_)|(with_reducible refine dC ?_)))
           refine' zaF
         |false=>
          have e:ia f.ad f.ae i A=some ⟨(db A.li (f.ad.getD i c9.lW).id ((bN A.li (f.ad.getD i c9.lW).id).getD 0+1)),A.jo,(db A.fo (f.ad.getD i c9.lW).ag (f.ae.getD t c9.lW).aM)⟩:=by unfold ia;rw[ht];dsimp only;rw[if_neg (λh=>h0 h.1),if_neg h0];dsimp only;unfold uL;rw[if_neg (by rintro(h|h)<;>first|exact c4 h|(rw[show(f.ae.getD t fN).aM=false from c5] at h;cases h.1))]
          refine' zau
          rw[e] at g3;refine ifCok2 hf hr hs b1 b5 b6 b7 hi g2 ht h0 c4 c5 _ (λl L hl hL=>?_);(repeat(first|(with_reducible refine aj ?_)|(with_reducible refine cP ?_)|(with_reducible refine dC ?_)))
          refine' zaF
     .have fG:i=f.ad.length:=by omega
      subst fG;rw[B0,WX] at g3;(refine' cO)
      all_goals try refine ry
      all_goals exact⟨b1,b5,A,bd,aq,g3⟩
    .rintro l L ⟨b1,b5,A,hl,hL,g3⟩;(repeat(first|(with_reducible refine aj ?_)|(with_reducible refine cP ?_)|(with_reducible refine dC ?_)))
     refine W.le ?_ hl hL;clear hl hL;rw[g3] at q8;(repeat' (first|refine' aX|((with_reducible apply WO.lenII);exact gO;exact rl;intro _)|refine' ar|fail))
     all_goals(refine⟨by(first|exact .inl rfl|exact .inr rfl),_,[],bj,cr.nil _,?_,rfl⟩;rw[q8];refine gb Value.bool ?_;show decide _=decide _;rw[FF];omega)
   .have xZ:T2 f=false:=by
     rw[q8];by_cases e1:(f.ae.getD 0 fN).id=0
     .cases e2:(f.ae.getD 0 fN).aM with
      |false=>rw[dO e1];rfl
      |true=>exact absurd ⟨e1,e2⟩ h5
     .rw[iO e1];rfl
    rw[xZ];(repeat' (first|refine' aX|((with_reducible apply WO.makeMap);intro bm _)|refine' ar|fail))
    all_goals first
      |(exfalso;omega;done)
      |contradiction
      |(refine⟨by(first|exact .inl rfl|exact .inr rfl),_,[],bj,cr.nil _,?_,rfl⟩;rfl)
      |(exfalso;refine h5 ⟨by first|assumption|omega,by first|assumption|(simp_all;done)⟩)
 .have xZ:T2 f=false:=by
   rw[q8];cases e1:fR f.ae.length 1 16 with
   |false=>rfl
   |true=>
    by_cases e2:f.ad.length≠0
    .by_cases e3:f.ad.getD 0 cz=⟨[47],0⟩
     .exact absurd ⟨e1,e2,e3⟩ h0
     .rw[iO e3];simp
    .rw[iO e2];simp
  rw[xZ];clear q8;refine aO f12 ?_;(repeat' (first|refine' aX|refine' Sb|refine' Qe|refine' ar|fail))
  all_goals first
   |(exfalso;omega;done)
   |contradiction
   |(refine⟨by(first|exact .inl rfl|exact .inr rfl),_,[],bj,cr.nil _,?_,rfl⟩;rfl)
   |(exfalso;refine h0 ⟨by unfold fR;simp;omega,af,by assumption⟩)
end Go.Pl
namespace Go.Pl
open Go.Lg
variable {f:Flat}{i j k:Nat}{z:ay}
theorem kz.sn (h:kz f):kq f.ad:=by
 refine Ar.2 λi j hi hj qp=>?_
 have:=WZ (λj h1 hj=>((h.nm j hj).2.1 h1).1) (j-i-1) i af;rw[show i+(j-i-1)+1=j by omega,aY,bk hi,aY,bk hj] at this;exact this
theorem kz.st (h:kz f):eB f.ae:=vn h.tb
theorem kz.n1 (h:kz f):0<f.ad.length:=by have:=h.n0;omega
theorem kz.q1 (h:kz f):0<f.ae.length:=by have:=h.tl;unfold fR at this;simp at this;omega
theorem kz.q16 (h:kz f):f.ae.length<=16:=by have:=h.tl;unfold fR at this;simp at this;omega
theorem kz.Ek (h:kz f)(hi:i<f.ad.length):uJ f.ad (f.ad.getD i cz).ag=some i:=by
 refine mj (d:=cz) hi (by simp) λj hj e=>?_
 rw[cl] at e;exact mU (qd h.sn cz hj hi) e
theorem kz.Fk (_h:kz f)(hz:uJ f.ad z=some i):i<f.ad.length/\(f.ad.getD i cz).ag=z:=by
 obtain⟨h1,h2,_⟩:=nq.1 hz;refine⟨h1,?_⟩;rw[aY,bk h1];simpa using h2
theorem kz.idr (h:kz f)(hi:i<f.ad.length):0<=(f.ad.getD i cz).id/\(f.ad.getD i cz).id<=15:=by
 obtain⟨t,ht⟩:=kB.1 (h.nm i hi).1;obtain⟨h1,h2⟩:=DI ht;have:=h.tb t h1;unfold tB fR at this;simp only[cv,cl] at this;rw[<-h2];exact this.1.1.1
theorem kz.qk (_h:kz f)(hz:uJ f.ad z=some i):eC f.ad z=(f.ad.getD i cz).id:=by unfold eC;rw[hz]
theorem kz.ld0 (h:kz f)(z:ay):0<=eC f.ad z↔(uJ f.ad z).isSome=true:=by
 unfold eC;cases hz:uJ f.ad z with
 |none=>simp
 |some i=>have:=h.idr (h.Fk hz).1;simp;exact this.1
theorem kz.Ag (h:kz f)(z:ay):eC f.ad z<0↔uJ f.ad z=none:=by
 have:=h.ld0 z;cases hz:uJ f.ad z with
 |none=>rw[hz] at this;simp at this;simp;exact this
 |some i=>rw[hz] at this;simp at this;simp;exact this
theorem kz.fld (_h:kz f):jD f.ae (f.ad.getD i cz).id=uM f.ad f.ae i:=rfl
theorem kz.uniq (h:kz f)(hi:i<f.ad.length)(hj:j<f.ad.length)(hid:(f.ad.getD i cz).id=(f.ad.getD j cz).id)(hf:uM f.ad f.ae i=true):i=j:=by
 have key:∀a b,a<b->b<f.ad.length->(f.ad.getD a cz).id=(f.ad.getD b cz).id->uM f.ad f.ae b=true->False:=λa b lT hb hid hf=>by
  have h1:=(h.nm b hb).2.2.2 hf;rw[te,if_pos rfl] at h1;have:=W6 lT hid;omega
 have hfj:uM f.ad f.ae j=true:=by unfold uM at hf⊢;rw[<-hid];exact hf
 rcases JE i j with dA|heq|dA
 .exact(key i j dA hj hid hfj).elim
 .exact heq
 .exact(key j i dA hi hid.symm hf).elim
theorem kz.fb0 (h:kz f):uM f.ad f.ae 0=true:=by
 unfold uM;rw[h.nr];show(match nS f.ae 0 with|none=>false|some t=>(f.ae.getD t fN).aM)=true;have:=DJ h.st h.q1;rw[h.t0] at this;rw[this];exact h.tf
theorem kz.cC (h:kz f):uJ f.ad [47]=some 0:=by
 have:=h.Ek h.n1
 rwa [h.nr] at this
theorem kz.Jg (h:kz f)(hz:uJ f.ad z=some i):eC f.ad z=0↔z=[47]:=by
 rw[h.qk hz];obtain⟨hi,hp⟩:=h.Fk hz;constructor
 .intro h0;have:=h.uniq h.n1 hi (by rw[h0,h.nr]) h.fb0;subst this;rw[<-hp,h.nr]
 .intro e;subst e;rw[h.cC] at hz;cases hz
  rw[h.nr]
theorem kz.par (h:kz f)(h1:1<=j)(hj:j<f.ad.length):∃m,m<j/\uJ f.ad (au (f.ad.getD j cz).ag).1=some m/\uM f.ad f.ae m=true/\(f.ad.getD m cz).ag=(au (f.ad.getD j cz).ag).1:=by
 obtain⟨_,⟨m,hm,hp,hf⟩,_⟩:=(h.nm j hj).2.1 h1;exact⟨m,hm,by rw[<-hp];exact h.Ek af,hf,hp⟩
theorem kz.inEq (h:kz f)(z:ay):f.nw z=cN f.ad f.ad.length z:=by
 rw[W5];unfold Flat.nw;refine Ps λx hx=>?_
 obtain⟨j,hj,rfl⟩:=l5 hx;rw[List.length_tail] at hj;have:=vo ((h.nm (j+1) af).2.1 af).2.2.1;rw[aY,bk af] at this;have e:f.ad.tail[j]=f.ad[j+1]:=List.getElem_tail _;rw[e];have this:aK f.ad[j+1].ag=au f.ad[j+1].ag:=this;rw[this]
theorem kz.enEq (h:kz f)(hk:k<f.ad.length):Oq f.ad (f.ad.getD k cz).id=f.nw (f.ad.getD k cz).ag:=by
 rw[h.inEq];unfold Oq cN;rw[<-pA (inJ f.ad (f.ad.getD k cz).id) cz f.ad];refine Ps λj hj=>?_
 have hj:=mH.1 hj;unfold inJ;by_cases h0:j=0
 .subst h0;rw[h.nr];simp[au,eZ]
 .obtain⟨m,hm,Fc,hfm,hpm⟩:=h.par (show 1<=j by omega) hj;have xZ:=((h.nm j hj).2.1 af).2.2.1;have gx:(au (f.ad.getD j cz).ag).2≠[]:=λe=>by rw[e] at xZ;cases xZ
  rw[h.qk Fc,dO gx,dO (show 1<=j by omega),xE,xE,cl,cl,<-hpm];constructor
  .intro e;rw[h.uniq af hk e hfm]
  .intro e;have h1:=h.Ek (show m<f.ad.length by omega);rw[e,h.Ek hk] at h1;cases h1;rfl
theorem kz.file0 (h:kz f)(hk:k<f.ad.length)(hf:uM f.ad f.ae k=false):f.nw (f.ad.getD k cz).ag=0:=by
 rw[h.inEq];unfold cN;rw[Ao];intro j hj e;have hj:=mH.1 hj;rw[cv,cl,cl] at e;obtain⟨m,hm,Fc,hfm,hpm⟩:=h.par e.1 hj;have h1:=h.Ek (show m<f.ad.length by omega);rw[hpm,e.2,h.Ek hk] at h1;cases h1
 rw[hf] at hfm;cases hfm
theorem kz.fdEq (_h:kz f):f.gX (f.ad.getD i cz).id=uM f.ad f.ae i:=(IQ f i).symm
theorem HA (f:Flat):∀(n k:Nat),(∀j,j<k->(f.cD (j:Int)).isSome=true)->∀j,j<f.yb n k->(f.cD (j:Int)).isSome=true
 |0,k,h,j,hj=>h j hj
 |n+1,k,h,j,hj=>by
  have e:f.yb (n+1) k=if(f.cD (k:Int)).isSome then f.yb n (k+1) else k:=rfl
  rw[e] at hj;by_cases hk:(f.cD (k:Int)).isSome=true
  .rw[if_pos hk] at hj;refine HA f n (k+1) (λj hj=>?_) j hj;by_cases hjk:j=k
   .rw[hjk];exact hk
   .exact h j af
  .rw[if_neg hk] at hj;exact h j hj
theorem Ye (f:Flat):∃k:Nat,k<=f.ae.length/\f.cD (k:Int)=none:=by
 refine' zaA
 have:=pB ((List.range (f.ae.length+1)).map λ(k:Nat)=>(k:Int)) (f.ae.map bU.id) (by
  rw[FH,FI];exact(List.nodup_range).imp λ{a b} gx he=>gx af) (λx hx=>by
  obtain⟨k,hk,rfl⟩:=n9.1 hx;obtain⟨y,hy,he⟩:=h' k (by have:=mH.1 hk;omega);exact n9.2 ⟨y,hy,he⟩)
 rw[vL,vL,JP] at this;omega
theorem HB (f:Flat):∀(m id:Nat),(∃k:Nat,id<=k/\k<id+m/\f.cD (k:Int)=none)->f.cD (f.yb m id:Nat)=none/\f.yb m id<id+m
 |0,id,⟨k,h1,h2,h3⟩=>by omega
 |m+1,id,⟨k,h1,h2,h3⟩=>by
  have e:f.yb (m+1) id=if(f.cD (id:Int)).isSome then f.yb m (id+1) else id:=rfl
  rw[e];cases hz:f.cD (id:Int) with
  |none=>rw[if_neg (by decide)];exact⟨hz,af⟩
  |some j=>
   rw[if_pos (show(some j).isSome=true from rfl)];have:=HB f m (id+1) ⟨k,by
    have:k≠id:=λe=>by rw[e,hz] at h3;cases h3
    omega,af,h3⟩
   exact⟨this.1,af⟩
theorem sB (f:Flat):f.cD (f.bI:Nat)=none/\f.bI<=f.ae.length/\∀j,j<f.bI->(f.cD (j:Int)).isSome=true:=by
 obtain⟨k,h1,h2⟩:=Ye f;have:=HB f (f.ae.length+1) 0 ⟨k,af,af,h2⟩;exact⟨this.1,by have:=this.2;unfold Flat.bI;omega,HA f _ 0 λj hj=>by omega⟩
theorem MH (f:Flat):∀(n k:Nat),k<=f.bI->zp f.ae n k=if f.bI<k+n then(f.bI:Int) else -1
 |0,k,hk=>by rw[if_neg af];rfl
 |n+1,k,hk=>by
  obtain⟨h1,h2,h3⟩:=sB f;have e:zp f.ae (n+1) k=if(nS f.ae (k:Int)).isNone then(k:Int) else zp f.ae n (k+1):=rfl
  rw[e];by_cases hkf:k=f.bI
  .have:(nS f.ae (k:Int)).isNone=true:=by rw[hkf];show(f.cD (f.bI:Nat)).isNone=true;rw[h1];rfl
   rw[if_pos this,if_pos af,hkf]
  .have:¬(nS f.ae (k:Int)).isNone=true:=by
    have:=h3 k af;rw[show f.cD (k:Int)=nS f.ae (k:Int) from rfl] at this;intro e;cases hh:nS f.ae (k:Int)<;>rw[hh] at this e<;>simp at this e
   rw[if_neg this,MH f n (k+1) af,show k+1+n=k+(n+1) by omega]
theorem rm16 (f:Flat):zp f.ae 16 0=if f.bI<16 then(f.bI:Int) else -1:=by
 rw[MH f 16 0 (jG _),ni]
end Go.Pl
namespace Go.Pl
open Go.Lg
variable {f:Flat}{z:ay}
theorem xr (hk:uJ f.ad (aK z).1=none):f.bD z=if z=[47] then 3 else 2:=by
 unfold Flat.bD;rw[show f.dt (aK z).1=none from hk]
theorem tu {k:Nat}(hk:uJ f.ad (aK z).1=some k):f.bD z=if z=[47] then 3 else if uM f.ad f.ae k=false then 4 else if(uJ f.ad z).isSome=true then 3 else 0:=by
 unfold Flat.bD;rw[show f.dt (aK z).1=some k from hk];show(if z=[47] then 3 else if(!f.gX (f.ad.getD k cz).id)=true then 4 else if(f.dt z).isSome=true then 3 else 0)=_;rw[show f.gX (f.ad.getD k cz).id=uM f.ad f.ae k from(IQ f k).symm];cases uM f.ad f.ae k<;>rfl
theorem qm (h:¬0<f.bD z):uJ f.ad z=none/\z≠[47]/\∃k,uJ f.ad (aK z).1=some k/\uM f.ad f.ae k=true:=by
 cases hk:uJ f.ad (aK z).1 with
 |none=>
  rw[xr hk] at h;split at h<;>exact absurd (by decide) h
 |some k=>
  rw[tu hk] at h;by_cases h1:z=[47]
  .rw[if_pos h1] at h;exact absurd (by decide) h
  .rw[if_neg h1] at h;cases h2:uM f.ad f.ae k with
   |false=>rw[if_pos h2] at h;exact absurd (by decide) h
   |true=>
    rw[if_neg (by rw[h2];decide)] at h;cases h3:uJ f.ad z with
    |some m=>rw[h3,if_pos (show(some m).isSome=true from rfl)] at h;exact absurd (by decide) h
    |none=>exact⟨rfl,h1,k,rfl,h2⟩
theorem xu (hz:bf z=true)(h1:z≠[47]):Ev.c8 z=(aK z).1:=if_pos ⟨hz,h1⟩
theorem El (h:kz f)(hz:bf z=true)(cK:Bool):uO f.ad f.ae z cK=if 0<f.bD z then f.bD z else if cK=true\/12<=f.nw (aK z).1 then 6 else 0:=by
 unfold uO;by_cases h1:z=[47]
 .subst h1;have:f.bD [47]=3:=by rw[tu (k:=0) h.cC,if_pos rfl]
  rw[if_pos rfl,this];rfl
 rw[if_neg h1,xu hz h1];cases hk:uJ f.ad (aK z).1 with
 |none=>
  rw[if_pos ((h.Ag _).2 hk),xr hk,if_neg h1];rfl
 |some k=>
  have N7:=h.Fk hk;rw[if_neg (λe=>by rw[(h.Ag _).1 e] at hk;cases hk),h.qk hk,h.fld,tu hk,if_neg h1];cases h2:uM f.ad f.ae k with
  |false=>rw[if_pos rfl,if_pos rfl];rfl
  |true=>
   rw[if_neg (show ¬(true=false) by decide),if_neg (show ¬(true=false) by decide)];cases h3:uJ f.ad z with
   |some m=>
    rw[if_pos ((h.ld0 z).2 (by rw[h3];rfl)),if_pos (show(some m).isSome=true from rfl)];rfl
   |none=>
    have hn:¬0<=eC f.ad z:=λe=>by have:=(h.ld0 z).1 e;rw[h3] at this;cases this
    rw[if_neg hn,if_neg (show ¬(none:Option Nat).isSome=true from jL),h.enEq N7.1,N7.2];rfl
theorem uY (h:uJ f.ad z=none):∀y∈f.ad,y.ag≠z:=λy hy e=>by
 have:=Ap.1 h y hy;rw[lD] at this;exact this e
theorem zh {n:Int}(h:nS f.ae n=none):∀y∈f.ae,y.id≠n:=λy hy e=>by
 have:=Ap.1 h y hy;rw[lD] at this;exact this e
theorem make_eq (h:kz f)(hz:bf z=true)(fo:Bool):f.make z fo=if uO f.ad f.ae z (decide (zp f.ae 16 0<0))=0 then(⟨Ev.iF (f.ad++[⟨z,zp f.ae 16 0⟩]),Ev.ja (f.ae++[⟨zp f.ae 16 0,fo,[]⟩])⟩,0) else(f,uO f.ad f.ae z (decide (zp f.ae 16 0<0))):=by
 rw[El h hz];unfold Flat.make;by_cases h0:0<f.bD z
 .rw[if_pos h0,if_pos h0,if_neg af]
 rw[if_neg h0,if_neg h0];obtain⟨h1,h2,k,h3,h4⟩:=qm h0;obtain⟨g1,g2,g3⟩:=sB f;have hr:=rm16 f;show(if 16<=f.bI\/12<=f.nw (aK z).1 then(f,(6:Int)) else(Flat.add ⟨f.ad,Flat.nL f.ae ⟨f.bI,fo,[]⟩⟩ z f.bI,0))=_;by_cases h5:f.bI<16
 .rw[if_pos h5] at hr;rw[hr,show decide ((f.bI:Int)<0)=false by rw[lD];omega];by_cases h6:12<=f.nw (aK z).1
  .have a1:(if false=true\/12<=f.nw (aK z).1 then(6:Int) else 0)=6:=if_pos (.inr h6);rw[if_pos (show 16<=f.bI\/12<=f.nw (aK z).1 from .inr h6),a1,if_neg (by decide)]
  .have a1:(if false=true\/12<=f.nw (aK z).1 then(6:Int) else 0)=0:=if_neg (by rintro(e|e)<;>first|cases e|exact h6 e);rw[if_neg (show ¬(16<=f.bI\/12<=f.nw (aK z).1) by omega),a1,if_pos rfl,xa h.sn (uY h1),DN h.st (zh (n:=(f.bI:Int)) g1)];rfl
 .rw[if_neg h5] at hr;have a1:(if decide ((-1:Int)<0)=true\/12<=f.nw (aK z).1 then(6:Int) else 0)=6:=if_pos (.inl (by decide));rw[hr,if_pos (show 16<=f.bI\/12<=f.nw (aK z).1 from .inl af),a1,if_neg (by decide)]
theorem link_eq (h:kz f){z y:ay}(hy:bf y=true):f.link z y=if eC f.ad z<0 then(f,2) else if jD f.ae (eC f.ad z)=true then(f,4) else if uO f.ad f.ae y (decide (9<=zo f.ad (eC f.ad z)))=0 then(⟨Ev.iF (f.ad++[⟨y,eC f.ad z⟩]),Ev.ja f.ae⟩,0) else(f,uO f.ad f.ae y (decide (9<=zo f.ad (eC f.ad z)))):=by
 rw[El h hy];unfold Flat.link;cases hk:uJ f.ad z with
 |none=>
  rw[show f.dt z=none from hk,if_pos ((h.Ag _).2 hk)]
 |some k=>
  rw[show f.dt z=some k from hk,if_neg (λe=>by rw[(h.Ag _).1 e] at hk;cases hk),h.qk hk,h.fld];show(if f.gX (f.ad.getD k cz).id=true then(f,(4:Int)) else if 0<f.bD y then(f,f.bD y) else if 9<=f.many (f.ad.getD k cz).id\/12<=f.nw (aK y).1 then(f,6) else(f.add y (f.ad.getD k cz).id,0))=_;rw[h.fdEq];by_cases h1:uM f.ad f.ae k=true
  .rw[if_pos h1,if_pos h1]
  rw[if_neg h1,if_neg h1];by_cases h0:0<f.bD y
  .rw[if_pos h0,if_pos h0,if_neg af]
  rw[if_neg h0,if_neg h0];obtain⟨g1,_⟩:=qm h0;show(if 9<=zo f.ad (f.ad.getD k cz).id\/12<=f.nw (aK y).1 then _ else _)=_;by_cases h6:9<=zo f.ad (f.ad.getD k cz).id\/12<=f.nw (aK y).1
  .have h6':decide (9<=zo f.ad (f.ad.getD k cz).id)=true\/12<=f.nw (aK y).1:=by rw[cl];exact h6
   have a1:(if decide (9<=zo f.ad (f.ad.getD k cz).id)=true\/12<=f.nw (aK y).1 then(6:Int) else 0)=6:=if_pos h6';rw[if_pos h6,a1,if_neg (by decide)]
  .have h6':¬(decide (9<=zo f.ad (f.ad.getD k cz).id)=true\/12<=f.nw (aK y).1):=by rw[cl];exact h6
   have a1:(if decide (9<=zo f.ad (f.ad.getD k cz).id)=true\/12<=f.nw (aK y).1 then(6:Int) else 0)=0:=if_neg h6';rw[if_neg h6,a1,if_pos rfl,xa h.sn (uY g1),qg h.st];rfl
theorem HC {l m:dx}(h:kq l)(hs:m.Sublist l):kq m:=List.Pairwise.sublist hs h
theorem HD {l m:eV}(h:eB l)(hs:m.Sublist l):eB m:=List.Pairwise.sublist hs h
theorem drop_th {q:eV}(hs:eB q){n:Int}{x:Nat}(hx:nS q n=some x):q.filter (λy=>!decide (y.id=n))=q.take x++q.drop (x+1):=by
 obtain⟨h1,h2⟩:=DI hx;have oS:q=q.take x++q.getD x fN::q.drop (x+1):=by
  rw[aY,bk h1];show q=q.take x++q[x]::q.drop (x+1);rw[<-xH h1,zq]
 have gx:∀j,j<q.length->j≠x->(q.getD j fN).id≠n:=λj hj hjx e=>by
  have:=DJ hs hj;rw[e,hx] at this;cases this;exact hjx rfl
 have e1:(q.take x).filter (λy=>!decide (y.id=n))=q.take x:=B7.2 λy hy=>by
  obtain⟨j,hj,rfl⟩:=l5 hy;rw[dg] at hj;have:=gx j af af;rw[aY,bk af] at this;rw[List.getElem_take];simpa using this
 have e2:(q.drop (x+1)).filter (λy=>!decide (y.id=n))=q.drop (x+1):=B7.2 λy hy=>by
  obtain⟨j,hj,rfl⟩:=l5 hy;rw[gp] at hj;have:=gx (x+1+j) af af;rw[aY,bk af] at this;rw[List.getElem_drop];simpa using this
 have e3:q.filter (λy=>!decide (y.id=n))=(q.take x++q.getD x fN::q.drop (x+1)).filter (λy=>!decide (y.id=n)):=gb _ oS;rw[e3,pI,tz,e1,e2,if_neg (by rw[h2];simp)]
theorem Yf (h:kz f):f.dX z=if eC f.ad z<0 then(f,2) else if eC f.ad z=0\/(jD f.ae (eC f.ad z)=true/\0<Oq f.ad (eC f.ad z)) then(f,5) else(⟨Ev.iF (DK f.ad f.ae z (eC f.ad z)).1,Ev.ja (DK f.ad f.ae z (eC f.ad z)).2⟩,0):=by
 unfold Flat.dX;cases hk:uJ f.ad z with
 |none=>
  rw[show f.dt z=none from hk,if_pos ((h.Ag _).2 hk)]
 |some k=>
  obtain⟨N7,L7⟩:=h.Fk hk;rw[show f.dt z=some k from hk,if_neg (λe=>by rw[(h.Ag _).1 e] at hk;cases hk)];have P2:=h.qk hk;obtain⟨x,hx⟩:=kB.1 (h.nm k N7).1;show(if z=[47]\/0<f.nw z then(f,(5:Int)) else if(f.less z).many (f.ad.getD k cz).id=0 then(match(f.less z).cD (f.ad.getD k cz).id with
   |none=>(f.less z,0)
   |some x=>(⟨(f.less z).ad,(f.less z).ae.take x++(f.less z).ae.drop (x+1)⟩,0)) else(f.less z,0))=_
  have hf0:=h.file0 N7;rw[L7] at hf0;have SU:(f.ad.filter λx=>decide (x.ag≠z))=f.ad.filter λx=>!decide (x.ag=z):=by
   congr 1;funext y;simp
  have tP:=HC h.sn (FC (p:=λx=>!decide (x.ag=z)));have hC:(eC f.ad z=0\/(jD f.ae (eC f.ad z)=true/\0<Oq f.ad (eC f.ad z)))↔(z=[47]\/0<f.nw z):=by
   rw[h.Jg hk,P2,h.fld,h.enEq N7,L7];constructor
   .rintro(h1|h1)
    .exact .inl h1
    .exact .inr h1.2
   .rintro(h1|h1)
    .exact .inl h1
    .refine .inr ⟨?_,h1⟩;cases hb:uM f.ad f.ae k with
     |true=>rfl
     |false=>rw[hf0 hb] at h1;omega
  by_cases h1:z=[47]\/0<f.nw z
  .rw[if_pos h1,if_pos (hC.2 h1)]
  .rw[if_neg h1,if_neg (λe=>h1 (hC.1 e)),P2];unfold DK;dsimp only;rw[yR tP];show(if zo (f.ad.filter λx=>decide (x.ag≠z)) (f.ad.getD k cz).id=0 then(match nS f.ae (f.ad.getD k cz).id with
    |none=>_
    |some x=>_) else _)=_
   rw[hx,SU];unfold Flat.less;rw[SU];by_cases h2:zo (f.ad.filter λx=>!decide (x.ag=z)) (f.ad.getD k cz).id=0
   .rw[if_pos h2,if_pos h2,qg (HD h.st FC),drop_th h.st hx]
   .rw[if_neg h2,if_neg h2,qg h.st]
end Go.Pl
namespace Go.Pl
open Go.Lg
variable {f:Flat}{y z:ay}
theorem QP:∀n:Nat,Ev.yf [0] n=List.replicate n 0
 |0=>rfl
 |n+1=>by
  show [0]++Ev.yf [0] n=_;rw[QP n,List.replicate_succ];rfl
theorem QQ (t:ay)(n:Int):W8 t n=t++List.replicate (n-t.length).toNat 0:=by
 unfold W8;rw[QP,show(max 0 (n-(t.length:Int))).toNat=(n-(t.length:Int)).toNat by omega]
theorem ctJ_eq (t:ay)(a:Int):ctJ a t=(t++hZ (a-t.length)).take a.toNat:=by
 unfold ctJ;rw[QQ];rfl
theorem wrJ_eq (t x:ay)(a:Nat):wrJ (a:Int) x t=gg t a x:=by
 unfold wrJ gg;rw[QQ];show _=(t++List.replicate ((a:Int)-(t.length:Int)).toNat 0).take a++x++(t++List.replicate ((a:Int)-(t.length:Int)).toNat 0).drop (min (t++List.replicate ((a:Int)-(t.length:Int)).toNat 0).length (a+x.length));have e1:(t++List.replicate ((a:Int)+(x.length:Int)-(t.length:Int)).toNat 0).take (a:Int).toNat=(t++List.replicate ((a:Int)-(t.length:Int)).toNat 0).take a:=by
  rw[B2,B2,List.take_replicate,List.take_replicate];rw[show(a:Int).toNat=a from rfl,show min (a-t.length) ((a:Int)+(x.length:Int)-(t.length:Int)).toNat=min (a-t.length) ((a:Int)-(t.length:Int)).toNat by omega]
 have e2:(t++List.replicate ((a:Int)+(x.length:Int)-(t.length:Int)).toNat 0).drop ((a:Int).toNat+x.length)=(t++List.replicate ((a:Int)-(t.length:Int)).toNat 0).drop (min (t++List.replicate ((a:Int)-(t.length:Int)).toNat 0).length (a+x.length)):=by
  rw[show(a:Int).toNat=a from rfl];by_cases h:a+x.length<=t.length
  .rw[show((a:Int)+(x.length:Int)-(t.length:Int)).toNat=0 by omega,show((a:Int)-(t.length:Int)).toNat=0 by omega];simp only[List.replicate_zero,iH];rw[Nat.min_eq_right h]
  .rw[zt (by rw[bR,rC];omega),zt];rw[bR,rC];omega
 rw[e1,e2]
theorem HE {q:eV}(hs:eB q){x:Nat}{y:bU}(hy:y.id=(q.getD x fN).id):eB (q.set x y):=by
 refine Ar.2 λi j hi hj qp=>?_
 rw[gZ] at hi hj;have h0:=Ar.1 hs i j hi hj qp;have key:∀k (hk:k<q.length),((q.set x y)[k]'(by rw[gZ];exact hk)).id=q[k].id:=λk hk=>by
  rw[List.getElem_set];split
  .rename_i e;subst e;rw[hy,aY,bk hk];rfl
  .rfl
 rw[key i hi,key j hj];exact h0
theorem OY (h:kz f)(kd:Int)(pa tZ:ay)(a:Nat)(tx:ay)(hk:kd=3\/kd=4):f.change ⟨kd,pa,tZ,(a:Int),tx⟩=if eC f.ad pa<0 then(f,2) else if jD f.ae (eC f.ad pa)=true then(f,4) else if 192<(a:Int)+tx.length then(f,6) else(⟨Ev.iF (uP f.ad f.ae ⟨kd,pa,tZ,(a:Int),tx⟩).1,Ev.ja (uP f.ad f.ae ⟨kd,pa,tZ,(a:Int),tx⟩).2⟩,0):=by
 unfold Flat.change;cases hn:uJ f.ad pa with
 |none=>rw[show f.dt pa=none from hn,if_pos ((h.Ag _).2 hn)]
 |some k=>
  obtain⟨N7,L7⟩:=h.Fk hn;have P2:=h.qk hn;rw[show f.dt pa=some k from hn,if_neg (λe=>by rw[(h.Ag _).1 e] at hn;cases hn)];obtain⟨x,hx⟩:=kB.1 (h.nm k N7).1;show(match nS f.ae (f.ad.getD k cz).id with
   |none=>(f,(0:Int))
   |some x=>if(f.ae.getD x fN).aM=true then(f,4) else if 192<(a:Int)+tx.length then(f,6) else if kd=4 then(f.yc x (((f.ae.getD x fN).bh++hZ ((a:Int)-((f.ae.getD x fN).bh.length:Int))).take (a:Int).toNat),0) else if tx≠[] then(f.yc x (gg (f.ae.getD x fN).bh (a:Int).toNat tx),0) else(f,0))=_
  have Bg:jD f.ae (eC f.ad pa)=(f.ae.getD x fN).aM:=by unfold jD;rw[P2,hx]
  rw[hx];show(if(f.ae.getD x fN).aM=true then(f,(4:Int)) else _)=_;rw[<-Bg];by_cases h1:jD f.ae (eC f.ad pa)=true
  .rw[if_pos h1,if_pos h1]
  rw[if_neg h1,if_neg h1];by_cases h2:192<(a:Int)+tx.length
  .rw[if_pos h2,if_pos h2]
  rw[if_neg h2,if_neg h2];have AS:∀g,W7 f.ae (eC f.ad pa) g=f.ae.set x ⟨(f.ae.getD x fN).id,(f.ae.getD x fN).aM,g (f.ae.getD x fN).bh⟩:=λg=>by unfold W7;rw[P2,hx]
  have ji:∀g:ay,eB (f.ae.set x ⟨(f.ae.getD x fN).id,(f.ae.getD x fN).aM,g⟩):=λg=>HE h.st rfl
  rcases hk with rfl|rfl
  .rw[if_neg (show ¬(3:Int)=4 by decide)];have hJ:uP f.ad f.ae ⟨3,pa,tZ,(a:Int),tx⟩=(f.ad,if tx=[] then f.ae else W7 f.ae (eC f.ad pa) (wrJ (a:Int) tx)):=by
    unfold uP;dsimp only;rw[if_neg (by decide),if_pos rfl]
   rw[hJ];dsimp only;by_cases h3:tx=[]
   .rw[if_neg (λe=>e h3),if_pos h3,yR h.sn,qg h.st]
   .rw[if_pos h3,if_neg h3,AS,wrJ_eq,yR h.sn,qg (ji _)];rfl
  .rw[if_pos rfl];have hJ:uP f.ad f.ae ⟨4,pa,tZ,(a:Int),tx⟩=(f.ad,W7 f.ae (eC f.ad pa) (ctJ (a:Int))):=by
    unfold uP;dsimp only;rw[if_neg (by decide),if_neg (by decide),if_pos rfl]
   rw[hJ];dsimp only;rw[AS,ctJ_eq,yR h.sn,qg (ji _)];rfl
theorem zi:∀(z:ay)(t:Nat),eZ z=some t->∀i,t<i->i<z.length->z.getD i 0≠47
 |[],t,h,i,hi,hl=>by cases h
 |c::z,t,h,i,hi,hl=>by
  unfold eZ at h;obtain⟨i,rfl⟩:∃k,i=k+1:=⟨i-1,af⟩;rw[Aq];split at h
  .rename_i j hj;cases h
   exact zi z j hj i af (by simpa using hl)
  .rename_i hz;have hl:i<z.length:=by simpa using hl
   exact Aa z hz _ (by rw[aY,bk hl];exact tA hl)
theorem kz.closed (h:kz f)(hy:y≠[]):∀(n j:Nat),j<=n->j<f.ad.length->∀r,(f.ad.getD j cz).ag=y++47::r->∃m,m<f.ad.length/\(f.ad.getD m cz).ag=y
 |n,j,hjn,hj,r,hp=>by
  have hyl:0<y.length:=oX.2 hy;by_cases h0:j=0
  .subst h0;rw[h.nr] at hp;have:=gb List.length hp;simp at this;omega
  .obtain⟨m,hm,Fc,hfm,hpm⟩:=h.par (show 1<=j by omega) hj;have xZ:=((h.nm j hj).2.1 af).2.2.1;cases hl:eZ (f.ad.getD j cz).ag with
   |none=>unfold au at xZ;rw[hl] at xZ;cases xZ
   |some t=>
    have n4:y.length<=t:=by
     refine oZ λdA=>?_
     have h1:=zi _ t hl y.length af (by rw[hp,bR];simp);rw[hp] at h1;exact h1 (by simp[aY])
    have lT:(au (f.ad.getD j cz).ag).1=(f.ad.getD j cz).ag.take t:=by
     unfold au;rw[hl];show List.take (max t 1) _=_;rw[Nat.max_eq_left af]
    by_cases he:t=y.length
    .refine⟨m,af,?_⟩;rw[hpm,lT,hp,he];simp
    .cases n with
     |zero=>omega
     |succ n=>
      refine h.closed hy n m af af (r.take (t-y.length-1)) ?_;rw[hpm,lT,hp,B2,q9 af]
      congr 1
      rw[show t-y.length=(t-y.length-1)+1 by omega,x_5]
      congr 2
theorem pF {x z r:ay}:Bn x z=some r↔x=z++r/\(r=[]\/r.getD 0 0=47):=by
 unfold Bn;constructor
 .intro h;split at h
  .rename_i h1;split at h
   .rename_i h2;cases h
    refine⟨?_,h2⟩;have:=zq z.length x;rw[h1.2] at this;exact this.symm
   .cases h
  .cases h
 .rintro⟨rfl,h⟩;rw[if_pos ⟨by simp,by simp⟩];have:(z++r).drop z.length=r:=by simp
  rw[this,if_pos h]
theorem Yg (z y:ay)(x:Fnd):(⟨Flat.eJ z y x.ag,x.id⟩:Fnd)=LA z y x:=by
 unfold LA;cases hc:Bn x.ag z with
 |some r=>
  obtain⟨h1,h2⟩:=pF.1 hc;have hm:Flat.eJ z y x.ag=y++r:=by
   unfold Flat.eJ;rw[if_pos,h1]
   .simp
   .rw[h1];rcases h2 with rfl|h2
    .left;simp
    .right
     cases r with
     |nil=>exact absurd h2 (by decide)
     |cons c r=>
      have:c=47:=by simpa using h2
      subst this;refine⟨by simp,?_⟩;rw[B2,q9 af];simp
  rw[hm]
 |none=>
  have hm:Flat.eJ z y x.ag=x.ag:=by
   unfold Flat.eJ;rw[if_neg];rintro(h|⟨h1,h2⟩)
   .have:=pF.2 (show x.ag=z++[]/\([]=[]\/([]:ay).getD 0 0=47) from⟨by simpa using h,.inl rfl⟩);rw[hc] at this;cases this
   .have h3:x.ag=z++(47::x.ag.drop (z.length+1)):=by
     have:=zq (z.length+1) x.ag;rw[h2,kA] at this;exact this.symm
    have:=pF.2 (show x.ag=z++(47::x.ag.drop (z.length+1))/\_ from⟨h3,.inr rfl⟩);rw[hc] at this;cases this
  rw[hm]
theorem Em (h:kz f)(hy:y≠[])(hn:uJ f.ad y=none):((f.ad.map (LA z y)).map Fnd.ag).Nodup:=by
 rw[List.map_map,FH,FI];refine Ar.2 λi j hi hj qp=>?_
 have gx:=Ar.1 h.sn i j hi hj qp;have gx:=mU gx;have one:∀(a b:Nat)(ha:a<f.ad.length)(hb:b<f.ad.length)(r:ay),Bn f.ad[a].ag z=some r->Bn f.ad[b].ag z=none->y++r≠f.ad[b].ag:=λa b ha hb r h1 h2 e=>by
  obtain⟨g1,g2⟩:=pF.1 h1;rcases g2 with rfl|g2
  .rw[iH] at e;exact uY hn _ (tA hb) e.symm
  .cases r with
   |nil=>exact absurd g2 (by decide)
   |cons c r=>
    have:c=47:=by simpa using g2
    subst this;obtain⟨m,hm,hmp⟩:=h.closed hy b b (cy _) hb r (by rw[aY,bk hb];exact e.symm);exact uY hn _ (fD cz hm) hmp
 show(LA z y f.ad[i]).ag≠(LA z y f.ad[j]).ag;unfold LA;cases c1:Bn f.ad[i].ag z with
 |some r1=>
  cases c2:Bn f.ad[j].ag z with
  |some r2=>
   intro e;have e:y++r1=y++r2:=e;have e:=List.append_cancel_left e;exact gx (by rw[(pF.1 c1).1,(pF.1 c2).1,e])
  |none=>exact one i j hi hj r1 c1 c2
 |none=>
  cases c2:Bn f.ad[j].ag z with
  |some r2=>exact λe=>one j i hj hi r2 c2 c1 e.symm
  |none=>exact gx
theorem HF (h:bf y=true):y≠[]:=λe=>by rw[e] at h;cases h
theorem Yh (h:kz f)(hz:bf z=true)(hy:bf y=true):f.move z y=if eC f.ad z<0 then(f,2) else if eC f.ad z=0 then(f,5) else if 0<=eC f.ad y then(f,3) else if under y z=true then(f,5) else if eC f.ad (Ev.c8 y)<0 then(f,2) else if jD f.ae (eC f.ad (Ev.c8 y))=false then(f,4) else
  if eC f.ad (Ev.c8 y)≠eC f.ad (Ev.c8 z)/\12<=Oq f.ad (eC f.ad (Ev.c8 y)) then(f,6) else(⟨Ev.iF (f.ad.map (LA z y)),Ev.ja f.ae⟩,0):=by
 unfold Flat.move;cases hn:uJ f.ad z with
 |none=>rw[show f.dt z=none from hn,if_pos ((h.Ag _).2 hn)]
 |some k=>
  obtain⟨N7,L7⟩:=h.Fk hn;have P2:=h.qk hn;rw[show f.dt z=some k from hn,if_neg (show ¬eC f.ad z<0 from λe=>by rw[(h.Ag _).1 e] at hn;cases hn)];dsimp only;have h00:=h.Jg hn;by_cases h0:z=[47]
  .rw[if_pos h0,if_pos (h00.2 h0)]
  rw[if_neg h0,if_neg (show ¬eC f.ad z=0 from λe=>h0 (h00.1 e))];cases h3:uJ f.ad y with
  |some m=>rw[show f.dt y=some m from h3,if_pos (show(some m).isSome=true from rfl),if_pos ((h.ld0 y).2 (by rw[h3];rfl))]
  |none=>
   have hyn:y≠[47]:=λe=>by rw[e,h.cC] at h3;cases h3
   rw[show f.dt y=none from h3,if_neg (show ¬(none:Option Nat).isSome=true from jL),if_neg (show ¬0<=eC f.ad y from λe=>by have:=(h.ld0 y).1 e;rw[h3] at this;cases this)];by_cases h4:under y z=true
   .rw[if_pos h4,if_pos h4]
   rw[if_neg h4,if_neg h4,xu hy hyn,xu hz h0];cases h5:uJ f.ad (aK y).1 with
   |none=>
    rw[if_pos ((h.Ag _).2 h5),xr h5,if_neg hyn];rfl
   |some m=>
    obtain⟨YA,hmp⟩:=h.Fk h5;rw[if_neg (show ¬eC f.ad (aK y).1<0 from λe=>by rw[(h.Ag _).1 e] at h5;cases h5),tu h5,if_neg hyn,h.qk h5,h.fld];cases h6:uM f.ad f.ae m with
    |false=>
     rw[if_pos (show false=false from rfl),if_pos (show false=false from rfl)];rfl
    |true=>
     rw[if_neg (show ¬(true=false) by decide),if_neg (show ¬(true=false) by decide),h3,if_neg (show ¬(none:Option Nat).isSome=true from jL),if_neg (show ¬(0:Int)<0 by decide)];have Dz:1<=k:=by
      refine oZ λhk=>?_
      have:k=0:=by omega
      subst this;rw[h.nr] at L7;exact h0 L7.symm
     obtain⟨w,hw,hwn,QE,YP⟩:=h.par Dz N7;have hzs:=vo ((h.nm k N7).2.1 Dz).2.2.1;rw[L7] at hwn YP hzs;rw[hzs,h.qk hwn,h.enEq YA,hmp];have hiff:(f.ad.getD m cz).id≠(f.ad.getD w cz).id↔(aK y).1≠(au z).1:=by
      constructor
      .intro e e2;refine e ?_;rw[<-hmp,<-YP] at e2;have h1:=h.Ek YA;rw[e2,h.Ek (show w<f.ad.length by omega)] at h1;cases h1;rfl
      .intro e e2;refine e ?_;have:=h.uniq YA af e2 h6;subst this;rw[<-hmp,<-YP]
     by_cases h7:(aK y).1≠(au z).1/\12<=f.nw (aK y).1
     .rw[if_pos h7,if_pos ⟨hiff.2 h7.1,h7.2⟩]
     .rw[if_neg h7,if_neg (λe=>h7 ⟨hiff.1 e.1,e.2⟩),Ot (Em h (HF hy) h3),qg h.st,List.foldl_map]
      congr 3
      funext l x
      rw[Yg]
end Go.Pl
namespace Go.Pl
open Go.Lg
variable {o:Op}{f:Flat}
theorem kS (h:iJ o=true):(1<=o.kind/\o.kind<=7)/\bf o.ag=true/\(o.kind=6\/o.kind=7->bf o.to=true)/\(0<=o.at_/\o.at_<=192)/\o.bh.length<=24:=by
 obtain⟨kd,pa,tZ,at_,tx⟩:=o;unfold iJ at h;unfold fR at h;dsimp only at h⊢;by_cases e1:1<=kd<;>by_cases e2:kd<=7<;>cases e3:bf pa<;>cases e4:bf tZ<;>by_cases e5:kd=7<;>by_cases e55:kd=6<;>by_cases e6:0<=at_<;>by_cases e7:at_<=192<;>by_cases e8:24<tx.length<;>simp_all<;>omega
theorem do_eq (h:kz f)(ho:iJ o=true):f.eS o=if mA f.ad f.ae o=0 then(T3 f.ad f.ae o,0) else(f,mA f.ad f.ae o):=by
 obtain⟨⟨h1,h2⟩,h3,h4,h5,h6⟩:=kS ho;obtain⟨kd,pa,tZ,at_,tx⟩:=o;dsimp only at h1 h2 h3 h4 h5 h6;obtain⟨a,rfl⟩:=xI h5.1;unfold Flat.eS mA T3;dsimp only;by_cases k12:kd=1\/kd=2
 .rw[if_pos k12,if_pos k12,make_eq h h3];have hJ:uP f.ad f.ae ⟨kd,pa,tZ,(a:Int),tx⟩=(f.ad++[⟨pa,zp f.ae 16 0⟩],f.ae++[⟨zp f.ae 16 0,decide (kd=2),[]⟩]):=by
   unfold uP;exact if_pos k12
  rw[hJ]
 rw[if_neg k12,if_neg k12];by_cases k5:kd=5
 .subst k5;have hJ:uP f.ad f.ae ⟨5,pa,tZ,(a:Int),tx⟩=DK f.ad f.ae pa (eC f.ad pa):=by
   unfold uP;dsimp only;rw[if_neg (by decide),if_neg (by decide),if_neg (by decide),if_pos rfl]
  rw[if_pos rfl,Yf h,hJ,if_neg (show ¬((5:Int)=3\/(5:Int)=4) by decide),if_pos rfl];by_cases c1:eC f.ad pa<0
  .rw[if_pos c1,if_pos c1,if_neg (by decide)]
  rw[if_neg c1,if_neg c1];by_cases c2:eC f.ad pa=0\/(jD f.ae (eC f.ad pa)=true/\0<Oq f.ad (eC f.ad pa))
  .rw[if_pos c2,if_pos c2,if_neg (by decide)]
  .rw[if_neg c2,if_neg c2,if_pos rfl]
 rw[if_neg k5];by_cases k6:kd=6
 .subst k6;have hJ:uP f.ad f.ae ⟨6,pa,tZ,(a:Int),tx⟩=(f.ad++[⟨tZ,eC f.ad pa⟩],f.ae):=by
   unfold uP;dsimp only;rw[if_neg (by decide),if_neg (by decide),if_neg (by decide),if_neg (by decide),if_pos rfl]
  rw[if_pos rfl,link_eq h (h4 (.inl rfl)),hJ,if_neg (show ¬((6:Int)=3\/(6:Int)=4) by decide),if_neg (show ¬(6:Int)=5 by decide),if_pos rfl];by_cases c1:eC f.ad pa<0
  .rw[if_pos c1,if_pos c1,if_neg (by decide)]
  rw[if_neg c1,if_neg c1];by_cases c2:jD f.ae (eC f.ad pa)=true
  .rw[if_pos c2,if_pos c2,if_neg (by decide)]
  .rw[if_neg c2,if_neg c2]
 rw[if_neg k6];by_cases k7:kd=7
 .subst k7;have hJ:uP f.ad f.ae ⟨7,pa,tZ,(a:Int),tx⟩=(f.ad.map (LA pa tZ),f.ae):=by
   unfold uP;dsimp only;rw[if_neg (by decide),if_neg (by decide),if_neg (by decide),if_neg (by decide),if_neg (by decide)]
  rw[if_pos rfl,Yh h h3 (h4 (.inr rfl)),hJ,if_neg (show ¬((7:Int)=3\/(7:Int)=4) by decide),if_neg (show ¬(7:Int)=5 by decide),if_neg (show ¬(7:Int)=6 by decide)];by_cases c1:eC f.ad pa<0
  .rw[if_pos c1,if_pos c1,if_neg (by decide)]
  rw[if_neg c1,if_neg c1];by_cases c2:eC f.ad pa=0
  .rw[if_pos c2,if_pos c2,if_neg (by decide)]
  rw[if_neg c2,if_neg c2];by_cases c3:0<=eC f.ad tZ
  .rw[if_pos c3,if_pos c3,if_neg (by decide)]
  rw[if_neg c3,if_neg c3];by_cases c4:under tZ pa=true
  .rw[if_pos c4,if_pos c4,if_neg (by decide)]
  rw[if_neg c4,if_neg c4];by_cases c5:eC f.ad (Ev.c8 tZ)<0
  .rw[if_pos c5,if_pos c5,if_neg (by decide)]
  rw[if_neg c5,if_neg c5];by_cases c6:jD f.ae (eC f.ad (Ev.c8 tZ))=false
  .rw[if_pos c6,if_pos c6,if_neg (by decide)]
  rw[if_neg c6,if_neg c6];by_cases c7:eC f.ad (Ev.c8 tZ)≠eC f.ad (Ev.c8 pa)/\12<=Oq f.ad (eC f.ad (Ev.c8 tZ))
  .rw[if_pos c7,if_pos c7,if_neg (by decide)]
  .rw[if_neg c7,if_neg c7,if_pos rfl]
 .have k34:kd=3\/kd=4:=by omega
  rw[if_neg k7,OY h kd pa tZ a tx k34,if_pos k34];by_cases c1:eC f.ad pa<0
  .rw[if_pos c1,if_pos c1,if_neg (by decide)]
  rw[if_neg c1,if_neg c1];by_cases c2:jD f.ae (eC f.ad pa)=true
  .rw[if_pos c2,if_pos c2,if_neg (by decide)]
  rw[if_neg c2,if_neg c2];by_cases c3:192<(a:Int)+tx.length
  .rw[if_pos c3,if_pos c3,if_neg (by decide)]
  .rw[if_neg c3,if_neg c3,if_pos rfl]
theorem Tw {l:dx}(h:(l.map Fnd.ag).Nodup):Ev.wK l=true:=dO h
theorem Tx {l:eV}(h:(l.map bU.id).Nodup):Ev.wL l=true:=dO h
theorem vB (h:kz f)(ho:iJ o=true)(h0:mA f.ad f.ae o=0):((uP f.ad f.ae o).1.map Fnd.ag).Nodup/\((uP f.ad f.ae o).2.map bU.id).Nodup/\1<=(uP f.ad f.ae o).1.length/\1<=(uP f.ad f.ae o).2.length:=by
 obtain⟨⟨h1,h2⟩,h3,h4,h5,h6⟩:=kS ho;obtain⟨kd,pa,tZ,at_,tx⟩:=o;dsimp only at h1 h2 h3 h4 h5 h6;have hn:=h.sn.nodup;have hq:=h.st.nodup;have PJ:=h.n1;have WQ:=h.q1;unfold mA at h0;dsimp only at h0;unfold uP;dsimp only;by_cases k12:kd=1\/kd=2
 .rw[if_pos k12] at h0⊢;rw[El h h3] at h0;have hf:¬0<f.bD pa:=λe=>by rw[if_pos e] at h0;omega
  rw[if_neg hf] at h0;obtain⟨g1,_⟩:=qm hf;have hr:=rm16 f;have dA:f.bI<16:=by
   refine oZ λhh=>?_
   rw[if_neg hh] at hr;rw[hr] at h0;have:(if decide ((-1:Int)<0)=true\/12<=f.nw (aK pa).1 then(6:Int) else 0)=6:=if_pos (.inl (by decide));rw[this] at h0;cases h0
  rw[if_pos dA] at hr;rw[hr];exact⟨qh Fnd.ag hn (uY g1),qh bU.id hq (zh (n:=(f.bI:Int)) (sB f).1),by simp,by simp⟩
 rw[if_neg k12] at h0⊢;by_cases c1:eC f.ad pa<0
 .rw[if_pos c1] at h0;cases h0
 rw[if_neg c1] at h0;have oo:∀g,((W7 f.ae (eC f.ad pa) g).map bU.id).Nodup/\1<=(W7 f.ae (eC f.ad pa) g).length:=λg=>by
  unfold W7;cases nS f.ae (eC f.ad pa) with
  |none=>exact⟨hq,WQ⟩
  |some t=>
   dsimp only;exact⟨(HE (y:=⟨(f.ae.getD t fN).id,(f.ae.getD t fN).aM,g (f.ae.getD t fN).bh⟩) h.st rfl).nodup,by rw[gZ];exact WQ⟩
 by_cases k3:kd=3
 .rw[if_pos k3];dsimp only;refine⟨hn,?_,PJ,?_⟩
  .split
   .exact hq
   .exact(oo _).1
  .split
   .exact WQ
   .exact(oo _).2
 rw[if_neg k3];by_cases k4:kd=4
 .rw[if_pos k4];exact⟨hn,(oo _).1,PJ,(oo _).2⟩
 rw[if_neg k4];rw[if_neg (show ¬(kd=3\/kd=4) by omega)] at h0;by_cases k5:kd=5
 .rw[if_pos k5] at h0⊢;unfold DK;dsimp only;have hld0:¬eC f.ad pa=0:=λe=>by rw[if_pos (.inl e)] at h0;cases h0
  have hsome:(uJ f.ad pa).isSome=true:=(h.ld0 pa).1 af;obtain⟨k,hk⟩:=kB.1 hsome;have T1:pa≠[47]:=λe=>hld0 ((h.Jg hk).2 e)
  refine⟨(HC h.sn FC).nodup,?_,?_,?_⟩
  .split
   .exact(HD h.st FC).nodup
   .exact hq
  .refine JI (a:=f.ad.getD 0 cz) (vR.2 ⟨fD cz PJ,?_⟩);rw[h.nr];show(!decide (([47]:ay)=pa))=true;rw[iO (λe=>T1 e.symm)];rfl
  .split
   .refine JI (a:=f.ae.getD 0 fN) (vR.2 ⟨fD fN WQ,?_⟩);rw[h.t0,iO (λe=>hld0 e.symm)];rfl
   .exact WQ
 rw[if_neg k5] at h0⊢;by_cases k6:kd=6
 .rw[if_pos k6] at h0⊢;have Bg:¬jD f.ae (eC f.ad pa)=true:=λe=>by rw[if_pos e] at h0;cases h0
  rw[if_neg Bg,El h (h4 (.inl k6))] at h0;have hf:¬0<f.bD tZ:=λe=>by rw[if_pos e] at h0;omega
  obtain⟨g1,_⟩:=qm hf;exact⟨qh Fnd.ag hn (uY g1),hq,by simp,WQ⟩
 rw[if_neg k6] at h0⊢;have k7:kd=7:=by omega
 have hto:=h4 (.inr k7);have c2:¬eC f.ad pa=0:=λe=>by rw[if_pos e] at h0;cases h0
 rw[if_neg c2] at h0;have c3:¬0<=eC f.ad tZ:=λe=>by rw[if_pos e] at h0;cases h0
 have xZ:uJ f.ad tZ=none:=(h.Ag tZ).1 af;exact⟨Em h (HF hto) xZ,hq,by rw[vL];exact PJ,WQ⟩
end Go.Pl
namespace Go.Pl
open Go Go.Ev Go.Lg Go.Proofs
section
variable {E:dy}{X:dM}{Γ:gY}{l:Kn}{L R:bn}{K:KO}{g:FuncId}{xs:List Operand}{ts:Array TypeId}{vs:aQ}{x y:Operand}{t t2 e:TypeId}{a a':aH}{n sz c b c':Nat}{α:Type}{enc:c9 α sz}{w:List α}{p:dx}{q:eV}{r:Value}{F:Flat}
theorem WO.HG [ht:TT E t e sz α enc](hx:Ev l x (.slice a n c))(hy:Ev l y (eW))(hh:jR Γ L a n sz (ah (sz:=sz) w))(hi:0<w.length)(k:∀n,K (.bool false) L n n Z Z):WO E X Γ l (.binOp .eql t x y t2) L K:=λtm s hl h2=>by
 obtain⟨b,o,_,_,_,rfl,_⟩:=(hh.row h2).1.at_ hi;exact WO.bin (r:=.bool false) hx hy (λcc=>by
  show ob (iQ E t) (λd=>Cb .eql (YW E d (.slice (some ⟨b,o,none⟩) n c) (eW)))=_;obtain⟨z,CO,_⟩:=ht.h;rw[CO.h.1];rfl) k tm s hl h2
theorem WO.Yi (hx:ky l xs vs)(h:∀s,Ad E X g vs s b a c p a' c' q r F)(hp:oz (vv b a p.length c p a' q.length c' q) L R)
  (k:∀m m' a1 n1 c1 p1 a2 n2 c2 q2,kb L m->m<=m'->n1<=p1.length->p1.take n1=F.ad->n2<=q2.length->q2.take n2=F.ae->K r (vv b a1 n1 c1 p1 a2 n2 c2 q2++R) m m' (λi=>i∈([]:List Nat)\/i∈(vv b a p.length c p a' q.length c' q).flatMap It.aS\/(m<=i/\i<m')) (λi=>i∈(vv b a p.length c p a' q.length c' q).flatMap It.aS\/(m<=i/\i<m'))):WO E X Γ l (.call ⟨.value (.func g),⟨xs⟩,ts⟩) L K:=
 WO.call (Lm:=vv b a p.length c p a' q.length c' q) (R:=R) (A:=[]) hx hp.cR (λs hi b hb=>by cases hb) (λs hi=>h s) (by rintro r' L' m m' ho hm ⟨rfl,a1,n1,c1,p1,a2,n2,c2,q2,h1,h2,h3,h4,rfl⟩;exact k m m' a1 n1 c1 p1 a2 n2 c2 q2 ho hm h1 h2 h3 h4)
theorem WO.callDoR (hx:ky l xs vs)(hp:oz (vv b a p.length c p a' q.length c' q) L R)(h:∀s,Ad E X g vs s b a c p a' c' q r F)
  (k:∀m m' a1 n1 c1 p1 a2 n2 c2 q2,kb L m->m<=m'->n1<=p1.length->p1.take n1=F.ad->n2<=q2.length->q2.take n2=F.ae->K r (vv b a1 n1 c1 p1 a2 n2 c2 q2++R) m m' (λi=>i∈([]:List Nat)\/i∈(vv b a p.length c p a' q.length c' q).flatMap It.aS\/(m<=i/\i<m')) (λi=>i∈(vv b a p.length c p a' q.length c' q).flatMap It.aS\/(m<=i/\i<m'))):WO E X Γ l (.call ⟨.value (.func g),⟨xs⟩,ts⟩) L K:=WO.Yi hx h hp k
end
theorem Ty (s:St)(a:aH)(c:Nat)(p:dx)(h0:0<p.length)(hp:p.length<=1000)(hr:bM s a p.length 2 (ah p)):fa aU aW 31 [.slice a p.length c] s (ai a) 70 p:=by
 have oK:=Rd.of (A:=ai a) hr λ_ hb=>hb
 refine aO f31 ?_;(repeat' (first|refine' aX|((with_reducible apply WO.HG);exact gO;exact gO;exact cu;exact mv;intro _)|((with_reducible apply WO.lit (α:=Fnd) (xs:=[]));exact yo;exact rfl;exact rfl;intro bl _)|refine' ar|fail))
 all_goals try refine cI
 all_goals(refine' lB)
 all_goals rfl
end Go.Pl
