/- Lemmas of the proof. No conditions. -/
import Derived.Test.YtajgfdfbnhchcaaGreatDoorBe9
set_option maxRecDepth 100000
set_option maxHeartbeats 4000000
set_option linter.unusedVariables false
set_option linter.unusedSimpArgs false
open Go.Proofs.Tryz
namespace Go.Pl
open Go Go.Ev Go.Lg Go.Proofs
variable {t:Nat}
theorem afW {s a c a' c' f i A}(h:UY s a a' f i A)(b1 b5 b6 b7)(ht:ot f.ae (f.ad.getD i ak.ah).id=some t)(h0:0<i)(c1:bS (f.ad.getD ((i:Int)-1).toNat ak.ah).af (f.ad.getD i ak.ah).af=true)(c2:(dz A.fo (aw (f.ad.getD i ak.ah).af).1).getD false=true)(c3:aU (aw (f.ad.getD i ak.ah).af).2=true)(c7:¬12<ZG f i A)(c4:¬9<Am f i A)(c5:(f.ae.getD t ak.ah).aJ=false):Sg s a c a' c' f b1 b5 b6 b7 i A ⟨(eB A.li (f.ad.getD i ak.ah).id ((dz A.li (f.ad.getD i ak.ah).id).getD 0+1)),(eB A.nF (aw (f.ad.getD i ak.ah).af).1 ((dz A.nF (aw (f.ad.getD i ak.ah).af).1).getD 0+1)),(eB A.fo (f.ad.getD i ak.ah).af (f.ae.getD t ak.ah).aJ)⟩:=by
 obtain⟨hf,hr,hs,hi,g2⟩:=h;intro Q hQ;unfold Qu Kq Kr;unfold ZG at c7;unfold Am at c4;dsimp only[Kq,Kr] at hQ;refine W.uD rfl rfl ?_;have pk:=gb.n hr;have ru:=gb.t hr;have pO:=hf.tl;have nB:=hf.nl;have hx:=(hf.nm _ (aK hi ak.ah)).1;have Cy:=hx.1;have lV:=gd (f.ad.getD i ak.ah).af;have Qj:∀ch∈(aw (f.ad.getD i ak.ah).af).2,ch.toNat<128:=λch dS=>hx.2.1 ch (ga _ ch dS)
 refine' zaa;refine' zad;all_goals exact hQ _ _ bj ar
end Go.Pl
namespace Go.Pl
open Go.Lg
open Go Go.Ev Go.Lg Go.Proofs
theorem afX {q:fg}{i:Nat}(hl:(q.getD i eS).bq.length<=192):tB q i=true↔(0<=(q.getD i eS).id/\(q.getD i eS).id<=15)/\(0<i->(q.getD (i-1) eS).id<(q.getD i eS).id)/\((q.getD i eS).aJ=true->(q.getD i eS).bq=[]):=by
 have h1:decide (192<(q.getD i eS).bq.length)=false:=by rw[mg];omega
 unfold tB fV;rw[h1];generalize(q.getD i eS).id=x;generalize(q.getD (i-1) eS).id=y;generalize(q.getD i eS).aJ=fo;generalize(q.getD i eS).bq=tx;have hd:(y<x)↔¬(x<=y):=by omega
 rw[hd];by_cases e1:x<=y<;>by_cases e2:0<i<;>by_cases e3:tx=[]<;>by_cases e4:0<=x<;>by_cases e5:x<=15<;>cases fo<;>simp_all
theorem oC (s:St)(a:aM)(c:Nat)(a':aM)(c':Nat)(f:Flat)(hf:NZ f)(hr:cD s a a' f):bF 11 [jC a c a' c' f] s (kb a a') (.bool (RL f)):=by
 have pk:=gb.n hr;have ru:=gb.t hr;have pO:=hf.tl;have nB:=hf.nl;have rM:=afS f;by_cases h0:fV f.ae.length 1 16=true/\f.ad.length≠0/\f.ad.getD 0 cy=⟨[47],0⟩
 .obtain⟨h1,h2,h3⟩:=h0;have adF:(1:Int)<=(f.ae.length:Int)/\(f.ae.length:Int)<=16:=by unfold fV at h1;simp at h1;omega
  have h1':1<=f.ae.length:=by unfold fV at h1;simp at h1;omega
  have Ts:(!(decide (f.ad.getD 0 cy=⟨[47],0⟩)))=false:=by rw[h3];decide
  rw[h1,h3,bY h2,bY rfl,uL,uL] at rM;have ajK:∀i,i<f.ae.length->tB f.ae i≠true->RL f=false:=λi hi hn=>by
   have:(List.range f.ae.length).all (tB f.ae)=false:=by
    rw[GK];exact⟨i,lX.2 hi,hn⟩
   rw[rM,this];rfl
  clear h1;refine aT f11 ?_;repeat' (first|refine' aW|refine' TE|refine' HE|refine' av|fail)
  all_goals first|(exfalso;simp[adF.1,adF.2] at ur;done)|(exfalso;omega;done)|contradiction|(exfalso;simp_all;done)|(exfalso;simp_all;omega)|skip
  refine W.bN (λm l L=>∃(i b1:Nat),Le [(1,bg b1),(33,.slice a' f.ae.length c'),(34,iv (f.ae.length:Int)),(35,iv (i:Int))] l/\cC [.box b1 (ie a c f.ad a' c' f.ae) 26 false] L/\m=f.ae.length-i/\i<=f.ae.length/\∀j,j<i->tB f.ae j=true)
   (λl L=>∃b1:Nat,Le [(1,bg b1)] l/\cC [.box b1 (ie a c f.ad a' c' f.ae) 26 false] L/\∀j,j<f.ae.length->tB f.ae j=true) _ ⟨0,_,bj,ar,rfl,ag,λj hj=>by omega⟩ ?_ ?_
  .rintro m l L ⟨i,b1,hl,hL,rfl,g1,g2⟩;refine W.le ?_ hl hL;clear hl hL;by_cases hi:i<f.ae.length
   .have kC:=hf.th _ (aK hi ak.ah);have hTi:tB f.ae i=true↔(0<=(f.ae.getD i ak.ah).id/\(f.ae.getD i ak.ah).id<=15)/\(0<i->(f.ae.getD ((i:Int)-1).toNat ak.ah).id<(f.ae.getD i ak.ah).id)/\((f.ae.getD i ak.ah).aJ=true->(f.ae.getD i ak.ah).bq=[]):=by
     rw[show((i:Int)-1).toNat=i-1 by omega];exact afX (q:=f.ae) (i:=i) kC.2.2
    by_cases hT:tB f.ae i=true
    .obtain⟨c1,c2,c3⟩:=hTi.1 hT;have ZH:¬(0<i)\/(f.ae.getD ((i:Int)-1).toNat ak.ah).id<(f.ae.getD i ak.ah).id:=by
      by_cases h:0<i
      .exact .inr (c2 h)
      .exact .inl h
     clear hTi;(repeat' (first|refine' aW|refine' TE|refine' av|fail));(all_goals try refine Ov);all_goals(refine⟨_,ag,i+1,b1,bj,ar,rfl,ag,λj hj=>?_⟩;rcases QU.1 hj with hj|rfl<;>first|exact g2 j hj|exact hT)
    .rw[ajK i hi hT];have hT':=λh=>hT (hTi.2 h)
     clear hTi hT;repeat' (first|refine' aW|refine' TE|refine' av|fail)
     all_goals first
      |(exfalso;omega;done)
      |contradiction
      |(refine⟨by(first|exact .inl rfl|exact .inr rfl),_,[],bu,cC.nil _,?_,rfl⟩;rfl)
      |(exfalso;refine hT' ⟨ag,λh=>by omega,λh=>by first|assumption|(simp_all;done)⟩)
   .have fF:i=f.ae.length:=by omega
    subst fF;refine' cR;(all_goals try refine Ov);all_goals exact⟨b1,bj,ar,g2⟩
  .rintro l L ⟨b1,hl,hL,g2⟩;(repeat(first|(with_reducible first|refine aq ?_|refine dC ?_|refine ej ?_)))
   refine W.le ?_ hl hL;clear hl hL;(have bV:(List.range f.ae.length).all (tB f.ae)=true:=gA.2 λj hj=>g2 j (lX.1 hj));rw[bV,uL] at rM;have hs:=wb g2;clear ajK bV g2;by_cases h5:(f.ae.getD 0 eS).id=0/\(f.ae.getD 0 eS).aJ=true
   .obtain⟨h5,h6⟩:=h5;rw[bY h5,h6,uL,uL] at rM;(repeat' (first|refine' aW|((with_reducible apply WO.makeMap);intro bm _)|refine' av|fail))
    all_goals try refine Ov
    refine W.bN (λm l L=>∃(i b1 b5 b6 b7:Nat)(A:Acc),Le [(1,bg b1),(5,.map (some b5)),(6,.map (some b6)),(7,.map (some b7)),(94,.slice a f.ad.length c),(95,iv (f.ad.length:Int)),(96,iv (i:Int))] l/\cC [.box b1 (ie a c f.ad a' c' f.ae) 26 false,.lz b5 (mII A.li),.lz b6 (mSI A.nF),.lz b7 (mSB A.fo)] L/\m=f.ad.length-i/\i<=f.ad.length/\zH f.ad f.ae i A/\Yn f.ad f.ae f.ad.length 0 ⟨[],[],[]⟩=Yn f.ad f.ae (f.ad.length-i) i A)
     (λl L=>∃(b1 b5:Nat)(A:Acc),Le [(1,bg b1),(5,.map (some b5))] l/\cC [.box b1 (ie a c f.ad a' c' f.ae) 26 false,.lz b5 (mII A.li)] L/\Yn f.ad f.ae f.ad.length 0 ⟨[],[],[]⟩=some A) _ ⟨0,_,_,_,_,⟨[],[],[]⟩,bj,ar,rfl,ag,Yr _ _,rfl⟩ ?_ ?_
    .rintro m l L ⟨i,b1,b5,b6,b7,A,hl,hL,rfl,g1,g2,g3⟩;refine W.le ?_ hl hL;clear hl hL;by_cases hi:i<f.ad.length
     .rw[show f.ad.length-i=(f.ad.length-(i+1))+1 by omega,Yn] at g3;have iK:=MJ g2;have Sh:((i:Int)-1).toNat=i-1:=by omega
      have hpv:f.ad.getD (i-1) cy=(f.ad.getD ((i:Int)-1).toNat ak.ah):=by rw[Sh]
      cases ht:ot f.ae (f.ad.getD i ak.ah).id with
      |none=>
       (have e:iA f.ad f.ae i A=none:=by unfold iA;rw[ht]);rw[e] at g3;rw[g3] at rM;rw[rM];refine ifA ⟨hf,hr,hs,hi,g2⟩ b1 b5 b6 b7 ht _ (λl L h2=>?_);(repeat(first|(with_reducible first|refine kn ?_|refine km ?_|refine iU ?_)));exact⟨by(first|exact .inl rfl|exact .inr rfl),_,[],by(apply qD.tmp;(focus(exact h2));exact qD.nil),cC.nil _,rfl,rfl⟩
      |some t=>
       by_cases h0:0<i
       .cases c1:bS (f.ad.getD ((i:Int)-1).toNat ak.ah).af (f.ad.getD i ak.ah).af with
        |false=>
         (have e:iA f.ad f.ae i A=none:=by unfold iA;rw[ht];dsimp only;rw[hpv];exact if_pos ⟨h0,c1⟩);rw[e] at g3;rw[g3] at rM;rw[rM];refine amv ⟨hf,hr,hs,hi,g2⟩ b1 b5 b6 b7 ht h0 c1 _ (λl L h2=>?_);(repeat(first|(with_reducible first|refine kn ?_|refine km ?_|refine iU ?_)));exact⟨by(first|exact .inl rfl|exact .inr rfl),_,[],by(apply qD.tmp;(focus(exact h2));exact qD.nil),cC.nil _,rfl,rfl⟩
        |true=>
         cases c2:(dz A.fo (aw (f.ad.getD i ak.ah).af).1).getD false with
         |false=>
          (have e:iA f.ad f.ae i A=none:=by unfold iA;rw[ht];dsimp only;rw[hpv,if_neg (λh=>by rw[c1] at h;cases h.2),if_pos h0];unfold iIn;rw[if_pos (.inl c2)]);rw[e] at g3;rw[g3] at rM;rw[rM];refine amw ⟨hf,hr,hs,hi,g2⟩ b1 b5 b6 b7 ht h0 c1 c2 _ (λl L h2=>?_);(repeat(first|(with_reducible first|refine kn ?_|refine km ?_|refine iU ?_)));exact⟨by(first|exact .inl rfl|exact .inr rfl),_,[],by(apply qD.tmp;(focus(exact h2));exact qD.nil),cC.nil _,rfl,rfl⟩
         |true=>
          cases c3:aU (aw (f.ad.getD i ak.ah).af).2 with
          |false=>
           (have e:iA f.ad f.ae i A=none:=by unfold iA;rw[ht];dsimp only;rw[hpv,if_neg (λh=>by rw[c1] at h;cases h.2),if_pos h0];unfold iIn;rw[if_pos (.inr c3)]);rw[e] at g3;rw[g3] at rM;rw[rM];refine amx ⟨hf,hr,hs,hi,g2⟩ b1 b5 b6 b7 ht h0 c1 c2 c3 _ (λl L h2=>?_);(repeat(first|(with_reducible first|refine kn ?_|refine km ?_|refine iU ?_)));exact⟨by(first|exact .inl rfl|exact .inr rfl),_,[],by(apply qD.tmp;(focus(exact h2));exact qD.nil),cC.nil _,rfl,rfl⟩
          |true=>
           (have c23:¬((dz A.fo (aw (f.ad.getD i ak.ah).af).1).getD false=false\/aU (aw (f.ad.getD i ak.ah).af).2=false):=by rw[c2,c3];decide);by_cases c7:12<ZG f i A
           .skip
            (have e:iA f.ad f.ae i A=none:=by unfold iA;rw[ht];dsimp only;rw[hpv,if_neg (λh=>by rw[c1] at h;cases h.2),if_pos h0];unfold iIn;rw[if_neg c23,if_pos c7]);rw[e] at g3;rw[g3] at rM;rw[rM];refine amy ⟨hf,hr,hs,hi,g2⟩ b1 b5 b6 b7 ht h0 c1 c2 c3 c7 _ (λl L h2=>?_);(repeat(first|(with_reducible first|refine kn ?_|refine km ?_|refine iU ?_)));exact⟨by(first|exact .inl rfl|exact .inr rfl),_,[],by(apply qD.tmp;(focus(exact h2));exact qD.nil),cC.nil _,rfl,rfl⟩
           .by_cases c4:9<Am f i A
            .skip
             (have e:iA f.ad f.ae i A=none:=by unfold iA;rw[ht];dsimp only;rw[hpv,if_neg (λh=>by rw[c1] at h;cases h.2),if_pos h0];unfold iIn;rw[if_neg c23,if_neg c7];dsimp only;unfold vu;exact if_pos (.inl c4));rw[e] at g3;rw[g3] at rM;rw[rM];refine amz ⟨hf,hr,hs,hi,g2⟩ b1 b5 b6 b7 ht h0 c1 c2 c3 c7 c4 _ (λl L h2=>?_);(repeat(first|(with_reducible first|refine kn ?_|refine km ?_|refine iU ?_)));exact⟨by(first|exact .inl rfl|exact .inr rfl),_,[],by(apply qD.tmp;(focus(exact h2));exact qD.nil),cC.nil _,rfl,rfl⟩
            .cases c5:(f.ae.getD t ak.ah).aJ with
             |true=>
              by_cases c6:1<Am f i A
              .skip
               (have e:iA f.ad f.ae i A=none:=by unfold iA;rw[ht];dsimp only;rw[hpv,if_neg (λh=>by rw[c1] at h;cases h.2),if_pos h0];unfold iIn;rw[if_neg c23,if_neg c7];dsimp only;unfold vu;exact if_pos (.inr ⟨c5,c6⟩));rw[e] at g3;rw[g3] at rM;rw[rM];refine amA ⟨hf,hr,hs,hi,g2⟩ b1 b5 b6 b7 ht h0 c1 c2 c3 c7 c4 c5 c6 _ (λl L h2=>?_);(repeat(first|(with_reducible first|refine kn ?_|refine km ?_|refine iU ?_)));exact⟨by(first|exact .inl rfl|exact .inr rfl),_,[],by(apply qD.tmp;(focus(exact h2));exact qD.nil),cC.nil _,rfl,rfl⟩
              .skip
               (have e:iA f.ad f.ae i A=some ⟨(eB A.li (f.ad.getD i ak.ah).id ((dz A.li (f.ad.getD i ak.ah).id).getD 0+1)),(eB A.nF (aw (f.ad.getD i ak.ah).af).1 ((dz A.nF (aw (f.ad.getD i ak.ah).af).1).getD 0+1)),(eB A.fo (f.ad.getD i ak.ah).af (f.ae.getD t ak.ah).aJ)⟩:=by unfold iA;rw[ht];dsimp only;rw[hpv,if_neg (λh=>by rw[c1] at h;cases h.2),if_pos h0];unfold iIn;rw[if_neg c23,if_neg c7];dsimp only;unfold vu;rw[if_neg (by rintro(h|h)<;>first|exact c4 h|exact c6 h.2)]);refine' zan;rw[e] at g3;refine afV ⟨hf,hr,hs,hi,g2⟩ b1 b5 b6 b7 ht h0 c1 c2 c3 c7 c4 c5 c6 _ (λl L hl hL=>?_);(repeat(first|(with_reducible first|refine aq ?_|refine dC ?_|refine ej ?_)));refine' zay
             |false=>
              (have e:iA f.ad f.ae i A=some ⟨(eB A.li (f.ad.getD i ak.ah).id ((dz A.li (f.ad.getD i ak.ah).id).getD 0+1)),(eB A.nF (aw (f.ad.getD i ak.ah).af).1 ((dz A.nF (aw (f.ad.getD i ak.ah).af).1).getD 0+1)),(eB A.fo (f.ad.getD i ak.ah).af (f.ae.getD t ak.ah).aJ)⟩:=by unfold iA;rw[ht];dsimp only;rw[hpv,if_neg (λh=>by rw[c1] at h;cases h.2),if_pos h0];unfold iIn;rw[if_neg c23,if_neg c7];dsimp only;unfold vu;rw[if_neg (by rintro(h|h)<;>first|exact c4 h|(rw[show(f.ae.getD t eS).aJ=false from c5] at h;cases h.1))]);refine' zan;rw[e] at g3;refine afW ⟨hf,hr,hs,hi,g2⟩ b1 b5 b6 b7 ht h0 c1 c2 c3 c7 c4 c5 _ (λl L hl hL=>?_);(repeat(first|(with_reducible first|refine aq ?_|refine dC ?_|refine ej ?_)));refine' zay
       .by_cases c4:9<Am f i A
        .skip
         (have e:iA f.ad f.ae i A=none:=by unfold iA;rw[ht];dsimp only;rw[if_neg (λh=>h0 h.1),if_neg h0];dsimp only;unfold vu;exact if_pos (.inl c4));rw[e] at g3;rw[g3] at rM;rw[rM];refine amt ⟨hf,hr,hs,hi,g2⟩ b1 b5 b6 b7 ht h0 c4 _ (λl L h2=>?_);(repeat(first|(with_reducible first|refine kn ?_|refine km ?_|refine iU ?_)));exact⟨by(first|exact .inl rfl|exact .inr rfl),_,[],by(apply qD.tmp;(focus(exact h2));exact qD.nil),cC.nil _,rfl,rfl⟩
        .cases c5:(f.ae.getD t ak.ah).aJ with
         |true=>
          by_cases c6:1<Am f i A
          .skip
           (have e:iA f.ad f.ae i A=none:=by unfold iA;rw[ht];dsimp only;rw[if_neg (λh=>h0 h.1),if_neg h0];dsimp only;unfold vu;exact if_pos (.inr ⟨c5,c6⟩));rw[e] at g3;rw[g3] at rM;rw[rM];refine amu ⟨hf,hr,hs,hi,g2⟩ b1 b5 b6 b7 ht h0 c4 c5 c6 _ (λl L h2=>?_);(repeat(first|(with_reducible first|refine kn ?_|refine km ?_|refine iU ?_)));exact⟨by(first|exact .inl rfl|exact .inr rfl),_,[],by(apply qD.tmp;(focus(exact h2));exact qD.nil),cC.nil _,rfl,rfl⟩
          .skip
           (have e:iA f.ad f.ae i A=some ⟨(eB A.li (f.ad.getD i ak.ah).id ((dz A.li (f.ad.getD i ak.ah).id).getD 0+1)),A.nF,(eB A.fo (f.ad.getD i ak.ah).af (f.ae.getD t ak.ah).aJ)⟩:=by unfold iA;rw[ht];dsimp only;rw[if_neg (λh=>h0 h.1),if_neg h0];dsimp only;unfold vu;rw[if_neg (by rintro(h|h)<;>first|exact c4 h|exact c6 h.2)]);refine' zax;rw[e] at g3;refine afT ⟨hf,hr,hs,hi,g2⟩ b1 b5 b6 b7 ht h0 c4 c5 c6 _ (λl L hl hL=>?_);(repeat(first|(with_reducible first|refine aq ?_|refine dC ?_|refine ej ?_)));refine' zaK
         |false=>
          (have e:iA f.ad f.ae i A=some ⟨(eB A.li (f.ad.getD i ak.ah).id ((dz A.li (f.ad.getD i ak.ah).id).getD 0+1)),A.nF,(eB A.fo (f.ad.getD i ak.ah).af (f.ae.getD t ak.ah).aJ)⟩:=by unfold iA;rw[ht];dsimp only;rw[if_neg (λh=>h0 h.1),if_neg h0];dsimp only;unfold vu;rw[if_neg (by rintro(h|h)<;>first|exact c4 h|(rw[show(f.ae.getD t eS).aJ=false from c5] at h;cases h.1))]);refine' zax;rw[e] at g3;refine afU ⟨hf,hr,hs,hi,g2⟩ b1 b5 b6 b7 ht h0 c4 c5 _ (λl L hl hL=>?_);(repeat(first|(with_reducible first|refine aq ?_|refine dC ?_|refine ej ?_)));refine' zaK
     .have fF:i=f.ad.length:=by omega
      subst fF;rw[B9,Yn] at g3;refine' cR;(all_goals try refine rB);all_goals exact⟨b1,b5,A,bj,ar,g3⟩
    .rintro l L ⟨b1,b5,A,hl,hL,g3⟩;(repeat(first|(with_reducible first|refine aq ?_|refine dC ?_|refine ej ?_)))
     refine W.le ?_ hl hL;clear hl hL;rw[g3] at rM;(repeat' (first|refine' aW|((with_reducible apply WO.ahD);exact gT;exact oh;intro _)|refine' av|fail));all_goals(refine⟨by(first|exact .inl rfl|exact .inr rfl),_,[],bu,cC.nil _,?_,rfl⟩;rw[rM];refine ep Value.bool ?_;show decide _=decide _;rw[C5];omega)
   .have nN:RL f=false:=by
     rw[rM];by_cases e1:(f.ae.getD 0 eS).id=0
     .cases e2:(f.ae.getD 0 eS).aJ with
      |false=>rw[bY e1];rfl
      |true=>exact absurd ⟨e1,e2⟩ h5
     .rw[eI e1];rfl
    rw[nN];(repeat' (first|refine' aW|((with_reducible apply WO.makeMap);intro bm _)|refine' av|fail))
    all_goals first
      |(exfalso;omega;done)
      |contradiction
      |(refine⟨by(first|exact .inl rfl|exact .inr rfl),_,[],bu,cC.nil _,?_,rfl⟩;rfl)
      |(exfalso;refine h5 ⟨by first|assumption|omega,by first|assumption|(simp_all;done)⟩)
 .have nN:RL f=false:=by
   rw[rM];cases e1:fV f.ae.length 1 16 with
   |false=>rfl
   |true=>
    by_cases e2:f.ad.length≠0
    .by_cases e3:f.ad.getD 0 cy=⟨[47],0⟩
     .exact absurd ⟨e1,e2,e3⟩ h0
     .rw[eI e3];simp
    .rw[eI e2];simp
  rw[nN];clear rM;refine aT f11 ?_;repeat' (first|refine' aW|refine' TE|refine' HE|refine' av|fail)
  all_goals first
   |(exfalso;omega;done)
   |contradiction
   |(refine⟨by(first|exact .inl rfl|exact .inr rfl),_,[],bu,cC.nil _,?_,rfl⟩;rfl)
   |(exfalso;refine h0 ⟨by unfold fV;simp;omega,ag,aL⟩)
end Go.Pl
namespace Go.Pl
open Go.Lg
variable {f:Flat}{i j k:Nat}{z:az}
theorem iC.sn (h:iC f):kM f.ad:=by
 refine uj.2 λi j hi hj nD=>?_
 have:=Yp (λj h1 hj=>((h.nm j hj).2.1 h1).1) (j-i-1) i ag;rw[show i+(j-i-1)+1=j by omega,aZ,bd hi,aZ,bd hj] at this;exact this
theorem iC.st (h:iC f):gU f.ae:=wb h.tb
theorem iC.n1 (h:iC f):0<f.ad.length:=by have:=h.n0;omega
theorem iC.q1 (h:iC f):0<f.ae.length:=by have:=h.tl;unfold fV at this;simp at this;omega
theorem iC.q16 (h:iC f):f.ae.length<=16:=by have:=h.tl;unfold fV at this;simp at this;omega
theorem iC.Ba (h:iC f)(hi:i<f.ad.length):rZ f.ad (f.ad.getD i cy).af=some i:=by
 refine lL (d:=cy) hi ay λj hj e=>?_
 rw[bQ] at e;exact np (qM h.sn cy hj hi) e
theorem iC.yn (_h:iC f)(hz:rZ f.ad z=some i):i<f.ad.length/\(f.ad.getD i cy).af=z:=by obtain⟨h1,h2,_⟩:=oO.1 hz;refine⟨h1,?_⟩;rw[aZ,bd h1];simpa using h2
theorem iC.idr (h:iC f)(hi:i<f.ad.length):0<=(f.ad.getD i cy).id/\(f.ad.getD i cy).id<=15:=by obtain⟨t,ht⟩:=jh.1 (h.nm i hi).1;obtain⟨h1,h2⟩:=x8 ht;have:=h.tb t h1;unfold tB fV at this;simp only[bO,bQ] at this;rw[<-h2];exact this.1.1.1
theorem iC.lu (_h:iC f)(hz:rZ f.ad z=some i):de f.ad z=(f.ad.getD i cy).id:=by unfold de;rw[hz]
theorem iC.ld0 (h:iC f)(z:az):0<=de f.ad z↔(rZ f.ad z).isSome=true:=by
 unfold de;cases hz:rZ f.ad z with
 |none=>simp
 |some i=>have:=h.idr (h.yn hz).1;simp;exact this.1
theorem iC.vF (h:iC f)(z:az):de f.ad z<0↔rZ f.ad z=none:=by
 have:=h.ld0 z;cases hz:rZ f.ad z with
 |none=>rw[hz] at this;simp at this;simp;exact this
 |some i=>rw[hz] at this;simp at this;simp;exact this
theorem iC.fld (_h:iC f):iw f.ae (f.ad.getD i cy).id=tV f.ad f.ae i:=rfl
theorem iC.uniq (h:iC f)(hi:i<f.ad.length)(hj:j<f.ad.length)(hid:(f.ad.getD i cy).id=(f.ad.getD j cy).id)(hf:tV f.ad f.ae i=true):i=j:=by
 have key:∀a b,a<b->b<f.ad.length->(f.ad.getD a cy).id=(f.ad.getD b cy).id->tV f.ad f.ae b=true->False:=λa b lV hb hid hf=>by
  have h1:=(h.nm b hb).2.2.2 hf;rw[tW,if_pos rfl] at h1;have:=Yv lV hid;omega
 have hfj:tV f.ad f.ae j=true:=by unfold tV at hf⊢;rw[<-hid];exact hf
 rcases CY i j with dG|heq|dG
 .exact(key i j dG hj hid hfj).elim
 .exact heq
 .exact(key j i dG hi hid.symm hf).elim
theorem iC.fb0 (h:iC f):tV f.ad f.ae 0=true:=by unfold tV;rw[h.nr];show(match ot f.ae 0 with|none=>false|some t=>(f.ae.getD t eS).aJ)=true;have:=EL h.st h.q1;rw[h.t0] at this;rw[this];exact h.tf
theorem iC.cI (h:iC f):rZ f.ad [47]=some 0:=by
 have:=h.Ba h.n1
 rwa [h.nr] at this
theorem iC.wz (h:iC f)(hz:rZ f.ad z=some i):de f.ad z=0↔z=[47]:=by
 rw[h.lu hz];obtain⟨hi,hp⟩:=h.yn hz;constructor
 .intro h0;have:=h.uniq h.n1 hi (by rw[h0,h.nr]) h.fb0;subst this;rw[<-hp,h.nr]
 .intro e;subst e;rw[h.cI] at hz;cases hz
  rw[h.nr]
theorem iC.par (h:iC f)(h1:1<=j)(hj:j<f.ad.length):∃m,m<j/\rZ f.ad (aw (f.ad.getD j cy).af).1=some m/\tV f.ad f.ae m=true/\(f.ad.getD m cy).af=(aw (f.ad.getD j cy).af).1:=by obtain⟨_,⟨m,hm,hp,hf⟩,_⟩:=(h.nm j hj).2.1 h1;exact⟨m,hm,by rw[<-hp];exact h.Ba ag,hf,hp⟩
theorem iC.ab5 (h:iC f)(z:az):f.nE z=cN f.ad f.ad.length z:=by
 rw[Yu];unfold Flat.nE;refine C6 λx hx=>?_
 obtain⟨j,hj,rfl⟩:=iY hx;rw[List.length_tail] at hj;have:=pU ((h.nm (j+1) ag).2.1 ag).2.2.1;rw[aZ,bd ag] at this;have e:f.ad.tail[j]=f.ad[j+1]:=List.getElem_tail _;rw[e];have this:aR f.ad[j+1].af=aw f.ad[j+1].af:=this;rw[this]
theorem iC.ZI (h:iC f)(hk:k<f.ad.length):Ox f.ad (f.ad.getD k cy).id=f.nE (f.ad.getD k cy).af:=by
 rw[h.ab5];unfold Ox cN;rw[<-qd (inJ f.ad (f.ad.getD k cy).id) cy f.ad];refine C6 λj hj=>?_
 have hj:=lX.1 hj;unfold inJ;by_cases h0:j=0
 .subst h0;rw[h.nr];simp[aw,dQ]
 .obtain⟨m,hm,zI,hfm,hpm⟩:=h.par (show 1<=j by omega) hj;have nN:=((h.nm j hj).2.1 ag).2.2.1;have fY:(aw (f.ad.getD j cy).af).2≠[]:=λe=>by rw[e] at nN;cases nN
  rw[h.lu zI,bY fY,bY (show 1<=j by omega),uL,uL,bQ,bQ,<-hpm];constructor
  .intro e;rw[h.uniq ag hk e hfm]
  .intro e;have h1:=h.Ba (show m<f.ad.length by omega);rw[e,h.Ba hk] at h1;cases h1;rfl
theorem iC.adG (h:iC f)(hk:k<f.ad.length)(hf:tV f.ad f.ae k=false):f.nE (f.ad.getD k cy).af=0:=by
 rw[h.ab5];unfold cN;rw[uM];intro j hj e;have hj:=lX.1 hj;rw[bO,bQ,bQ] at e;obtain⟨m,hm,zI,hfm,hpm⟩:=h.par e.1 hj;have h1:=h.Ba (show m<f.ad.length by omega);rw[hpm,e.2,h.Ba hk] at h1;cases h1
 rw[hf] at hfm;cases hfm
theorem iC.amB (_h:iC f):f.iu (f.ad.getD i cy).id=tV f.ad f.ae i:=(JS f i).symm
theorem IF (f:Flat):∀(n k:Nat),(∀j,j<k->(f.cO (j:Int)).isSome=true)->∀j,j<f.y6 n k->(f.cO (j:Int)).isSome=true
 |0,k,h,j,hj=>h j hj
 |n+1,k,h,j,hj=>by
  have e:f.y6 (n+1) k=if(f.cO (k:Int)).isSome then f.y6 n (k+1) else k:=rfl
  rw[e] at hj;by_cases hk:(f.cO (k:Int)).isSome=true
  .rw[if_pos hk] at hj;refine IF f n (k+1) (λj hj=>?_) j hj;by_cases hjk:j=k
   .rw[hjk];exact hk
   .exact h j ag
  .rw[if_neg hk] at hj;exact h j hj
theorem ZJ (f:Flat):∃k:Nat,k<=f.ae.length/\f.cO (k:Int)=none:=by
 refine' zaD
 have:=qe ((List.range (f.ae.length+1)).map λ(k:Nat)=>(k:Int)) (f.ae.map bP.id) (by
  rw[Bq,Br];exact(List.nodup_range).imp λ{a b} fY he=>fY ag) (λx hx=>by
  obtain⟨k,hk,rfl⟩:=jK.1 hx;obtain⟨y,hy,he⟩:=h' k (by have:=lX.1 hk;omega);exact jK.2 ⟨y,hy,he⟩)
 rw[td,td,KX] at this;omega
theorem IG (f:Flat):∀(m id:Nat),(∃k:Nat,id<=k/\k<id+m/\f.cO (k:Int)=none)->f.cO (f.y6 m id:Nat)=none/\f.y6 m id<id+m
 |0,id,⟨k,h1,h2,h3⟩=>by omega
 |m+1,id,⟨k,h1,h2,h3⟩=>by
  have e:f.y6 (m+1) id=if(f.cO (id:Int)).isSome then f.y6 m (id+1) else id:=rfl
  rw[e];cases hz:f.cO (id:Int) with
  |none=>rw[if_neg bJ];exact⟨hz,ag⟩
  |some j=>
   rw[if_pos (show(some j).isSome=true from rfl)];have:=IG f m (id+1) ⟨k,by
    have:k≠id:=λe=>by rw[e,hz] at h3;cases h3
    omega,ag,h3⟩
   exact⟨this.1,ag⟩
theorem vG (f:Flat):f.cO (f.cx:Nat)=none/\f.cx<=f.ae.length/\∀j,j<f.cx->(f.cO (j:Int)).isSome=true:=by obtain⟨k,h1,h2⟩:=ZJ f;have:=IG f (f.ae.length+1) 0 ⟨k,ag,ag,h2⟩;exact⟨this.1,by have:=this.2;unfold Flat.cx;omega,IF f _ 0 λj hj=>by omega⟩
theorem N0 (f:Flat):∀(n k:Nat),k<=f.cx->yz f.ae n k=if f.cx<k+n then(f.cx:Int) else -1
 |0,k,hk=>by rw[if_neg ag];rfl
 |n+1,k,hk=>by
  obtain⟨h1,h2,h3⟩:=vG f;have e:yz f.ae (n+1) k=if(ot f.ae (k:Int)).isNone then(k:Int) else yz f.ae n (k+1):=rfl
  rw[e];by_cases hkf:k=f.cx
  .have:(ot f.ae (k:Int)).isNone=true:=by rw[hkf];show(f.cO (f.cx:Nat)).isNone=true;rw[h1];rfl
   rw[if_pos this,if_pos ag,hkf]
  .have:¬(ot f.ae (k:Int)).isNone=true:=by
    have:=h3 k ag;rw[show f.cO (k:Int)=ot f.ae (k:Int) from rfl] at this;intro e;cases hh:ot f.ae (k:Int)<;>rw[hh] at this e<;>simp at this e
   rw[if_neg this,N0 f n (k+1) ag,show k+1+n=k+(n+1) by omega]
theorem afY (f:Flat):yz f.ae 16 0=if f.cx<16 then(f.cx:Int) else -1:=by rw[N0 f 16 0 (iG _),mU]
end Go.Pl
