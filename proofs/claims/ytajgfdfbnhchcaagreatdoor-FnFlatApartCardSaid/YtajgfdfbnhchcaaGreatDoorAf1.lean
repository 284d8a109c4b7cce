/- Lemmas of the proof. No conditions. -/
import Derived.Shelf.Small.Strs
import Derived.Shelf.Strings.Repeat
import Derived.Shelf.SlSortCmp.WholeK
import Derived.Ground.NamesProg
import Derived.Ground.SlsfProg
import Derived.Shelf.SlicesG.Cmp
import Derived.Ground.SlgcProg
import Derived.Test.YtajgfdfbnhchcaaGreatDoorProg
import Derived.Lib.MakeNoZero
import Derived.WalkKit
import Derived.Laws.StructEq
import Derived.Laws.Externs
import Derived.Shelf.GgSortFunc.InsertionK
import Derived.Test.YtajgfdfbnhchcaaGreatDoorAe10
set_option maxRecDepth 100000
set_option maxHeartbeats 4000000
set_option linter.unusedVariables false
set_option linter.unusedSimpArgs false
open Go.Proofs.Tryz
namespace Go
theorem zai{P:Prop}(h:P:=by
 have KG:=g2.1;have uv:UR (Flat.gb out ⟨Flat.eM z y (f.ad.getD i ak.ah).af,(f.ad.getD i ak.ah).id⟩):=⟨by rw[oX];omega,λx hx=>by
  rcases EY _ _ hx with rfl|hx
  .have:=Nk z y (f.ad.getD i ak.ah).af;show(Flat.eM z y (f.ad.getD i ak.ah).af).length<=5000;omega
  .exact g2.2 x hx⟩
 have Pn:(Flat.gb out ⟨Flat.eM z y (f.ad.getD i ak.ah).af,(f.ad.getD i ak.ah).id⟩).length=i+1:=by rw[oX,g3]
 by_cases e1:(f.ad.getD i ak.ah).af=z\/(z.length<(f.ad.getD i ak.ah).af.length/\(f.ad.getD i ak.ah).af.take (z.length+1)=z++[47])
 all_goals(rcases(_:_)with h;exact h)):P:=h
theorem zam{P:Prop}(h:P:=by
 have e3:¬(z.length<(f.ad.getD i ak.ah).af.length/\(f.ad.getD i ak.ah).af.take ((z.length:Int)+1).toNat=z++[47]):=λh=>e1 (.inr (by rw[show((z.length:Int)+1).toNat=z.length+1 by omega] at h;exact h))
 clear e1;(refine' Hc)
 all_goals first|(exfalso;omega;done)|contradiction|(exfalso;exact e3 ⟨ag,by assumption⟩)|skip
 all_goals exact⟨_,ag,i+1,b3,b6,_,_,_,bk,au,rfl,ag,uv,Pn,g4⟩
 all_goals(rcases(_:_)with h;exact h)):P:=h
theorem zan{P:Prop}(h:P:=by
 all_goals try refine cM
 all_goals exact⟨bB,_,_,bn,au,_,_,_,_,rfl,rfl⟩
 all_goals(rcases(_:_)with h;exact h)):P:=h
theorem zao{P:Prop}(h:P:=by
 have kQ:zl f.ad f.ae (i+1) ⟨(ew A.li (f.ad.getD i ak.ah).id ((dr A.li (f.ad.getD i ak.ah).id).getD 0+1)),(ew A.nE (av (f.ad.getD i ak.ah).af).1 ((dr A.nE (av (f.ad.getD i ak.ah).af).1).getD 0+1)),(ew A.fo (f.ad.getD i ak.ah).af (f.ae.getD t ak.ah).aD)⟩:=by
  by_cases hn:XK f.ad f.ae i
  .obtain⟨A2,h1,h2⟩:=jw.1 hn;rw[e] at h1;cases h1;exact h2
  .rw[jw.2 hn] at e;cases e
 all_goals(rcases(_:_)with h;exact h)):P:=h
theorem zap{P:Prop}(h:P:=by
 all_goals try refine cM
 all_goals exact⟨bB,_,_,bn,au,_,_,_,_,_,_,_,DQ,rfl,rfl⟩
 all_goals(rcases(_:_)with h;exact h)):P:=h
theorem zav{P:Prop}(h:P:=by
 obtain⟨ks,hm,hk⟩:=uK t xs _ h;have h1:(t=61/\ks=[0,2,1])\/(t=83/\ks=[0,0,0,0,0])\/(t=39/\ks=[1,0]):=by
  have h0:(t=39/\ks=[1,0])\/(t=61/\ks=[0,2,1])\/(t=83/\ks=[0,0,0,0,0]):=by simpa[a8] using hm
  rcases h0 with h0|h0|h0
  .exact .inr (.inr h0)
  .exact .inl h0
  .exact .inr (.inl h0)
 rcases h1 with h0|h0|h0
 all_goals(rcases(_:_)with h;exact h)):P:=h
theorem zaw{P:Prop}(h:P:=by
 have kQ:zl f.ad f.ae (i+1) ⟨(ew A.li (f.ad.getD i ak.ah).id ((dr A.li (f.ad.getD i ak.ah).id).getD 0+1)),A.nE,(ew A.fo (f.ad.getD i ak.ah).af (f.ae.getD t ak.ah).aD)⟩:=by
  by_cases hn:XK f.ad f.ae i
  .obtain⟨A2,h1,h2⟩:=jw.1 hn;rw[e] at h1;cases h1;exact h2
  .rw[jw.2 hn] at e;cases e
 all_goals(rcases(_:_)with h;exact h)):P:=h
theorem zax{P:Prop}(h:P:=by
 exact⟨_,ag,i+1,b1,b5,b6,b7,⟨(ew A.li (f.ad.getD i ak.ah).id ((dr A.li (f.ad.getD i ak.ah).id).getD 0+1)),(ew A.nE (av (f.ad.getD i ak.ah).af).1 ((dr A.nE (av (f.ad.getD i ak.ah).af).1).getD 0+1)),(ew A.fo (f.ad.getD i ak.ah).af (f.ae.getD t ak.ah).aD)⟩,hl,hL,rfl,ag,kQ,g3⟩
 all_goals(rcases(_:_)with h;exact h)):P:=h
theorem zaA{P:Prop}(h:P:=by
 show(Op.equalIn (9998+1) t _ _).run prog w=_;unfold Op.equalIn;simp only[Sem.run_bind,run_underlying h,Result.andThen_ok,if_true,Sem.run_pure]
 all_goals(rcases(_:_)with h;exact h)):P:=h
theorem zaB{P:Prop}(h:P:=by
 all_goals exact⟨_,ag,i+1,b3,b6,_,_,_,bk,au,rfl,ag,uv,Pn,g4⟩
 all_goals(rcases(_:_)with h;exact h)):P:=h
theorem zaC{P:Prop}(h:P:=by
 refine lT λh=>?_
 have h':∀k:Nat,k<=f.ae.length->∃x∈f.ae,x.id=(k:Int):=λk hk=>by
  cases hz:f.cH (k:Int) with
  |none=>exact absurd ⟨k,hk,hz⟩ h
  |some i=>
   obtain⟨h1,h2,_⟩:=oC.1 hz;exact⟨_,qS h1,by simpa using h2⟩
 all_goals(rcases(_:_)with h;exact h)):P:=h
theorem zaH{P:Prop}(h:P:=by
 exact⟨_,ag,i+1,b1,b5,b6,b7,⟨(ew A.li (f.ad.getD i ak.ah).id ((dr A.li (f.ad.getD i ak.ah).id).getD 0+1)),A.nE,(ew A.fo (f.ad.getD i ak.ah).af (f.ae.getD t ak.ah).aD)⟩,hl,hL,rfl,ag,kQ,g3⟩
 all_goals(rcases(_:_)with h;exact h)):P:=h
theorem zaL{P:Prop}(h:P:=by
 have hzl:z.length<=(f.ad.getD i ak.ah).af.length:=by rcases e1 with h|h<;>first|omega|exact Nat.le_of_eq (fI List.length h).symm
 clear e1;rcases UP with e1|⟨e0,e2,e3⟩
 all_goals(rcases(_:_)with h;exact h)):P:=h
theorem zaM{P:Prop}(h:P:=by
 have UQ:=h4 (.inr k7);have c2:¬dy f.ad pa=0:=λe=>by rw[if_pos e] at h0;cases h0
 rw[if_neg c2] at h0;have c3:¬0<=dy f.ad tq9:=λe=>by rw[if_pos e] at h0;cases h0
 all_goals(rcases(_:_)with h;exact h)):P:=h
theorem zaN{P:Prop}(h:P:=by
 obtain⟨p,hp,h1,h2,h3⟩:=x6 t m _ h;simp only[a8,bR,iR,iY] at hp;rcases hp with rfl|rfl|rfl|rfl|rfl|rfl<;>dsimp only at h1 h2 h3<;>subst h1 h2 h3<;>kernel_rfl
 all_goals(rcases(_:_)with h;exact h)):P:=h
theorem zaY{P:Prop}(h:P:=by
 have fK:∀j,1<=j->j<f.ad.length->(f.ad.getD j cu).af≠[47]:=λj h1 hj e=>by
  have:=h.B5 hj;rw[e,h.cy] at this;cases this;omega
 all_goals(rcases(_:_)with h;exact h)):P:=h
theorem zbd{P:Prop}(h:P:=by
 rw[A3,A4] at h;obtain⟨i,hi,rfl⟩:=iZ hx;obtain⟨j,hj,rfl⟩:=iZ hy;rcases CC i j with mR|mR|mR
 all_goals(rcases(_:_)with h;exact h)):P:=h
theorem zbe{P:Prop}(h:P:=by
 all_goals try refine cM
 all_goals exact⟨bB,_,_,bn,au,rfl,_,_,_,_,_,_,_,_,cA _,gX,cA _,gX,rfl⟩
 all_goals(rcases(_:_)with h;exact h)):P:=h
end Go
namespace Go.Pl
open Go Go.Ev Go.Lg Go.Proofs
section
variable {t:Nat}
theorem alO {s a c a' c' f i A}(h:Ud s a a' f i A)(b1 b5 b6 b7)(ht:kM f.ae (f.ad.getD i ak.ah).id=some t)(h0:0<i)(c1:bL (f.ad.getD ((i:Int)-1).toNat ak.ah).af (f.ad.getD i ak.ah).af=true)(c2:(dr A.fo (av (f.ad.getD i ak.ah).af).1).getD false=true)(c3:bG (av (f.ad.getD i ak.ah).af).2=true)(c7:¬12<YW f i A)(c4:9<zV f i A):JO s a c a' c' f b1 b5 b6 b7 i A:=by
 obtain⟨hf,hr,hs,hi,g2⟩:=h;intro Q hQ;unfold PG JM JN;unfold YW at c7;unfold zV at c4;refine W.ur rfl rfl ?_;have oR:=fN.n hr;have qI:=fN.t hr;have pz:=hf.tl;have nC:=hf.nl;have hx:=(hf.nm _ (aJ hi ak.ah)).1;have Cd:=hx.1;have kK:=fW (f.ad.getD i ak.ah).af;have Pu:∀ch∈(av (f.ad.getD i ak.ah).af).2,ch.toNat<128:=λch dS=>hx.2.1 ch (fV _ ch dS)
 refine' zaa
 refine' zad
 all_goals exact hQ _ _ rfl
theorem alP {s a c a' c' f i A}(h:Ud s a a' f i A)(b1 b5 b6 b7)(ht:kM f.ae (f.ad.getD i ak.ah).id=some t)(h0:0<i)(c1:bL (f.ad.getD ((i:Int)-1).toNat ak.ah).af (f.ad.getD i ak.ah).af=true)(c2:(dr A.fo (av (f.ad.getD i ak.ah).af).1).getD false=true)(c3:bG (av (f.ad.getD i ak.ah).af).2=true)(c7:¬12<YW f i A)(c4:¬9<zV f i A)(c5:(f.ae.getD t ak.ah).aD=true)(c6:1<zV f i A):JO s a c a' c' f b1 b5 b6 b7 i A:=by
 obtain⟨hf,hr,hs,hi,g2⟩:=h;intro Q hQ;unfold PG JM JN;unfold YW at c7;unfold zV at c4;unfold zV at c6;refine W.ur rfl rfl ?_;have oR:=fN.n hr;have qI:=fN.t hr;have pz:=hf.tl;have nC:=hf.nl;have hx:=(hf.nm _ (aJ hi ak.ah)).1;have Cd:=hx.1;have kK:=fW (f.ad.getD i ak.ah).af;have Pu:∀ch∈(av (f.ad.getD i ak.ah).af).2,ch.toNat<128:=λch dS=>hx.2.1 ch (fV _ ch dS)
 refine' zaa
 refine' zad
 all_goals exact hQ _ _ rfl
end
section
variable {t:Nat}
theorem afr {s a c a' c' f i A}(h:Ud s a a' f i A)(b1 b5 b6 b7)(ht:kM f.ae (f.ad.getD i ak.ah).id=some t)(h0:0<i)(c1:bL (f.ad.getD ((i:Int)-1).toNat ak.ah).af (f.ad.getD i ak.ah).af=true)(c2:(dr A.fo (av (f.ad.getD i ak.ah).af).1).getD false=true)(c3:bG (av (f.ad.getD i ak.ah).af).2=true)(c7:¬12<YW f i A)(c4:¬9<zV f i A)(c5:(f.ae.getD t ak.ah).aD=true)(c6:¬1<zV f i A):Rt s a c a' c' f b1 b5 b6 b7 i A ⟨(ew A.li (f.ad.getD i ak.ah).id ((dr A.li (f.ad.getD i ak.ah).id).getD 0+1)),(ew A.nE (av (f.ad.getD i ak.ah).af).1 ((dr A.nE (av (f.ad.getD i ak.ah).af).1).getD 0+1)),(ew A.fo (f.ad.getD i ak.ah).af (f.ae.getD t ak.ah).aD)⟩:=by
 obtain⟨hf,hr,hs,hi,g2⟩:=h;intro Q hQ;unfold PG JM JN;unfold YW at c7;unfold zV at c4;unfold zV at c6;dsimp only[JM,JN] at hQ;refine W.ur rfl rfl ?_;have oR:=fN.n hr;have qI:=fN.t hr;have pz:=hf.tl;have nC:=hf.nl;have hx:=(hf.nm _ (aJ hi ak.ah)).1;have Cd:=hx.1;have kK:=fW (f.ad.getD i ak.ah).af;have Pu:∀ch∈(av (f.ad.getD i ak.ah).af).2,ch.toNat<128:=λch dS=>hx.2.1 ch (fV _ ch dS)
 refine' zaa
 refine' zad
 all_goals exact hQ _ _ bk au
theorem afs {s a c a' c' f i A}(h:Ud s a a' f i A)(b1 b5 b6 b7)(ht:kM f.ae (f.ad.getD i ak.ah).id=some t)(h0:0<i)(c1:bL (f.ad.getD ((i:Int)-1).toNat ak.ah).af (f.ad.getD i ak.ah).af=true)(c2:(dr A.fo (av (f.ad.getD i ak.ah).af).1).getD false=true)(c3:bG (av (f.ad.getD i ak.ah).af).2=true)(c7:¬12<YW f i A)(c4:¬9<zV f i A)(c5:(f.ae.getD t ak.ah).aD=false):Rt s a c a' c' f b1 b5 b6 b7 i A ⟨(ew A.li (f.ad.getD i ak.ah).id ((dr A.li (f.ad.getD i ak.ah).id).getD 0+1)),(ew A.nE (av (f.ad.getD i ak.ah).af).1 ((dr A.nE (av (f.ad.getD i ak.ah).af).1).getD 0+1)),(ew A.fo (f.ad.getD i ak.ah).af (f.ae.getD t ak.ah).aD)⟩:=by
 obtain⟨hf,hr,hs,hi,g2⟩:=h;intro Q hQ;unfold PG JM JN;unfold YW at c7;unfold zV at c4;dsimp only[JM,JN] at hQ;refine W.ur rfl rfl ?_;have oR:=fN.n hr;have qI:=fN.t hr;have pz:=hf.tl;have nC:=hf.nl;have hx:=(hf.nm _ (aJ hi ak.ah)).1;have Cd:=hx.1;have kK:=fW (f.ad.getD i ak.ah).af;have Pu:∀ch∈(av (f.ad.getD i ak.ah).af).2,ch.toNat<128:=λch dS=>hx.2.1 ch (fV _ ch dS)
 refine' zaa
 refine' zad
 all_goals exact hQ _ _ bk au
end
end Go.Pl
namespace Go.Pl
open Go.Lg
open Go Go.Ev Go.Lg Go.Proofs
theorem aft {q:eG}{i:Nat}(hl:(q.getD i ec).aW.length<=192):tB q i=true↔(0<=(q.getD i ec).id/\(q.getD i ec).id<=15)/\(0<i->(q.getD (i-1) ec).id<(q.getD i ec).id)/\((q.getD i ec).aD=true->(q.getD i ec).aW=[]):=by
 have h1:decide (192<(q.getD i ec).aW.length)=false:=by rw[mb];omega
 unfold tB fR;rw[h1];generalize(q.getD i ec).id=x;generalize(q.getD (i-1) ec).id=y;generalize(q.getD i ec).aD=fo;generalize(q.getD i ec).aW=tx;have hd:(y<x)↔¬(x<=y):=by omega
 rw[hd];by_cases e1:x<=y<;>by_cases e2:0<i<;>by_cases e3:tx=[]<;>by_cases e4:0<=x<;>by_cases e5:x<=15<;>cases fo<;>simp_all
theorem tQ (s:St)(a:aK)(c:Nat)(a':aK)(c':Nat)(f:Flat)(hf:H0 f)(hr:cl s a a' f):bP 11 [js a c a' c' f] s (kF a a') (.bool (Q2 f)):=by
 have oR:=fN.n hr;have qI:=fN.t hr;have pz:=hf.tl;have nC:=hf.nl;have ru:=afo f;by_cases h0:fR f.ae.length 1 16=true/\f.ad.length≠0/\f.ad.getD 0 cu=⟨[47],0⟩
 .obtain⟨h1,h2,h3⟩:=h0;have adb:(1:Int)<=(f.ae.length:Int)/\(f.ae.length:Int)<=16:=by unfold fR at h1;simp at h1;omega
  have h1':1<=f.ae.length:=by unfold fR at h1;simp at h1;omega
  have SG:(!(decide (f.ad.getD 0 cu=⟨[47],0⟩)))=false:=by rw[h3];decide
  rw[h1,h3,dt h2,dt rfl,yf,yf] at ru;have ai1:∀i,i<f.ae.length->tB f.ae i≠true->Q2 f=false:=λi hi hn=>by
   have:(List.range f.ae.length).all (tB f.ae)=false:=by
    rw[F8];exact⟨i,lS.2 hi,hn⟩
   rw[ru,this];rfl
  clear h1;refine aU f11 ?_;(repeat' (first|refine' a7|refine' SR|refine' QS|refine' aw|fail))
  all_goals first|(exfalso;simp[adb.1,adb.2] at um;done)|(exfalso;omega;done)|contradiction|(exfalso;simp_all;done)|(exfalso;simp_all;omega)|skip
  refine W.bN (λm l L=>∃(i b1:Nat),Le [(1,bc b1),(33,.slice a' f.ae.length c'),(34,iv (f.ae.length:Int)),(35,iv (i:Int))] l/\cz [.box b1 (iw a c f.ad a' c' f.ae) 26 false] L/\m=f.ae.length-i/\i<=f.ae.length/\∀j,j<i->tB f.ae j=true)
   (λl L=>∃b1:Nat,Le [(1,bc b1)] l/\cz [.box b1 (iw a c f.ad a' c' f.ae) 26 false] L/\∀j,j<f.ae.length->tB f.ae j=true) _ ⟨0,_,bk,au,rfl,ag,λj hj=>by omega⟩ ?_ ?_
  .rintro m l L ⟨i,b1,hl,hL,rfl,g1,g2⟩;refine W.le ?_ hl hL;clear hl hL;by_cases hi:i<f.ae.length
   .have ku:=hf.th _ (aJ hi ak.ah);have hTi:tB f.ae i=true↔(0<=(f.ae.getD i ak.ah).id/\(f.ae.getD i ak.ah).id<=15)/\(0<i->(f.ae.getD ((i:Int)-1).toNat ak.ah).id<(f.ae.getD i ak.ah).id)/\((f.ae.getD i ak.ah).aD=true->(f.ae.getD i ak.ah).aW=[]):=by
     rw[show((i:Int)-1).toNat=i-1 by omega];exact aft (q:=f.ae) (i:=i) ku.2.2
    by_cases hT:tB f.ae i=true
    .obtain⟨c1,c2,c3⟩:=hTi.1 hT;have Ue:¬(0<i)\/(f.ae.getD ((i:Int)-1).toNat ak.ah).id<(f.ae.getD i ak.ah).id:=by
      by_cases h:0<i
      .exact .inr (c2 h)
      .exact .inl h
     clear hTi;(repeat' (first|refine' a7|refine' SR|refine' aw|fail))
     all_goals try refine NH
     all_goals(refine⟨_,ag,i+1,b1,bk,au,rfl,ag,λj hj=>?_⟩;rcases Qd.1 hj with hj|rfl<;>first|exact g2 j hj|exact hT)
    .rw[ai1 i hi hT];have hT':=λh=>hT (hTi.2 h)
     clear hTi hT;(repeat' (first|refine' a7|refine' SR|refine' aw|fail))
     all_goals first
      |(exfalso;omega;done)
      |contradiction
      |(refine⟨by(first|exact .inl rfl|exact .inr rfl),_,[],bn,cz.nil _,?_,rfl⟩;rfl)
      |(exfalso;refine hT' ⟨ag,λh=>by omega,λh=>by first|assumption|(simp_all;done)⟩)
   .have fE:i=f.ae.length:=by omega
    subst fE;(refine' cU)
    all_goals try refine NH
    all_goals exact⟨b1,bk,au,g2⟩
  .rintro l L ⟨b1,hl,hL,g2⟩;(repeat(first|(with_reducible refine aq ?_)|(with_reducible refine dH ?_)|(with_reducible refine eB ?_)))
   refine W.le ?_ hl hL;clear hl hL;have bS:(List.range f.ae.length).all (tB f.ae)=true:=gQ.2 λj hj=>g2 j (lS.1 hj)
   rw[bS,yf] at ru;have hs:=vM g2;clear ai1 bS g2;by_cases h5:(f.ae.getD 0 ec).id=0/\(f.ae.getD 0 ec).aD=true
   .obtain⟨h5,h6⟩:=h5;rw[dt h5,h6,yf,yf] at ru;(repeat' (first|refine' a7|((with_reducible apply WO.makeMap);intro bm _)|refine' aw|fail))
    all_goals try refine NH
    refine W.bN (λm l L=>∃(i b1 b5 b6 b7:Nat)(A:Acc),Le [(1,bc b1),(5,.map (some b5)),(6,.map (some b6)),(7,.map (some b7)),(94,.slice a f.ad.length c),(95,iv (f.ad.length:Int)),(96,iv (i:Int))] l/\cz [.box b1 (iw a c f.ad a' c' f.ae) 26 false,.lp b5 (mII A.li),.lp b6 (mSI A.nE),.lp b7 (mSB A.fo)] L/\m=f.ad.length-i/\i<=f.ad.length/\zl f.ad f.ae i A/\XJ f.ad f.ae f.ad.length 0 ⟨[],[],[]⟩=XJ f.ad f.ae (f.ad.length-i) i A)
     (λl L=>∃(b1 b5:Nat)(A:Acc),Le [(1,bc b1),(5,.map (some b5))] l/\cz [.box b1 (iw a c f.ad a' c' f.ae) 26 false,.lp b5 (mII A.li)] L/\XJ f.ad f.ae f.ad.length 0 ⟨[],[],[]⟩=some A) _ ⟨0,_,_,_,_,⟨[],[],[]⟩,bk,au,rfl,ag,XN _ _,rfl⟩ ?_ ?_
    .rintro m l L ⟨i,b1,b5,b6,b7,A,hl,hL,rfl,g1,g2,g3⟩;refine W.le ?_ hl hL;clear hl hL;by_cases hi:i<f.ad.length
     .rw[show f.ad.length-i=(f.ad.length-(i+1))+1 by omega,XJ] at g3;have jw:=L8 g2;have Ru:((i:Int)-1).toNat=i-1:=by omega
      have hpv:f.ad.getD (i-1) cu=(f.ad.getD ((i:Int)-1).toNat ak.ah):=by rw[Ru]
      cases ht:kM f.ae (f.ad.getD i ak.ah).id with
      |none=>
       have e:iu f.ad f.ae i A=none:=by unfold iu;rw[ht]
       rw[e] at g3;rw[g3] at ru;rw[ru];refine ifA ⟨hf,hr,hs,hi,g2⟩ b1 b5 b6 b7 ht _ (λl L h2=>?_);(repeat(first|(with_reducible refine ke ?_)|(with_reducible refine kb ?_)|(with_reducible refine iN ?_)));exact⟨by(first|exact .inl rfl|exact .inr rfl),_,[],by(apply qi.tmp;(focus(exact h2));exact qi.nil),cz.nil _,rfl,rfl⟩
      |some t=>
       by_cases h0:0<i
       .cases c1:bL (f.ad.getD ((i:Int)-1).toNat ak.ah).af (f.ad.getD i ak.ah).af with
        |false=>
         have e:iu f.ad f.ae i A=none:=by unfold iu;rw[ht];dsimp only;rw[hpv];exact if_pos ⟨h0,c1⟩
         rw[e] at g3;rw[g3] at ru;rw[ru];refine alK ⟨hf,hr,hs,hi,g2⟩ b1 b5 b6 b7 ht h0 c1 _ (λl L h2=>?_);(repeat(first|(with_reducible refine ke ?_)|(with_reducible refine kb ?_)|(with_reducible refine iN ?_)));exact⟨by(first|exact .inl rfl|exact .inr rfl),_,[],by(apply qi.tmp;(focus(exact h2));exact qi.nil),cz.nil _,rfl,rfl⟩
        |true=>
         cases c2:(dr A.fo (av (f.ad.getD i ak.ah).af).1).getD false with
         |false=>
          have e:iu f.ad f.ae i A=none:=by unfold iu;rw[ht];dsimp only;rw[hpv,if_neg (λh=>by rw[c1] at h;cases h.2),if_pos h0];unfold iIn;rw[if_pos (.inl c2)]
          rw[e] at g3;rw[g3] at ru;rw[ru];refine alL ⟨hf,hr,hs,hi,g2⟩ b1 b5 b6 b7 ht h0 c1 c2 _ (λl L h2=>?_);(repeat(first|(with_reducible refine ke ?_)|(with_reducible refine kb ?_)|(with_reducible refine iN ?_)));exact⟨by(first|exact .inl rfl|exact .inr rfl),_,[],by(apply qi.tmp;(focus(exact h2));exact qi.nil),cz.nil _,rfl,rfl⟩
         |true=>
          cases c3:bG (av (f.ad.getD i ak.ah).af).2 with
          |false=>
           have e:iu f.ad f.ae i A=none:=by unfold iu;rw[ht];dsimp only;rw[hpv,if_neg (λh=>by rw[c1] at h;cases h.2),if_pos h0];unfold iIn;rw[if_pos (.inr c3)]
           rw[e] at g3;rw[g3] at ru;rw[ru];refine alM ⟨hf,hr,hs,hi,g2⟩ b1 b5 b6 b7 ht h0 c1 c2 c3 _ (λl L h2=>?_);(repeat(first|(with_reducible refine ke ?_)|(with_reducible refine kb ?_)|(with_reducible refine iN ?_)));exact⟨by(first|exact .inl rfl|exact .inr rfl),_,[],by(apply qi.tmp;(focus(exact h2));exact qi.nil),cz.nil _,rfl,rfl⟩
          |true=>
           have c23:¬((dr A.fo (av (f.ad.getD i ak.ah).af).1).getD false=false\/bG (av (f.ad.getD i ak.ah).af).2=false):=by rw[c2,c3];decide
           by_cases c7:12<YW f i A
           .skip
            have e:iu f.ad f.ae i A=none:=by unfold iu;rw[ht];dsimp only;rw[hpv,if_neg (λh=>by rw[c1] at h;cases h.2),if_pos h0];unfold iIn;rw[if_neg c23,if_pos c7]
            rw[e] at g3;rw[g3] at ru;rw[ru];refine alN ⟨hf,hr,hs,hi,g2⟩ b1 b5 b6 b7 ht h0 c1 c2 c3 c7 _ (λl L h2=>?_);(repeat(first|(with_reducible refine ke ?_)|(with_reducible refine kb ?_)|(with_reducible refine iN ?_)));exact⟨by(first|exact .inl rfl|exact .inr rfl),_,[],by(apply qi.tmp;(focus(exact h2));exact qi.nil),cz.nil _,rfl,rfl⟩
           .by_cases c4:9<zV f i A
            .skip
             have e:iu f.ad f.ae i A=none:=by unfold iu;rw[ht];dsimp only;rw[hpv,if_neg (λh=>by rw[c1] at h;cases h.2),if_pos h0];unfold iIn;rw[if_neg c23,if_neg c7];dsimp only;unfold vb;exact if_pos (.inl c4)
             rw[e] at g3;rw[g3] at ru;rw[ru];refine alO ⟨hf,hr,hs,hi,g2⟩ b1 b5 b6 b7 ht h0 c1 c2 c3 c7 c4 _ (λl L h2=>?_);(repeat(first|(with_reducible refine ke ?_)|(with_reducible refine kb ?_)|(with_reducible refine iN ?_)));exact⟨by(first|exact .inl rfl|exact .inr rfl),_,[],by(apply qi.tmp;(focus(exact h2));exact qi.nil),cz.nil _,rfl,rfl⟩
            .cases c5:(f.ae.getD t ak.ah).aD with
             |true=>
              by_cases c6:1<zV f i A
              .skip
               have e:iu f.ad f.ae i A=none:=by unfold iu;rw[ht];dsimp only;rw[hpv,if_neg (λh=>by rw[c1] at h;cases h.2),if_pos h0];unfold iIn;rw[if_neg c23,if_neg c7];dsimp only;unfold vb;exact if_pos (.inr ⟨c5,c6⟩)
               rw[e] at g3;rw[g3] at ru;rw[ru];refine alP ⟨hf,hr,hs,hi,g2⟩ b1 b5 b6 b7 ht h0 c1 c2 c3 c7 c4 c5 c6 _ (λl L h2=>?_);(repeat(first|(with_reducible refine ke ?_)|(with_reducible refine kb ?_)|(with_reducible refine iN ?_)));exact⟨by(first|exact .inl rfl|exact .inr rfl),_,[],by(apply qi.tmp;(focus(exact h2));exact qi.nil),cz.nil _,rfl,rfl⟩
              .skip
               have e:iu f.ad f.ae i A=some ⟨(ew A.li (f.ad.getD i ak.ah).id ((dr A.li (f.ad.getD i ak.ah).id).getD 0+1)),(ew A.nE (av (f.ad.getD i ak.ah).af).1 ((dr A.nE (av (f.ad.getD i ak.ah).af).1).getD 0+1)),(ew A.fo (f.ad.getD i ak.ah).af (f.ae.getD t ak.ah).aD)⟩:=by unfold iu;rw[ht];dsimp only;rw[hpv,if_neg (λh=>by rw[c1] at h;cases h.2),if_pos h0];unfold iIn;rw[if_neg c23,if_neg c7];dsimp only;unfold vb;rw[if_neg (by rintro(h|h)<;>first|exact c4 h|exact c6 h.2)]
               refine' zao
               rw[e] at g3;refine afr ⟨hf,hr,hs,hi,g2⟩ b1 b5 b6 b7 ht h0 c1 c2 c3 c7 c4 c5 c6 _ (λl L hl hL=>?_);(repeat(first|(with_reducible refine aq ?_)|(with_reducible refine dH ?_)|(with_reducible refine eB ?_)))
               refine' zax
             |false=>
              have e:iu f.ad f.ae i A=some ⟨(ew A.li (f.ad.getD i ak.ah).id ((dr A.li (f.ad.getD i ak.ah).id).getD 0+1)),(ew A.nE (av (f.ad.getD i ak.ah).af).1 ((dr A.nE (av (f.ad.getD i ak.ah).af).1).getD 0+1)),(ew A.fo (f.ad.getD i ak.ah).af (f.ae.getD t ak.ah).aD)⟩:=by unfold iu;rw[ht];dsimp only;rw[hpv,if_neg (λh=>by rw[c1] at h;cases h.2),if_pos h0];unfold iIn;rw[if_neg c23,if_neg c7];dsimp only;unfold vb;rw[if_neg (by rintro(h|h)<;>first|exact c4 h|(rw[show(f.ae.getD t ec).aD=false from c5] at h;cases h.1))]
              refine' zao
              rw[e] at g3;refine afs ⟨hf,hr,hs,hi,g2⟩ b1 b5 b6 b7 ht h0 c1 c2 c3 c7 c4 c5 _ (λl L hl hL=>?_);(repeat(first|(with_reducible refine aq ?_)|(with_reducible refine dH ?_)|(with_reducible refine eB ?_)))
              refine' zax
       .by_cases c4:9<zV f i A
        .skip
         have e:iu f.ad f.ae i A=none:=by unfold iu;rw[ht];dsimp only;rw[if_neg (λh=>h0 h.1),if_neg h0];dsimp only;unfold vb;exact if_pos (.inl c4)
         rw[e] at g3;rw[g3] at ru;rw[ru];refine alI ⟨hf,hr,hs,hi,g2⟩ b1 b5 b6 b7 ht h0 c4 _ (λl L h2=>?_);(repeat(first|(with_reducible refine ke ?_)|(with_reducible refine kb ?_)|(with_reducible refine iN ?_)));exact⟨by(first|exact .inl rfl|exact .inr rfl),_,[],by(apply qi.tmp;(focus(exact h2));exact qi.nil),cz.nil _,rfl,rfl⟩
        .cases c5:(f.ae.getD t ak.ah).aD with
         |true=>
          by_cases c6:1<zV f i A
          .skip
           have e:iu f.ad f.ae i A=none:=by unfold iu;rw[ht];dsimp only;rw[if_neg (λh=>h0 h.1),if_neg h0];dsimp only;unfold vb;exact if_pos (.inr ⟨c5,c6⟩)
           rw[e] at g3;rw[g3] at ru;rw[ru];refine alJ ⟨hf,hr,hs,hi,g2⟩ b1 b5 b6 b7 ht h0 c4 c5 c6 _ (λl L h2=>?_);(repeat(first|(with_reducible refine ke ?_)|(with_reducible refine kb ?_)|(with_reducible refine iN ?_)));exact⟨by(first|exact .inl rfl|exact .inr rfl),_,[],by(apply qi.tmp;(focus(exact h2));exact qi.nil),cz.nil _,rfl,rfl⟩
          .skip
           have e:iu f.ad f.ae i A=some ⟨(ew A.li (f.ad.getD i ak.ah).id ((dr A.li (f.ad.getD i ak.ah).id).getD 0+1)),A.nE,(ew A.fo (f.ad.getD i ak.ah).af (f.ae.getD t ak.ah).aD)⟩:=by unfold iu;rw[ht];dsimp only;rw[if_neg (λh=>h0 h.1),if_neg h0];dsimp only;unfold vb;rw[if_neg (by rintro(h|h)<;>first|exact c4 h|exact c6 h.2)]
           refine' zaw
           rw[e] at g3;refine afp ⟨hf,hr,hs,hi,g2⟩ b1 b5 b6 b7 ht h0 c4 c5 c6 _ (λl L hl hL=>?_);(repeat(first|(with_reducible refine aq ?_)|(with_reducible refine dH ?_)|(with_reducible refine eB ?_)))
           refine' zaH
         |false=>
          have e:iu f.ad f.ae i A=some ⟨(ew A.li (f.ad.getD i ak.ah).id ((dr A.li (f.ad.getD i ak.ah).id).getD 0+1)),A.nE,(ew A.fo (f.ad.getD i ak.ah).af (f.ae.getD t ak.ah).aD)⟩:=by unfold iu;rw[ht];dsimp only;rw[if_neg (λh=>h0 h.1),if_neg h0];dsimp only;unfold vb;rw[if_neg (by rintro(h|h)<;>first|exact c4 h|(rw[show(f.ae.getD t ec).aD=false from c5] at h;cases h.1))]
          refine' zaw
          rw[e] at g3;refine afq ⟨hf,hr,hs,hi,g2⟩ b1 b5 b6 b7 ht h0 c4 c5 _ (λl L hl hL=>?_);(repeat(first|(with_reducible refine aq ?_)|(with_reducible refine dH ?_)|(with_reducible refine eB ?_)))
          refine' zaH
     .have fE:i=f.ad.length:=by omega
      subst fE;rw[Fm,XJ] at g3;(refine' cU)
      all_goals try refine rO
      all_goals exact⟨b1,b5,A,bk,au,g3⟩
    .rintro l L ⟨b1,b5,A,hl,hL,g3⟩;(repeat(first|(with_reducible refine aq ?_)|(with_reducible refine dH ?_)|(with_reducible refine eB ?_)))
     refine W.le ?_ hl hL;clear hl hL;rw[g3] at ru;(repeat' (first|refine' a7|((with_reducible apply WO.ag5);exact gP;exact rG;intro _)|refine' aw|fail))
     all_goals(refine⟨by(first|exact .inl rfl|exact .inr rfl),_,[],bn,cz.nil _,?_,rfl⟩;rw[ru];refine fI Value.bool ?_;show decide _=decide _;rw[Gg];omega)
   .have qE:Q2 f=false:=by
     rw[ru];by_cases e1:(f.ae.getD 0 ec).id=0
     .cases e2:(f.ae.getD 0 ec).aD with
      |false=>rw[dt e1];rfl
      |true=>exact absurd ⟨e1,e2⟩ h5
     .rw[gS e1];rfl
    rw[qE];(repeat' (first|refine' a7|((with_reducible apply WO.makeMap);intro bm _)|refine' aw|fail))
    all_goals first
      |(exfalso;omega;done)
      |contradiction
      |(refine⟨by(first|exact .inl rfl|exact .inr rfl),_,[],bn,cz.nil _,?_,rfl⟩;rfl)
      |(exfalso;refine h5 ⟨by first|assumption|omega,by first|assumption|(simp_all;done)⟩)
 .have qE:Q2 f=false:=by
   rw[ru];cases e1:fR f.ae.length 1 16 with
   |false=>rfl
   |true=>
    by_cases e2:f.ad.length≠0
    .by_cases e3:f.ad.getD 0 cu=⟨[47],0⟩
     .exact absurd ⟨e1,e2,e3⟩ h0
     .rw[gS e3];simp
    .rw[gS e2];simp
  rw[qE];clear ru;refine aU f11 ?_;(repeat' (first|refine' a7|refine' SR|refine' QS|refine' aw|fail))
  all_goals first
   |(exfalso;omega;done)
   |contradiction
   |(refine⟨by(first|exact .inl rfl|exact .inr rfl),_,[],bn,cz.nil _,?_,rfl⟩;rfl)
   |(exfalso;refine h0 ⟨by unfold fR;simp;omega,ag,by assumption⟩)
end Go.Pl
namespace Go.Pl
open Go.Lg
section
variable {f:Flat}{i j k:Nat}{z:aA}
theorem ic.sn (h:ic f):kE f.ad:=by
 refine tV.2 λi j hi hj mR=>?_
 have:=XL (λj h1 hj=>((h.nm j hj).2.1 h1).1) (j-i-1) i ag;rw[show i+(j-i-1)+1=j by omega,aR,bd hi,aR,bd hj] at this;exact this
theorem ic.st (h:ic f):gi f.ae:=vM h.tb
theorem ic.n1 (h:ic f):0<f.ad.length:=by have:=h.n0;omega
theorem ic.q1 (h:ic f):0<f.ae.length:=by have:=h.tl;unfold fR at this;simp at this;omega
theorem ic.q16 (h:ic f):f.ae.length<=16:=by have:=h.tl;unfold fR at this;simp at this;omega
theorem ic.B5 (h:ic f)(hi:i<f.ad.length):sT f.ad (f.ad.getD i cu).af=some i:=by
 refine mF (d:=cu) hi (by simp) λj hj e=>?_
 rw[bQ] at e;exact np (qv h.sn cu hj hi) e
theorem ic.zJ (_h:ic f)(hz:sT f.ad z=some i):i<f.ad.length/\(f.ad.getD i cu).af=z:=by
 obtain⟨h1,h2,_⟩:=oC.1 hz;refine⟨h1,?_⟩;rw[aR,bd h1];simpa using h2
theorem ic.idr (h:ic f)(hi:i<f.ad.length):0<=(f.ad.getD i cu).id/\(f.ad.getD i cu).id<=15:=by
 obtain⟨t,ht⟩:=ju.1 (h.nm i hi).1;obtain⟨h1,h2⟩:=rK ht;have:=h.tb t h1;unfold tB fR at this;simp only[bU,bQ] at this;rw[<-h2];exact this.1.1.1
theorem ic.ml (_h:ic f)(hz:sT f.ad z=some i):dy f.ad z=(f.ad.getD i cu).id:=by unfold dy;rw[hz]
theorem ic.ld0 (h:ic f)(z:aA):0<=dy f.ad z↔(sT f.ad z).isSome=true:=by
 unfold dy;cases hz:sT f.ad z with
 |none=>simp
 |some i=>have:=h.idr (h.zJ hz).1;simp;exact this.1
theorem ic.xY (h:ic f)(z:aA):dy f.ad z<0↔sT f.ad z=none:=by
 have:=h.ld0 z;cases hz:sT f.ad z with
 |none=>rw[hz] at this;simp at this;simp;exact this
 |some i=>rw[hz] at this;simp at this;simp;exact this
theorem ic.ZF (_h:ic f):gC f.ae (f.ad.getD i cu).id=tH f.ad f.ae i:=rfl
theorem ic.uniq (h:ic f)(hi:i<f.ad.length)(hj:j<f.ad.length)(hid:(f.ad.getD i cu).id=(f.ad.getD j cu).id)(hf:tH f.ad f.ae i=true):i=j:=by
 have key:∀a b,a<b->b<f.ad.length->(f.ad.getD a cu).id=(f.ad.getD b cu).id->tH f.ad f.ae b=true->False:=λa b kK hb hid hf=>by
  have h1:=(h.nm b hb).2.2.2 hf;rw[tI,if_pos rfl] at h1;have:=XR kK hid;omega
 have hfj:tH f.ad f.ae j=true:=by unfold tH at hf⊢;rw[<-hid];exact hf
 rcases CC i j with du|heq|du
 .exact(key i j du hj hid hfj).elim
 .exact heq
 .exact(key j i du hi hid.symm hf).elim
theorem ic.fb0 (h:ic f):tH f.ad f.ae 0=true:=by
 unfold tH;rw[h.nr];show(match kM f.ae 0 with|none=>false|some t=>(f.ae.getD t ec).aD)=true;have:=Ek h.st h.q1;rw[h.t0] at this;rw[this];exact h.tf
theorem ic.cy (h:ic f):sT f.ad [47]=some 0:=by
 have:=h.B5 h.n1
 rwa [h.nr] at this
theorem ic.zK (h:ic f)(hz:sT f.ad z=some i):dy f.ad z=0↔z=[47]:=by
 rw[h.ml hz];obtain⟨hi,hp⟩:=h.zJ hz;constructor
 .intro h0;have:=h.uniq h.n1 hi (by rw[h0,h.nr]) h.fb0;subst this;rw[<-hp,h.nr]
 .intro e;subst e;rw[h.cy] at hz;cases hz
  rw[h.nr]
theorem ic.par (h:ic f)(h1:1<=j)(hj:j<f.ad.length):∃m,m<j/\sT f.ad (av (f.ad.getD j cu).af).1=some m/\tH f.ad f.ae m=true/\(f.ad.getD m cu).af=(av (f.ad.getD j cu).af).1:=by
 obtain⟨_,⟨m,hm,hp,hf⟩,_⟩:=(h.nm j hj).2.1 h1;exact⟨m,hm,by rw[<-hp];exact h.B5 ag,hf,hp⟩
theorem ic.abB (h:ic f)(z:aA):f.nD z=cN f.ad f.ad.length z:=by
 rw[XQ];unfold Flat.nD;refine Gi λx hx=>?_
 obtain⟨j,hj,rfl⟩:=iZ hx;rw[List.length_tail] at hj;have:=pF ((h.nm (j+1) ag).2.1 ag).2.2.1;rw[aR,bd ag] at this;have e:f.ad.tail[j]=f.ad[j+1]:=List.getElem_tail _;rw[e];have this:aP f.ad[j+1].af=av f.ad[j+1].af:=this;rw[this]
theorem ic.YX (h:ic f)(hk:k<f.ad.length):NJ f.ad (f.ad.getD k cu).id=f.nD (f.ad.getD k cu).af:=by
 rw[h.abB];unfold NJ cN;rw[<-pP (inJ f.ad (f.ad.getD k cu).id) cu f.ad];refine Gi λj hj=>?_
 have hj:=lS.1 hj;unfold inJ;by_cases h0:j=0
 .subst h0;rw[h.nr];simp[av,dQ]
 .obtain⟨m,hm,Fj,hfm,hpm⟩:=h.par (show 1<=j by omega) hj;have qE:=((h.nm j hj).2.1 ag).2.2.1;have fK:(av (f.ad.getD j cu).af).2≠[]:=λe=>by rw[e] at qE;cases qE
  rw[h.ml Fj,dt fK,dt (show 1<=j by omega),yf,yf,bQ,bQ,<-hpm];constructor
  .intro e;rw[h.uniq ag hk e hfm]
  .intro e;have h1:=h.B5 (show m<f.ad.length by omega);rw[e,h.B5 hk] at h1;cases h1;rfl
theorem ic.ade (h:ic f)(hk:k<f.ad.length)(hf:tH f.ad f.ae k=false):f.nD (f.ad.getD k cu).af=0:=by
 rw[h.abB];unfold cN;rw[uz];intro j hj e;have hj:=lS.1 hj;rw[bU,bQ,bQ] at e;obtain⟨m,hm,Fj,hfm,hpm⟩:=h.par e.1 hj;have h1:=h.B5 (show m<f.ad.length by omega);rw[hpm,e.2,h.B5 hk] at h1;cases h1
 rw[hf] at hfm;cases hfm
theorem ic.alQ (_h:ic f):f.ig (f.ad.getD i cu).id=tH f.ad f.ae i:=(Jm f i).symm
theorem H2 (f:Flat):∀(n k:Nat),(∀j,j<k->(f.cH (j:Int)).isSome=true)->∀j,j<f.yJ n k->(f.cH (j:Int)).isSome=true
 |0,k,h,j,hj=>h j hj
 |n+1,k,h,j,hj=>by
  have e:f.yJ (n+1) k=if(f.cH (k:Int)).isSome then f.yJ n (k+1) else k:=rfl
  rw[e] at hj;by_cases hk:(f.cH (k:Int)).isSome=true
  .rw[if_pos hk] at hj;refine H2 f n (k+1) (λj hj=>?_) j hj;by_cases hjk:j=k
   .rw[hjk];exact hk
   .exact h j ag
  .rw[if_neg hk] at hj;exact h j hj
theorem YY (f:Flat):∃k:Nat,k<=f.ae.length/\f.cH (k:Int)=none:=by
 refine' zaC
 have:=pQ ((List.range (f.ae.length+1)).map λ(k:Nat)=>(k:Int)) (f.ae.map bC.id) (by
  rw[A3,A4];exact(List.nodup_range).imp λ{a b} fK he=>fK ag) (λx hx=>by
  obtain⟨k,hk,rfl⟩:=kO.1 hx;obtain⟨y,hy,he⟩:=h' k (by have:=lS.1 hk;omega);exact kO.2 ⟨y,hy,he⟩)
 rw[ux,ux,Km] at this;omega
theorem H3 (f:Flat):∀(m id:Nat),(∃k:Nat,id<=k/\k<id+m/\f.cH (k:Int)=none)->f.cH (f.yJ m id:Nat)=none/\f.yJ m id<id+m
 |0,id,⟨k,h1,h2,h3⟩=>by omega
 |m+1,id,⟨k,h1,h2,h3⟩=>by
  have e:f.yJ (m+1) id=if(f.cH (id:Int)).isSome then f.yJ m (id+1) else id:=rfl
  rw[e];cases hz:f.cH (id:Int) with
  |none=>rw[if_neg (by decide)];exact⟨hz,ag⟩
  |some j=>
   rw[if_pos (show(some j).isSome=true from rfl)];have:=H3 f m (id+1) ⟨k,by
    have:k≠id:=λe=>by rw[e,hz] at h3;cases h3
    omega,ag,h3⟩
   exact⟨this.1,ag⟩
theorem vm (f:Flat):f.cH (f.cj:Nat)=none/\f.cj<=f.ae.length/\∀j,j<f.cj->(f.cH (j:Int)).isSome=true:=by
 obtain⟨k,h1,h2⟩:=YY f;have:=H3 f (f.ae.length+1) 0 ⟨k,ag,ag,h2⟩;exact⟨this.1,by have:=this.2;unfold Flat.cj;omega,H2 f _ 0 λj hj=>by omega⟩
theorem Nd (f:Flat):∀(n k:Nat),k<=f.cj->zU f.ae n k=if f.cj<k+n then(f.cj:Int) else -1
 |0,k,hk=>by rw[if_neg ag];rfl
 |n+1,k,hk=>by
  obtain⟨h1,h2,h3⟩:=vm f;have e:zU f.ae (n+1) k=if(kM f.ae (k:Int)).isNone then(k:Int) else zU f.ae n (k+1):=rfl
  rw[e];by_cases hkf:k=f.cj
  .have:(kM f.ae (k:Int)).isNone=true:=by rw[hkf];show(f.cH (f.cj:Nat)).isNone=true;rw[h1];rfl
   rw[if_pos this,if_pos ag,hkf]
  .have:¬(kM f.ae (k:Int)).isNone=true:=by
    have:=h3 k ag;rw[show f.cH (k:Int)=kM f.ae (k:Int) from rfl] at this;intro e;cases hh:kM f.ae (k:Int)<;>rw[hh] at this e<;>simp at this e
   rw[if_neg this,Nd f n (k+1) ag,show k+1+n=k+(n+1) by omega]
theorem afu (f:Flat):zU f.ae 16 0=if f.cj<16 then(f.cj:Int) else -1:=by
 rw[Nd f 16 0 (iJ _),nF]
end
section
variable {f:Flat}{z:aA}
theorem xZ (hk:sT f.ad (aP z).1=none):f.bD z=if z=[47] then 3 else 2:=by
 unfold Flat.bD;rw[show f.dq (aP z).1=none from hk]
theorem tR {k:Nat}(hk:sT f.ad (aP z).1=some k):f.bD z=if z=[47] then 3 else if tH f.ad f.ae k=false then 4 else if(sT f.ad z).isSome=true then 3 else 0:=by
 unfold Flat.bD;rw[show f.dq (aP z).1=some k from hk];show(if z=[47] then 3 else if(!f.ig (f.ad.getD k cu).id)=true then 4 else if(f.dq z).isSome=true then 3 else 0)=_;rw[show f.ig (f.ad.getD k cu).id=tH f.ad f.ae k from(Jm f k).symm];cases tH f.ad f.ae k<;>rfl
theorem oq (h:¬0<f.bD z):sT f.ad z=none/\z≠[47]/\∃k,sT f.ad (aP z).1=some k/\tH f.ad f.ae k=true:=by
 cases hk:sT f.ad (aP z).1 with
 |none=>
  rw[xZ hk] at h;split at h<;>exact absurd (by decide) h
 |some k=>
  rw[tR hk] at h;by_cases h1:z=[47]
  .rw[if_pos h1] at h;exact absurd (by decide) h
  .rw[if_neg h1] at h;cases h2:tH f.ad f.ae k with
   |false=>rw[if_pos h2] at h;exact absurd (by decide) h
   |true=>
    rw[if_neg (by rw[h2];decide)] at h;cases h3:sT f.ad z with
    |some m=>rw[h3,if_pos (show(some m).isSome=true from rfl)] at h;exact absurd (by decide) h
    |none=>exact⟨rfl,h1,k,rfl,h2⟩
theorem qA (hz:aT z=true)(h1:z≠[47]):Ev.db z=(aP z).1:=if_pos ⟨hz,h1⟩
theorem AO (h:ic f)(hz:aT z=true)(cC:Bool):uw f.ad f.ae z cC=if 0<f.bD z then f.bD z else if cC=true\/12<=f.nD (aP z).1 then 6 else 0:=by
 unfold uw;by_cases h1:z=[47]
 .subst h1;have:f.bD [47]=3:=by rw[tR (k:=0) h.cy,if_pos rfl]
  rw[if_pos rfl,this];rfl
 rw[if_neg h1,qA hz h1];cases hk:sT f.ad (aP z).1 with
 |none=>
  rw[if_pos ((h.xY _).2 hk),xZ hk,if_neg h1];rfl
 |some k=>
  have BW:=h.zJ hk;rw[if_neg (λe=>by rw[(h.xY _).1 e] at hk;cases hk),h.ml hk,h.ZF,tR hk,if_neg h1];cases h2:tH f.ad f.ae k with
  |false=>rw[if_pos rfl,if_pos rfl];rfl
  |true=>
   rw[if_neg (show ¬(true=false) by decide),if_neg (show ¬(true=false) by decide)];cases h3:sT f.ad z with
   |some m=>
    rw[if_pos ((h.ld0 z).2 (by rw[h3];rfl)),if_pos (show(some m).isSome=true from rfl)];rfl
   |none=>
    have hn:¬0<=dy f.ad z:=λe=>by have:=(h.ld0 z).1 e;rw[h3] at this;cases this
    rw[if_neg hn,if_neg (show ¬(none:Option Nat).isSome=true from jT),h.YX BW.1,BW.2];rfl
theorem qB (h:sT f.ad z=none):∀y∈f.ad,y.af≠z:=λy hy e=>by
 have:=CH.1 h y hy;rw[mb] at this;exact this e
theorem zL {n:Int}(h:kM f.ae n=none):∀y∈f.ae,y.id≠n:=λy hy e=>by
 have:=CH.1 h y hy;rw[mb] at this;exact this e
theorem abC (h:ic f)(hz:aT z=true)(fo:Bool):f.make z fo=if uw f.ad f.ae z (decide (zU f.ae 16 0<0))=0 then(⟨Ev.gT (f.ad++[⟨z,zU f.ae 16 0⟩]),Ev.gZ (f.ae++[⟨zU f.ae 16 0,fo,[]⟩])⟩,0) else(f,uw f.ad f.ae z (decide (zU f.ae 16 0<0))):=by
 rw[AO h hz];unfold Flat.make;by_cases h0:0<f.bD z
 .rw[if_pos h0,if_pos h0,if_neg ag]
 rw[if_neg h0,if_neg h0];obtain⟨h1,h2,k,h3,h4⟩:=oq h0;obtain⟨g1,g2,g3⟩:=vm f;have hr:=afu f;show(if 16<=f.cj\/12<=f.nD (aP z).1 then(f,(6:Int)) else(Flat.add ⟨f.ad,Flat.oN f.ae ⟨f.cj,fo,[]⟩⟩ z f.cj,0))=_;by_cases h5:f.cj<16
 .rw[if_pos h5] at hr;rw[hr,show decide ((f.cj:Int)<0)=false by rw[mb];omega];by_cases h6:12<=f.nD (aP z).1
  .have a1:(if false=true\/12<=f.nD (aP z).1 then(6:Int) else 0)=6:=if_pos (.inr h6);rw[if_pos (show 16<=f.cj\/12<=f.nD (aP z).1 from .inr h6),a1,if_neg (by decide)]
  .have a1:(if false=true\/12<=f.nD (aP z).1 then(6:Int) else 0)=0:=if_neg (by rintro(e|e)<;>first|cases e|exact h6 e);rw[if_neg (show ¬(16<=f.cj\/12<=f.nD (aP z).1) by omega),a1,if_pos rfl,xK h.sn (qB h1),En h.st (zL (n:=(f.cj:Int)) g1)];rfl
 .rw[if_neg h5] at hr;have a1:(if decide ((-1:Int)<0)=true\/12<=f.nD (aP z).1 then(6:Int) else 0)=6:=if_pos (.inl (by decide));rw[hr,if_pos (show 16<=f.cj\/12<=f.nD (aP z).1 from .inl ag),a1,if_neg (by decide)]
theorem abD (h:ic f){z y:aA}(hy:aT y=true):f.link z y=if dy f.ad z<0 then(f,2) else if gC f.ae (dy f.ad z)=true then(f,4) else if uw f.ad f.ae y (decide (9<=rQ f.ad (dy f.ad z)))=0 then(⟨Ev.gT (f.ad++[⟨y,dy f.ad z⟩]),Ev.gZ f.ae⟩,0) else(f,uw f.ad f.ae y (decide (9<=rQ f.ad (dy f.ad z)))):=by
 rw[AO h hy];unfold Flat.link;cases hk:sT f.ad z with
 |none=>
  rw[show f.dq z=none from hk,if_pos ((h.xY _).2 hk)]
 |some k=>
  rw[show f.dq z=some k from hk,if_neg (λe=>by rw[(h.xY _).1 e] at hk;cases hk),h.ml hk,h.ZF];show(if f.ig (f.ad.getD k cu).id=true then(f,(4:Int)) else if 0<f.bD y then(f,f.bD y) else if 9<=f.many (f.ad.getD k cu).id\/12<=f.nD (aP y).1 then(f,6) else(f.add y (f.ad.getD k cu).id,0))=_;rw[h.alQ];by_cases h1:tH f.ad f.ae k=true
  .rw[if_pos h1,if_pos h1]
  rw[if_neg h1,if_neg h1];by_cases h0:0<f.bD y
  .rw[if_pos h0,if_pos h0,if_neg ag]
  rw[if_neg h0,if_neg h0];obtain⟨g1,_⟩:=oq h0;show(if 9<=rQ f.ad (f.ad.getD k cu).id\/12<=f.nD (aP y).1 then _ else _)=_;by_cases h6:9<=rQ f.ad (f.ad.getD k cu).id\/12<=f.nD (aP y).1
  .have h6':decide (9<=rQ f.ad (f.ad.getD k cu).id)=true\/12<=f.nD (aP y).1:=by rw[bQ];exact h6
   have a1:(if decide (9<=rQ f.ad (f.ad.getD k cu).id)=true\/12<=f.nD (aP y).1 then(6:Int) else 0)=6:=if_pos h6';rw[if_pos h6,a1,if_neg (by decide)]
  .have h6':¬(decide (9<=rQ f.ad (f.ad.getD k cu).id)=true\/12<=f.nD (aP y).1):=by rw[bQ];exact h6
   have a1:(if decide (9<=rQ f.ad (f.ad.getD k cu).id)=true\/12<=f.nD (aP y).1 then(6:Int) else 0)=0:=if_neg h6';rw[if_neg h6,a1,if_pos rfl,xK h.sn (qB g1),nq h.st];rfl
theorem H4 {l m:List a6}(h:kE l)(hs:m.Sublist l):kE m:=List.Pairwise.sublist hs h
theorem H5 {l m:eG}(h:gi l)(hs:m.Sublist l):gi m:=List.Pairwise.sublist hs h
theorem abE {q:eG}(hs:gi q){n:Int}{x:Nat}(hx:kM q n=some x):q.filter (λy=>!decide (y.id=n))=q.take x++q.drop (x+1):=by
 obtain⟨h1,h2⟩:=rK hx;have ni:q=q.take x++q.getD x ec::q.drop (x+1):=by
  rw[aR,bd h1];show q=q.take x++q[x]::q.drop (x+1);rw[<-wA h1,yd]
 have fK:∀j,j<q.length->j≠x->(q.getD j ec).id≠n:=λj hj hjx e=>by
  have:=Ek hs hj;rw[e,hx] at this;cases this;exact hjx rfl
 have e1:(q.take x).filter (λy=>!decide (y.id=n))=q.take x:=CI.2 λy hy=>by
  obtain⟨j,hj,rfl⟩:=iZ hy;rw[cZ] at hj;have:=fK j ag ag;rw[aR,bd ag] at this;rw[List.getElem_take];simpa using this
 have e2:(q.drop (x+1)).filter (λy=>!decide (y.id=n))=q.drop (x+1):=CI.2 λy hy=>by
  obtain⟨j,hj,rfl⟩:=iZ hy;rw[gd] at hj;have:=fK (x+1+j) ag ag;rw[aR,bd ag] at this;rw[List.getElem_drop];simpa using this
 have e3:q.filter (λy=>!decide (y.id=n))=(q.take x++q.getD x ec::q.drop (x+1)).filter (λy=>!decide (y.id=n)):=fI _ ni;rw[e3,pW,tU,e1,e2,if_neg (by rw[h2];simp)]
theorem YZ (h:ic f):f.dY z=if dy f.ad z<0 then(f,2) else if dy f.ad z=0\/(gC f.ae (dy f.ad z)=true/\0<NJ f.ad (dy f.ad z)) then(f,5) else(⟨Ev.gT (wQ f.ad f.ae z (dy f.ad z)).1,Ev.gZ (wQ f.ad f.ae z (dy f.ad z)).2⟩,0):=by
 unfold Flat.dY;cases hk:sT f.ad z with
 |none=>
  rw[show f.dq z=none from hk,if_pos ((h.xY _).2 hk)]
 |some k=>
  obtain⟨BW,By⟩:=h.zJ hk;rw[show f.dq z=some k from hk,if_neg (λe=>by rw[(h.xY _).1 e] at hk;cases hk)];have I6:=h.ml hk;obtain⟨x,hx⟩:=ju.1 (h.nm k BW).1;show(if z=[47]\/0<f.nD z then(f,(5:Int)) else if(f.less z).many (f.ad.getD k cu).id=0 then(match(f.less z).cH (f.ad.getD k cu).id with
   |none=>(f.less z,0)
   |some x=>(⟨(f.less z).ad,(f.less z).ae.take x++(f.less z).ae.drop (x+1)⟩,0)) else(f.less z,0))=_
  have hf0:=h.ade BW;rw[By] at hf0;have Tz:(f.ad.filter λx=>decide (x.af≠z))=f.ad.filter λx=>!decide (x.af=z):=by
   congr 1;funext y;simp
  have tc:=H4 h.sn (AX (p:=λx=>!decide (x.af=z)));have hC:(dy f.ad z=0\/(gC f.ae (dy f.ad z)=true/\0<NJ f.ad (dy f.ad z)))↔(z=[47]\/0<f.nD z):=by
   rw[h.zK hk,I6,h.ZF,h.YX BW,By];constructor
   .rintro(h1|h1)
    .exact .inl h1
    .exact .inr h1.2
   .rintro(h1|h1)
    .exact .inl h1
    .refine .inr ⟨?_,h1⟩;cases hb:tH f.ad f.ae k with
     |true=>rfl
     |false=>rw[hf0 hb] at h1;omega
  by_cases h1:z=[47]\/0<f.nD z
  .rw[if_pos h1,if_pos (hC.2 h1)]
  .rw[if_neg h1,if_neg (λe=>h1 (hC.1 e)),I6];unfold wQ;dsimp only;rw[vd tc];show(if rQ (f.ad.filter λx=>decide (x.af≠z)) (f.ad.getD k cu).id=0 then(match kM f.ae (f.ad.getD k cu).id with
    |none=>_
    |some x=>_) else _)=_
   rw[hx,Tz];unfold Flat.less;rw[Tz];by_cases h2:rQ (f.ad.filter λx=>!decide (x.af=z)) (f.ad.getD k cu).id=0
   .rw[if_pos h2,if_pos h2,nq (H5 h.st AX),abE h.st hx]
   .rw[if_neg h2,if_neg h2,nq h.st]
end
section
variable {f:Flat}{y z:aA}
theorem Rv:∀n:Nat,Ev.yL [0] n=List.replicate n 0
 |0=>rfl
 |n+1=>by
  show [0]++Ev.yL [0] n=_;rw[Rv n,List.replicate_succ];rfl
theorem JP (t:aA)(n:Int):XS t n=t++List.replicate (n-t.length).toNat 0:=by
 unfold XS;rw[Rv,show(max 0 (n-(t.length:Int))).toNat=(n-(t.length:Int)).toNat by omega]
theorem afv (t:aA)(a:Int):ctJ a t=(t++ir (a-t.length)).take a.toNat:=by
 unfold ctJ;rw[JP];rfl
theorem afw (t x:aA)(a:Nat):wrJ (a:Int) x t=ga t a x:=by
 unfold wrJ ga;rw[JP];show _=(t++List.replicate ((a:Int)-(t.length:Int)).toNat 0).take a++x++(t++List.replicate ((a:Int)-(t.length:Int)).toNat 0).drop (min (t++List.replicate ((a:Int)-(t.length:Int)).toNat 0).length (a+x.length));have e1:(t++List.replicate ((a:Int)+(x.length:Int)-(t.length:Int)).toNat 0).take (a:Int).toNat=(t++List.replicate ((a:Int)-(t.length:Int)).toNat 0).take a:=by
  rw[AW,AW,List.take_replicate,List.take_replicate];rw[show(a:Int).toNat=a from rfl,show min (a-t.length) ((a:Int)+(x.length:Int)-(t.length:Int)).toNat=min (a-t.length) ((a:Int)-(t.length:Int)).toNat by omega]
 have e2:(t++List.replicate ((a:Int)+(x.length:Int)-(t.length:Int)).toNat 0).drop ((a:Int).toNat+x.length)=(t++List.replicate ((a:Int)-(t.length:Int)).toNat 0).drop (min (t++List.replicate ((a:Int)-(t.length:Int)).toNat 0).length (a+x.length)):=by
  rw[show(a:Int).toNat=a from rfl];by_cases h:a+x.length<=t.length
  .rw[show((a:Int)+(x.length:Int)-(t.length:Int)).toNat=0 by omega,show((a:Int)-(t.length:Int)).toNat=0 by omega];simp only[List.replicate_zero,ix];rw[Nat.min_eq_right h]
  .rw[ye (by rw[bJ,ry];omega),ye];rw[bJ,ry];omega
 rw[e1,e2]
theorem AP {q:eG}(hs:gi q){x:Nat}{y:bC}(hy:y.id=(q.getD x ec).id):gi (q.set x y):=by
 refine tV.2 λi j hi hj mR=>?_
 rw[gE] at hi hj;have h0:=tV.1 hs i j hi hj mR;have key:∀k (hk:k<q.length),((q.set x y)[k]'(by rw[gE];exact hk)).id=q[k].id:=λk hk=>by
  rw[List.getElem_set];split
  .rename_i e;subst e;rw[hy,aR,bd hk];rfl
  .rfl
 rw[key i hi,key j hj];exact h0
theorem PH (h:ic f)(kd:Int)(pa tq9:aA)(a:Nat)(tx:aA)(hk:kd=3\/kd=4):f.change ⟨kd,pa,tq9,(a:Int),tx⟩=if dy f.ad pa<0 then(f,2) else if gC f.ae (dy f.ad pa)=true then(f,4) else if 192<(a:Int)+tx.length then(f,6) else(⟨Ev.gT (rR f.ad f.ae ⟨kd,pa,tq9,(a:Int),tx⟩).1,Ev.gZ (rR f.ad f.ae ⟨kd,pa,tq9,(a:Int),tx⟩).2⟩,0):=by
 unfold Flat.change;cases hn:sT f.ad pa with
 |none=>rw[show f.dq pa=none from hn,if_pos ((h.xY _).2 hn)]
 |some k=>
  obtain⟨BW,By⟩:=h.zJ hn;have I6:=h.ml hn;rw[show f.dq pa=some k from hn,if_neg (λe=>by rw[(h.xY _).1 e] at hn;cases hn)];obtain⟨x,hx⟩:=ju.1 (h.nm k BW).1;show(match kM f.ae (f.ad.getD k cu).id with
   |none=>(f,(0:Int))
   |some x=>if(f.ae.getD x ec).aD=true then(f,4) else if 192<(a:Int)+tx.length then(f,6) else if kd=4 then(f.yK x (((f.ae.getD x ec).aW++ir ((a:Int)-((f.ae.getD x ec).aW.length:Int))).take (a:Int).toNat),0) else if tx≠[] then(f.yK x (ga (f.ae.getD x ec).aW (a:Int).toNat tx),0) else(f,0))=_
  have BR:gC f.ae (dy f.ad pa)=(f.ae.getD x ec).aD:=by unfold gC;rw[I6,hx]
  rw[hx];show(if(f.ae.getD x ec).aD=true then(f,(4:Int)) else _)=_;rw[<-BR];by_cases h1:gC f.ae (dy f.ad pa)=true
  .rw[if_pos h1,if_pos h1]
  rw[if_neg h1,if_neg h1];by_cases h2:192<(a:Int)+tx.length
  .rw[if_pos h2,if_pos h2]
  rw[if_neg h2,if_neg h2];have Br:∀g,uf f.ae (dy f.ad pa) g=f.ae.set x ⟨(f.ae.getD x ec).id,(f.ae.getD x ec).aD,g (f.ae.getD x ec).aW⟩:=λg=>by unfold uf;rw[I6,hx]
  have jw:∀g:aA,gi (f.ae.set x ⟨(f.ae.getD x ec).id,(f.ae.getD x ec).aD,g⟩):=λg=>AP h.st rfl
  rcases hk with rfl|rfl
  .rw[if_neg (show ¬(3:Int)=4 by decide)];have hJ:rR f.ad f.ae ⟨3,pa,tq9,(a:Int),tx⟩=(f.ad,if tx=[] then f.ae else uf f.ae (dy f.ad pa) (wrJ (a:Int) tx)):=by
    unfold rR;dsimp only;rw[if_neg (by decide),if_pos rfl]
   rw[hJ];dsimp only;by_cases h3:tx=[]
   .rw[if_neg (λe=>e h3),if_pos h3,vd h.sn,nq h.st]
   .rw[if_pos h3,if_neg h3,Br,afw,vd h.sn,nq (jw _)];rfl
  .rw[if_pos rfl];have hJ:rR f.ad f.ae ⟨4,pa,tq9,(a:Int),tx⟩=(f.ad,uf f.ae (dy f.ad pa) (ctJ (a:Int))):=by
    unfold rR;dsimp only;rw[if_neg (by decide),if_neg (by decide),if_pos rfl]
   rw[hJ];dsimp only;rw[Br,afv,vd h.sn,nq (jw _)];rfl
theorem zM:∀(z:aA)(t:Nat),dQ z=some t->∀i,t<i->i<z.length->z.getD i 0≠47
 |[],t,h,i,hi,hl=>by cases h
 |c::z,t,h,i,hi,hl=>by
  unfold dQ at h;obtain⟨i,rfl⟩:∃k,i=k+1:=⟨i-1,ag⟩;rw[AY];split at h
  .rename_i j hj;cases h
   exact zM z j hj i ag (by simpa using hl)
  .rename_i hz;have hl:i<z.length:=by simpa using hl
   exact AI z hz _ (by rw[aR,bd hl];exact qS hl)
theorem ic.closed (h:ic f)(hy:y≠[]):∀(n j:Nat),j<=n->j<f.ad.length->∀r,(f.ad.getD j cu).af=y++47::r->∃m,m<f.ad.length/\(f.ad.getD m cu).af=y
 |n,j,hjn,hj,r,hp=>by
  have hyl:0<y.length:=oD.2 hy;by_cases h0:j=0
  .subst h0;rw[h.nr] at hp;have:=fI List.length hp;simp at this;omega
  .obtain⟨m,hm,Fj,hfm,hpm⟩:=h.par (show 1<=j by omega) hj;have qE:=((h.nm j hj).2.1 ag).2.2.1;cases hl:dQ (f.ad.getD j cu).af with
   |none=>unfold av at qE;rw[hl] at qE;cases qE
   |some t=>
    have nJ:y.length<=t:=by
     refine lT λdu=>?_
     have h1:=zM _ t hl y.length ag (by rw[hp,bJ];simp);rw[hp] at h1;exact h1 (by simp[aR])
    have kK:(av (f.ad.getD j cu).af).1=(f.ad.getD j cu).af.take t:=by
     unfold av;rw[hl];show List.take (max t 1) _=_;rw[Nat.max_eq_left ag]
    by_cases he:t=y.length
    .refine⟨m,ag,?_⟩;rw[hpm,kK,hp,he];simp
    .cases n with
     |zero=>omega
     |succ n=>
      refine h.closed hy n m ag ag (r.take (t-y.length-1)) ?_;rw[hpm,kK,hp,AW,qG ag]
      congr 1
      rw[show t-y.length=(t-y.length-1)+1 by omega,x_5]
      congr 2
theorem fX {x z r:aA}:od x z=some r↔x=z++r/\(r=[]\/r.getD 0 0=47):=by
 unfold od;constructor
 .intro h;split at h
  .rename_i h1;split at h
   .rename_i h2;cases h
    refine⟨?_,h2⟩;have:=yd z.length x;rw[h1.2] at this;exact this.symm
   .cases h
  .cases h
 .rintro⟨rfl,h⟩;rw[if_pos ⟨by simp,by simp⟩];have:(z++r).drop z.length=r:=by simp
  rw[this,if_pos h]
theorem Y0 (z y:aA)(x:a6):(⟨Flat.eM z y x.af,x.id⟩:a6)=xJ z y x:=by
 unfold xJ;cases hc:od x.af z with
 |some r=>
  obtain⟨h1,h2⟩:=fX.1 hc;have hm:Flat.eM z y x.af=y++r:=by
   unfold Flat.eM;rw[if_pos,h1]
   .simp
   .rw[h1];rcases h2 with rfl|h2
    .left;simp
    .right
     cases r with
     |nil=>exact absurd h2 (by decide)
     |cons c r=>
      have:c=47:=by simpa using h2
      subst this;refine⟨by simp,?_⟩;rw[AW,qG ag];simp
  rw[hm]
 |none=>
  have hm:Flat.eM z y x.af=x.af:=by
   unfold Flat.eM;rw[if_neg];rintro(h|⟨h1,h2⟩)
   .have:=fX.2 (show x.af=z++[]/\([]=[]\/([]:aA).getD 0 0=47) from⟨by simpa using h,.inl rfl⟩);rw[hc] at this;cases this
   .have h3:x.af=z++(47::x.af.drop (z.length+1)):=by
     have:=yd (z.length+1) x.af;rw[h2,kG] at this;exact this.symm
    have:=fX.2 (show x.af=z++(47::x.af.drop (z.length+1))/\_ from⟨h3,.inr rfl⟩);rw[hc] at this;cases this
  rw[hm]
theorem x4 (h:ic f)(hy:y≠[])(hn:sT f.ad y=none):((f.ad.map (xJ z y)).map a6.af).Nodup:=by
 rw[List.map_map,A3,A4];refine tV.2 λi j hi hj mR=>?_
 have fK:=tV.1 h.sn i j hi hj mR;have fK:=np fK;have one:∀(a b:Nat)(ha:a<f.ad.length)(hb:b<f.ad.length)(r:aA),od f.ad[a].af z=some r->od f.ad[b].af z=none->y++r≠f.ad[b].af:=λa b ha hb r h1 h2 e=>by
  obtain⟨g1,g2⟩:=fX.1 h1;rcases g2 with rfl|g2
  .rw[ix] at e;exact qB hn _ (qS hb) e.symm
  .cases r with
   |nil=>exact absurd g2 (by decide)
   |cons c r=>
    have:c=47:=by simpa using g2
    subst this;obtain⟨m,hm,Y1⟩:=h.closed hy b b (cA _) hb r (by rw[aR,bd hb];exact e.symm);exact qB hn _ (dG cu hm) Y1
 show(xJ z y f.ad[i]).af≠(xJ z y f.ad[j]).af;unfold xJ;cases c1:od f.ad[i].af z with
 |some r1=>
  cases c2:od f.ad[j].af z with
  |some r2=>
   intro e;have e:y++r1=y++r2:=e;have e:=List.append_cancel_left e;exact fK (by rw[(fX.1 c1).1,(fX.1 c2).1,e])
  |none=>exact one i j hi hj r1 c1 c2
 |none=>
  cases c2:od f.ad[j].af z with
  |some r2=>exact λe=>one j i hj hi r2 c2 c1 e.symm
  |none=>exact fK
theorem vZ (h:aT y=true):y≠[]:=λe=>by rw[e] at h;cases h
theorem Y2 (h:ic f)(hz:aT z=true)(hy:aT y=true):f.move z y=if dy f.ad z<0 then(f,2) else if dy f.ad z=0 then(f,5) else if 0<=dy f.ad y then(f,3) else if under y z=true then(f,5) else if dy f.ad (Ev.db y)<0 then(f,2) else if gC f.ae (dy f.ad (Ev.db y))=false then(f,4) else
  if dy f.ad (Ev.db y)≠dy f.ad (Ev.db z)/\12<=NJ f.ad (dy f.ad (Ev.db y)) then(f,6) else(⟨Ev.gT (f.ad.map (xJ z y)),Ev.gZ f.ae⟩,0):=by
 unfold Flat.move;cases hn:sT f.ad z with
 |none=>rw[show f.dq z=none from hn,if_pos ((h.xY _).2 hn)]
 |some k=>
  obtain⟨BW,By⟩:=h.zJ hn;have I6:=h.ml hn;rw[show f.dq z=some k from hn,if_neg (show ¬dy f.ad z<0 from λe=>by rw[(h.xY _).1 e] at hn;cases hn)];dsimp only;have h00:=h.zK hn;by_cases h0:z=[47]
  .rw[if_pos h0,if_pos (h00.2 h0)]
  rw[if_neg h0,if_neg (show ¬dy f.ad z=0 from λe=>h0 (h00.1 e))];cases h3:sT f.ad y with
  |some m=>rw[show f.dq y=some m from h3,if_pos (show(some m).isSome=true from rfl),if_pos ((h.ld0 y).2 (by rw[h3];rfl))]
  |none=>
   have hyn:y≠[47]:=λe=>by rw[e,h.cy] at h3;cases h3
   rw[show f.dq y=none from h3,if_neg (show ¬(none:Option Nat).isSome=true from jT),if_neg (show ¬0<=dy f.ad y from λe=>by have:=(h.ld0 y).1 e;rw[h3] at this;cases this)];by_cases h4:under y z=true
   .rw[if_pos h4,if_pos h4]
   rw[if_neg h4,if_neg h4,qA hy hyn,qA hz h0];cases h5:sT f.ad (aP y).1 with
   |none=>
    rw[if_pos ((h.xY _).2 h5),xZ h5,if_neg hyn];rfl
   |some m=>
    obtain⟨Qo,Y1⟩:=h.zJ h5;rw[if_neg (show ¬dy f.ad (aP y).1<0 from λe=>by rw[(h.xY _).1 e] at h5;cases h5),tR h5,if_neg hyn,h.ml h5,h.ZF];cases h6:tH f.ad f.ae m with
    |false=>
     rw[if_pos (show false=false from rfl),if_pos (show false=false from rfl)];rfl
    |true=>
     rw[if_neg (show ¬(true=false) by decide),if_neg (show ¬(true=false) by decide),h3,if_neg (show ¬(none:Option Nat).isSome=true from jT),if_neg (show ¬(0:Int)<0 by decide)];have x8:1<=k:=by
      refine lT λhk=>?_
      have:k=0:=by omega
      subst this;rw[h.nr] at By;exact h0 By.symm
     obtain⟨w,hw,hwn,JB,J6⟩:=h.par x8 BW;have hzs:=pF ((h.nm k BW).2.1 x8).2.2.1;rw[By] at hwn J6 hzs;rw[hzs,h.ml hwn,h.YX Qo,Y1];have ai2:(f.ad.getD m cu).id≠(f.ad.getD w cu).id↔(aP y).1≠(av z).1:=by
      constructor
      .intro e e2;refine e ?_;rw[<-Y1,<-J6] at e2;have h1:=h.B5 Qo;rw[e2,h.B5 (show w<f.ad.length by omega)] at h1;cases h1;rfl
      .intro e e2;refine e ?_;have:=h.uniq Qo ag e2 h6;subst this;rw[<-Y1,<-J6]
     by_cases h7:(aP y).1≠(av z).1/\12<=f.nD (aP y).1
     .rw[if_pos h7,if_pos ⟨ai2.2 h7.1,h7.2⟩]
     .rw[if_neg h7,if_neg (λe=>h7 ⟨ai2.1 e.1,e.2⟩),O7 (x4 h (vZ hy) h3),nq h.st,List.foldl_map]
      congr 3
      funext l x
      rw[Y0]
end
section
variable {o:Op}{f:Flat}
theorem jD (h:gJ o=true):(1<=o.kind/\o.kind<=7)/\aT o.af=true/\(o.kind=6\/o.kind=7->aT o.to=true)/\(0<=o.at_/\o.at_<=192)/\o.aW.length<=24:=by
 obtain⟨kd,pa,tq9,at_,tx⟩:=o;unfold gJ at h;unfold fR at h;dsimp only at h⊢;by_cases e1:1<=kd<;>by_cases e2:kd<=7<;>cases e3:aT pa<;>cases e4:aT tq9<;>by_cases e5:kd=7<;>by_cases e55:kd=6<;>by_cases e6:0<=at_<;>by_cases e7:at_<=192<;>by_cases e8:24<tx.length<;>simp_all<;>omega
theorem ai3 (h:ic f)(ho:gJ o=true):f.eT o=if jB f.ad f.ae o=0 then(NK f.ad f.ae o,0) else(f,jB f.ad f.ae o):=by
 obtain⟨⟨h1,h2⟩,h3,h4,h5,h6⟩:=jD ho;obtain⟨kd,pa,tq9,at_,tx⟩:=o;dsimp only at h1 h2 h3 h4 h5 h6;obtain⟨a,rfl⟩:=wB h5.1;unfold Flat.eT jB NK;dsimp only;by_cases Y3:kd=1\/kd=2
 .rw[if_pos Y3,if_pos Y3,abC h h3];have hJ:rR f.ad f.ae ⟨kd,pa,tq9,(a:Int),tx⟩=(f.ad++[⟨pa,zU f.ae 16 0⟩],f.ae++[⟨zU f.ae 16 0,decide (kd=2),[]⟩]):=by
   unfold rR;exact if_pos Y3
  rw[hJ]
 rw[if_neg Y3,if_neg Y3];by_cases k5:kd=5
 .subst k5;have hJ:rR f.ad f.ae ⟨5,pa,tq9,(a:Int),tx⟩=wQ f.ad f.ae pa (dy f.ad pa):=by
   unfold rR;dsimp only;rw[if_neg (by decide),if_neg (by decide),if_neg (by decide),if_pos rfl]
  rw[if_pos rfl,YZ h,hJ,if_neg (show ¬((5:Int)=3\/(5:Int)=4) by decide),if_pos rfl];by_cases c1:dy f.ad pa<0
  .rw[if_pos c1,if_pos c1,if_neg (by decide)]
  rw[if_neg c1,if_neg c1];by_cases c2:dy f.ad pa=0\/(gC f.ae (dy f.ad pa)=true/\0<NJ f.ad (dy f.ad pa))
  .rw[if_pos c2,if_pos c2,if_neg (by decide)]
  .rw[if_neg c2,if_neg c2,if_pos rfl]
 rw[if_neg k5];by_cases k6:kd=6
 .subst k6;have hJ:rR f.ad f.ae ⟨6,pa,tq9,(a:Int),tx⟩=(f.ad++[⟨tq9,dy f.ad pa⟩],f.ae):=by
   unfold rR;dsimp only;rw[if_neg (by decide),if_neg (by decide),if_neg (by decide),if_neg (by decide),if_pos rfl]
  rw[if_pos rfl,abD h (h4 (.inl rfl)),hJ,if_neg (show ¬((6:Int)=3\/(6:Int)=4) by decide),if_neg (show ¬(6:Int)=5 by decide),if_pos rfl];by_cases c1:dy f.ad pa<0
  .rw[if_pos c1,if_pos c1,if_neg (by decide)]
  rw[if_neg c1,if_neg c1];by_cases c2:gC f.ae (dy f.ad pa)=true
  .rw[if_pos c2,if_pos c2,if_neg (by decide)]
  .rw[if_neg c2,if_neg c2]
 rw[if_neg k6];by_cases k7:kd=7
 .subst k7;have hJ:rR f.ad f.ae ⟨7,pa,tq9,(a:Int),tx⟩=(f.ad.map (xJ pa tq9),f.ae):=by
   unfold rR;dsimp only;rw[if_neg (by decide),if_neg (by decide),if_neg (by decide),if_neg (by decide),if_neg (by decide)]
  rw[if_pos rfl,Y2 h h3 (h4 (.inr rfl)),hJ,if_neg (show ¬((7:Int)=3\/(7:Int)=4) by decide),if_neg (show ¬(7:Int)=5 by decide),if_neg (show ¬(7:Int)=6 by decide)];by_cases c1:dy f.ad pa<0
  .rw[if_pos c1,if_pos c1,if_neg (by decide)]
  rw[if_neg c1,if_neg c1];by_cases c2:dy f.ad pa=0
  .rw[if_pos c2,if_pos c2,if_neg (by decide)]
  rw[if_neg c2,if_neg c2];by_cases c3:0<=dy f.ad tq9
  .rw[if_pos c3,if_pos c3,if_neg (by decide)]
  rw[if_neg c3,if_neg c3];by_cases c4:under tq9 pa=true
  .rw[if_pos c4,if_pos c4,if_neg (by decide)]
  rw[if_neg c4,if_neg c4];by_cases c5:dy f.ad (Ev.db tq9)<0
  .rw[if_pos c5,if_pos c5,if_neg (by decide)]
  rw[if_neg c5,if_neg c5];by_cases c6:gC f.ae (dy f.ad (Ev.db tq9))=false
  .rw[if_pos c6,if_pos c6,if_neg (by decide)]
  rw[if_neg c6,if_neg c6];by_cases c7:dy f.ad (Ev.db tq9)≠dy f.ad (Ev.db pa)/\12<=NJ f.ad (dy f.ad (Ev.db tq9))
  .rw[if_pos c7,if_pos c7,if_neg (by decide)]
  .rw[if_neg c7,if_neg c7,if_pos rfl]
 .have k34:kd=3\/kd=4:=by omega
  rw[if_neg k7,PH h kd pa tq9 a tx k34,if_pos k34];by_cases c1:dy f.ad pa<0
  .rw[if_pos c1,if_pos c1,if_neg (by decide)]
  rw[if_neg c1,if_neg c1];by_cases c2:gC f.ae (dy f.ad pa)=true
  .rw[if_pos c2,if_pos c2,if_neg (by decide)]
  rw[if_neg c2,if_neg c2];by_cases c3:192<(a:Int)+tx.length
  .rw[if_pos c3,if_pos c3,if_neg (by decide)]
  .rw[if_neg c3,if_neg c3,if_pos rfl]
theorem Uf {l:List a6}(h:(l.map a6.af).Nodup):Ev.xm l=true:=dt h
theorem Ug {l:eG}(h:(l.map bC.id).Nodup):Ev.xn l=true:=dt h
theorem v7 (h:ic f)(ho:gJ o=true)(h0:jB f.ad f.ae o=0):((rR f.ad f.ae o).1.map a6.af).Nodup/\((rR f.ad f.ae o).2.map bC.id).Nodup/\1<=(rR f.ad f.ae o).1.length/\1<=(rR f.ad f.ae o).2.length:=by
 obtain⟨⟨h1,h2⟩,h3,h4,h5,h6⟩:=jD ho;obtain⟨kd,pa,tq9,at_,tx⟩:=o;dsimp only at h1 h2 h3 h4 h5 h6;have hn:=h.sn.nodup;have hq:=h.st.nodup;have Qr:=h.n1;have XD:=h.q1;unfold jB at h0;dsimp only at h0;unfold rR;dsimp only;by_cases Y3:kd=1\/kd=2
 .rw[if_pos Y3] at h0⊢;rw[AO h h3] at h0;have hf:¬0<f.bD pa:=λe=>by rw[if_pos e] at h0;omega
  rw[if_neg hf] at h0;obtain⟨g1,_⟩:=oq hf;have hr:=afu f;have du:f.cj<16:=by
   refine lT λhh=>?_
   rw[if_neg hh] at hr;rw[hr] at h0;have:(if decide ((-1:Int)<0)=true\/12<=f.nD (aP pa).1 then(6:Int) else 0)=6:=if_pos (.inl (by decide));rw[this] at h0;cases h0
  rw[if_pos du] at hr;rw[hr];exact⟨oh a6.af hn (qB g1),oh bC.id hq (zL (n:=(f.cj:Int)) (vm f).1),by simp,by simp⟩
 rw[if_neg Y3] at h0⊢;by_cases c1:dy f.ad pa<0
 .rw[if_pos c1] at h0;cases h0
 rw[if_neg c1] at h0;have oJ:∀g,((uf f.ae (dy f.ad pa) g).map bC.id).Nodup/\1<=(uf f.ae (dy f.ad pa) g).length:=λg=>by
  unfold uf;cases kM f.ae (dy f.ad pa) with
  |none=>exact⟨hq,XD⟩
  |some t=>
   dsimp only;exact⟨(AP (y:=⟨(f.ae.getD t ec).id,(f.ae.getD t ec).aD,g (f.ae.getD t ec).aW⟩) h.st rfl).nodup,by rw[gE];exact XD⟩
 by_cases k3:kd=3
 .rw[if_pos k3];dsimp only;refine⟨hn,?_,Qr,?_⟩
  .split
   .exact hq
   .exact(oJ _).1
  .split
   .exact XD
   .exact(oJ _).2
 rw[if_neg k3];by_cases k4:kd=4
 .rw[if_pos k4];exact⟨hn,(oJ _).1,Qr,(oJ _).2⟩
 rw[if_neg k4];rw[if_neg (show ¬(kd=3\/kd=4) by omega)] at h0;by_cases k5:kd=5
 .rw[if_pos k5] at h0⊢;unfold wQ;dsimp only;have ai4:¬dy f.ad pa=0:=λe=>by rw[if_pos (.inl e)] at h0;cases h0
  have ai5:(sT f.ad pa).isSome=true:=(h.ld0 pa).1 ag;obtain⟨k,hk⟩:=ju.1 ai5;have UL:pa≠[47]:=λe=>ai4 ((h.zK hk).2 e)
  refine⟨(H4 h.sn AX).nodup,?_,?_,?_⟩
  .split
   .exact(H5 h.st AX).nodup
   .exact hq
  .refine Gh (a:=f.ad.getD 0 cu) (qR.2 ⟨dG cu Qr,?_⟩);rw[h.nr];show(!decide (([47]:aA)=pa))=true;rw[gS (λe=>UL e.symm)];rfl
  .split
   .refine Gh (a:=f.ae.getD 0 ec) (qR.2 ⟨dG ec XD,?_⟩);rw[h.t0,gS (λe=>ai4 e.symm)];rfl
   .exact XD
 rw[if_neg k5] at h0⊢;by_cases k6:kd=6
 .rw[if_pos k6] at h0⊢;have BR:¬gC f.ae (dy f.ad pa)=true:=λe=>by rw[if_pos e] at h0;cases h0
  rw[if_neg BR,AO h (h4 (.inl k6))] at h0;have hf:¬0<f.bD tq9:=λe=>by rw[if_pos e] at h0;omega
  obtain⟨g1,_⟩:=oq hf;exact⟨oh a6.af hn (qB g1),hq,by simp,XD⟩
 rw[if_neg k6] at h0⊢;have k7:kd=7:=by omega
 refine' zaM
 have qE:sT f.ad tq9=none:=(h.xY tq9).1 ag;exact⟨x4 h (vZ UQ) qE,hq,by rw[ux];exact Qr,XD⟩
end
end Go.Pl
namespace Go.Pl
open Go Go.Ev Go.Lg Go.Proofs
section
variable {E:dA}{X:dM}{Γ:ij}{l:Kn}{L R:bE}{K:KO}{g:FuncId}{xs:List Operand}{ts:Array TypeId}{vs:aQ}{x y:Operand}{t t2 e:TypeId}{a a':aK}{n sz c b c':Nat}{α:Type}{enc:ak α sz}{w:List α}{p:List a6}{q:eG}{r:Value}{F:Flat}
theorem WO.H6 [ht:TT E t e sz α enc](hx:Ev l x (.slice a n c))(hy:Ev l y (eW))(hh:jY Γ L a n sz (ai (sz:=sz) w))(hi:0<w.length)(k:∀n,K (.bool false) L n n Z Z):WO E X Γ l (.binOp .eql t x y t2) L K:=λtm s hl h2=>by
 obtain⟨b,o,_,_,_,rfl,_⟩:=(hh.row h2).1.at_ hi;exact WO.bin (r:=.bool false) hx hy (λcc=>by
  show ob (ja E t) (λd=>CM .eql (ZN E d (.slice (some ⟨b,o,none⟩) n c) (eW)))=_;obtain⟨z,Dq,_⟩:=ht.h;rw[Dq.h.1];rfl) k tm s hl h2
theorem WO.Y4 (hx:kL l xs vs)(h:∀s,AL E X g vs s b a c p a' c' q r F)(hp:oO (vT b a p.length c p a' q.length c' q) L R)
  (k:∀m m' a1 n1 c1 p1 a2 n2 c2 q2,kq L m->m<=m'->n1<=p1.length->p1.take n1=F.ad->n2<=q2.length->q2.take n2=F.ae->K r (vT b a1 n1 c1 p1 a2 n2 c2 q2++R) m m' (λi=>i∈([]:List Nat)\/i∈(vT b a p.length c p a' q.length c' q).flatMap It.aY\/(m<=i/\i<m')) (λi=>i∈(vT b a p.length c p a' q.length c' q).flatMap It.aY\/(m<=i/\i<m'))):WO E X Γ l (.call ⟨.value (.func g),⟨xs⟩,ts⟩) L K:=
 WO.call (Lm:=vT b a p.length c p a' q.length c' q) (R:=R) (A:=[]) hx hp.cR (λs hi b hb=>by cases hb) (λs hi=>h s) (by rintro r' L' m m' ho hm ⟨rfl,a1,n1,c1,p1,a2,n2,c2,q2,h1,h2,h3,h4,rfl⟩;exact k m m' a1 n1 c1 p1 a2 n2 c2 q2 ho hm h1 h2 h3 h4)
theorem WO.abF (hx:kL l xs vs)(hp:oO (vT b a p.length c p a' q.length c' q) L R)(h:∀s,AL E X g vs s b a c p a' c' q r F)
  (k:∀m m' a1 n1 c1 p1 a2 n2 c2 q2,kq L m->m<=m'->n1<=p1.length->p1.take n1=F.ad->n2<=q2.length->q2.take n2=F.ae->K r (vT b a1 n1 c1 p1 a2 n2 c2 q2++R) m m' (λi=>i∈([]:List Nat)\/i∈(vT b a p.length c p a' q.length c' q).flatMap It.aY\/(m<=i/\i<m')) (λi=>i∈(vT b a p.length c p a' q.length c' q).flatMap It.aY\/(m<=i/\i<m'))):WO E X Γ l (.call ⟨.value (.func g),⟨xs⟩,ts⟩) L K:=WO.Y4 hx h hp k
end
theorem Uh (s:St)(a:aK)(c:Nat)(p:List a6)(h0:0<p.length)(hp:p.length<=1000)(hr:bO s a p.length 2 (ai p)):fa a8 bj 45 [.slice a p.length c] s (aj a) 39 p:=by
 have oR:=Rd.of (A:=aj a) hr λ_ hb=>hb
 refine aU f45 ?_;(repeat' (first|refine' a7|((with_reducible apply WO.H6);exact gP;exact gP;exact cg;exact mO;intro _)|((with_reducible apply WO.lit (α:=a6) (xs:=[]));exact yT;exact rfl;exact rfl;intro bl _)|refine' aw|fail))
 all_goals try refine cM
 all_goals(refine' lN)
 all_goals rfl
theorem Ui (s:St)(a:aK)(c:Nat)(p:eG)(h0:0<p.length)(hp:p.length<=1000)(hr:bO s a p.length 3 (ai p)):fa a8 bj 46 [.slice a p.length c] s (aj a) 61 p:=by
 have oR:=Rd.of (A:=aj a) hr λ_ hb=>hb
 refine aU f46 ?_;(repeat' (first|refine' a7|((with_reducible apply WO.H6);exact gP;exact gP;exact cg;exact mO;intro _)|((with_reducible apply WO.lit (α:=bC) (xs:=[]));exact yT;exact rfl;exact rfl;intro bl _)|refine' aw|fail))
 all_goals try refine cM
 all_goals(refine' lN)
 all_goals rfl
end Go.Pl
