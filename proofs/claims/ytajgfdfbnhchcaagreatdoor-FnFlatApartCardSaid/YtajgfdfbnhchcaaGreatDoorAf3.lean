/- Lemmas of the proof. No conditions. -/
import Derived.Test.YtajgfdfbnhchcaaGreatDoorAf2
set_option maxRecDepth 100000
set_option maxHeartbeats 4000000
set_option linter.unusedVariables false
set_option linter.unusedSimpArgs false
open Go.Proofs.Tryz
namespace Go.Pl
open Go Go.Ev Go.Lg Go.Proofs
section
variable {f:Flat}
theorem Nj (s:St)(a:aK)(c:Nat)(a':aK)(c':Nat)(p:List a6)(q:eG)(hf:HY ⟨p,q⟩)(n:Int)(hr:cl s a a' ⟨p,q⟩):bP 94 [.agg ⟨iw a c p a' c' q⟩,iv n] s (kF a a') (iv (Flat.many ⟨p,q⟩ n:Int)):=DO s a c a' c' ⟨p,q⟩ hf n hr
theorem JR (s:St)(a:aK)(c:Nat)(a':aK)(c':Nat)(p:List a6)(q:eG)(hf:HY ⟨p,q⟩)(n:Int)(hr:cl s a a' ⟨p,q⟩):bP 54 [.agg ⟨iw a c p a' c' q⟩,iv n] s (kF a a') (iv (Hu (Flat.cH ⟨p,q⟩ n))):=ri s a c a' c' ⟨p,q⟩ hf n hr
theorem HY.less (h:HY f)(z:aA):HY ⟨f.ad.filter λx=>decide (x.af≠z),f.ae⟩:=⟨by have:=CK (λx=>decide (x.af≠z)) f.ad;have:=h.nl;show(List.filter _ _).length<=_;omega,h.tl,λx hx=>h.nm x (qR.1 hx).1,h.th⟩
abbrev rM (E:dA)(X:dM)(g:FuncId)(vs:aQ)(s:St)(a:aK)(c:Nat)(a':aK)(c':Nat)(f:Flat)(r:Flat×Int):Prop:=
 fH E X g vs s [cv a c f.ad,dN a' c' f.ae] [] λR L=>∃b d b' d' b0 d0,∃p0:eG,Sub 3 b0 p0 b' r.1.ae/\R= .tuple ⟨[js b d b' d' r.1,iv r.2]⟩/\L=[cv b d r.1.ad,dN b0 d0 p0]
theorem AQ.s {E:dA}{X:dM}{g:FuncId}{vs:aQ}{s:St}{a:aK}{c:Nat}{a':aK}{c':Nat}{r:Flat×Int}(h:AQ E X g vs s a c a' c' f r):rM E X g vs s a c a' c' f r:=h.mono λ_ _ ⟨b,d,b',d',h1,h2⟩=>⟨b,d,b',d',b',d',_,Sub.all,h1,h2⟩
theorem PO (s:St)(a:aK)(c:Nat)(a':aK)(c':Nat)(f:Flat)(hf:HY f)(z:aA)(hz:z.length<=5000)(hex:∀k,f.dq z=some k->(f.cH (f.ad.getD k ak.ah).id).isSome):rM a8 bj 60 [js a c a' c' f,sv z] s a c a' c' f (f.dY z):=by
 have pz:=hf.tl;have nC:=hf.nl;have Fj:UR f.ad:=⟨nC,λx hx=>(hf.nm x hx).1⟩;have ku:∀s,cl s a a' f->bP 52 [js a c a' c' f,sv z] s (kF a a') (iv (Hu (f.dq z))):=λs hr=>k9 s a c a' c' f hf _ hr
 cases hk:f.dq z with
 |none=>
  have hm:f.dY z=(f,2):=by unfold Flat.dY;rw[hk]
  rw[hk] at ku;have ku:∀s,cl s a a' f->bP 52 [js a c a' c' f,sv z] s (kF a a') (iv (-1)):=ku;rw[hm];refine aU f60 ?_;dsimp only[cv,dN];(refine' Hb)
  all_goals try refine cM
  all_goals exact⟨bB,_,_,bn,au,_,_,_,_,_,_,_,Sub.all,rfl,rfl⟩
 |some k=>
  rw[hk] at ku;have ku:∀s,cl s a a' f->bP 52 [js a c a' c' f,sv z] s (kF a a') (iv (k:Int)):=ku;have Fg:=vl hk;obtain⟨x,hx⟩:=ju.1 (hex k hk);have rN:=HZ hx;by_cases h1:z=[47]\/0<f.nD z
  .have hm:f.dY z=(f,5):=by unfold Flat.dY;rw[hk];exact if_pos h1
   rw[hm];refine aU f60 ?_;dsimp only[cv,dN];(repeat' (first|refine' a7|refine' qm|refine' wO|refine' aw|fail))
   all_goals try refine cM
   all_goals first|(exact⟨bB,_,_,bn,au,_,_,_,_,_,_,_,Sub.all,rfl,rfl⟩)|(exfalso;rcases h1 with h1|h1<;>first|contradiction|omega)
  have hG:=hf.less z;have afy:∀s b d,cl s b a' ⟨f.ad.filter λx=>decide (x.af≠z),f.ae⟩->bP 94 [.agg ⟨iw b d (f.ad.filter λx=>decide (x.af≠z)) a' c' f.ae⟩,iv (f.ad.getD k ak.ah).id] s (kF b a') (iv (Flat.many ⟨f.ad.filter λx=>decide (x.af≠z),f.ae⟩ (f.ad.getD k ak.ah).id:Int)):=λs b d hr=>Nj s b d a' c' _ _ hG _ hr
  have S5:∀s b d,cl s b a' ⟨f.ad.filter λx=>decide (x.af≠z),f.ae⟩->bP 54 [.agg ⟨iw b d (f.ad.filter λx=>decide (x.af≠z)) a' c' f.ae⟩,iv (f.ad.getD k ak.ah).id] s (kF b a') (iv (x:Int)):=λs b d hr=>by
   have:=JR s b d a' c' _ _ hG (f.ad.getD k ak.ah).id hr;rw[show Flat.cH ⟨f.ad.filter λx=>decide (x.af≠z),f.ae⟩ (f.ad.getD k ak.ah).id=some x from hx] at this;exact this
  have hm:f.dY z=if Flat.many ⟨f.ad.filter λx=>decide (x.af≠z),f.ae⟩ (f.ad.getD k ak.ah).id=0 then(⟨f.ad.filter λx=>decide (x.af≠z),f.ae.take x++f.ae.drop ((x:Int)+1).toNat⟩,0) else(⟨f.ad.filter λx=>decide (x.af≠z),f.ae⟩,0):=by
   unfold Flat.dY;rw[hk];refine(if_neg h1).trans ?_;show(if Flat.many ⟨f.ad.filter λx=>decide (x.af≠z),f.ae⟩ (f.ad.getD k ak.ah).id=0 then(match f.cH (f.ad.getD k ak.ah).id with|none=>_|some x=>_) else _)=_;rw[hx];rfl
  by_cases h2:Flat.many ⟨f.ad.filter λx=>decide (x.af≠z),f.ae⟩ (f.ad.getD k ak.ah).id=0
  .rw[hm,if_pos h2];rw[h2] at afy;have hmy:∀s b d,cl s b a' ⟨f.ad.filter λx=>decide (x.af≠z),f.ae⟩->bP 94 [.agg ⟨iw b d (f.ad.filter λx=>decide (x.af≠z)) a' c' f.ae⟩,iv (f.ad.getD k ak.ah).id] s (kF b a') (iv 0):=afy;refine aU f60 ?_;dsimp only[cv,dN];(refine' acO)
   all_goals try refine cM
   all_goals first|(exact⟨bB,_,_,bn,au,_,_,_,_,_,_,_,ahS,rfl,rfl⟩)|(exfalso;exact h1 (.inl (by assumption)))
  .rw[hm,if_neg h2];have hmy:∀s b d,cl s b a' ⟨f.ad.filter λx=>decide (x.af≠z),f.ae⟩->bP 94 [.agg ⟨iw b d (f.ad.filter λx=>decide (x.af≠z)) a' c' f.ae⟩,iv (f.ad.getD k ak.ah).id] s (kF b a') (iv (Flat.many ⟨f.ad.filter λx=>decide (x.af≠z),f.ae⟩ (f.ad.getD k ak.ah).id:Int)):=afy;refine aU f60 ?_;dsimp only[cv,dN];(refine' acO)
   all_goals try refine cM
   all_goals first|(exact⟨bB,_,_,bn,au,_,_,_,_,_,_,_,Sub.all,rfl,rfl⟩)|(exfalso;exact h1 (.inl (by assumption)))
end
theorem Nk (p tq9 x:aA):(Flat.eM p tq9 x).length<=tq9.length+x.length:=by
 unfold Flat.eM;split
 .rw[bJ,gd];omega
 .omega
theorem EY:∀(l:List a6)(e:a6){x:a6},x∈Flat.gb l e->x=e\/x∈l
 |[],e,x,h=>by simp[Flat.gb] at h;exact .inl h
 |y::l,e,x,h=>by
  unfold Flat.gb at h;split at h
  .rcases bR.1 h with h|h
   .exact .inl h
   .exact .inr h
  .rcases bR.1 h with h|h
   .exact .inr (by rw[h];exact iV)
   .rcases EY l e h with h|h
    .exact .inl h
    .exact .inr (lu _ h)
theorem PQ (s:St)(a:aK)(c:Nat)(a':aK)(c':Nat)(f:Flat)(hf:HY f)(z y:aA)(hz:z.length<=2000)(hy:y.length<=2000)(hp:∀x∈f.ad,x.af.length<=2000):AQ a8 bj 62 [js a c a' c' f,sv z,sv y] s a c a' c' f (f.move z y):=by
 have pz:=hf.tl;have nC:=hf.nl;have Fj:UR f.ad:=⟨nC,λx hx=>(hf.nm x hx).1⟩;have YA:=sO y;have iW:=sO z;have ku:∀s,cl s a a' f->bP 52 [js a c a' c' f,sv z] s (kF a a') (iv (Hu (f.dq z))):=λs hr=>k9 s a c a' c' f hf _ hr
 have OL:∀s,cl s a a' f->bP 52 [js a c a' c' f,sv y] s (kF a a') (iv (Hu (f.dq y))):=λs hr=>k9 s a c a' c' f hf _ hr
 have IL:∀s,bP 99 [sv y,sv z] s [] (.bool (under y z)):=λs=>za s y z ag ag
 have Ae:∀s,cl s a a' f->bP 96 [js a c a' c' f,sv y] s (kF a a') (iv (f.bD y)):=λs hr=>Bn s a c a' c' f hf y ag hr
 cases hk:f.dq z with
 |none=>
  have hm:f.move z y=(f,2):=by unfold Flat.move;rw[hk]
  rw[hk] at ku;have ku:∀s,cl s a a' f->bP 52 [js a c a' c' f,sv z] s (kF a a') (iv (-1)):=ku;rw[hm];refine aU f62 ?_;dsimp only[cv,dN];(refine' Hb)
  all_goals refine' zan
 |some k=>
  rw[hk] at ku;have ku:∀s,cl s a a' f->bP 52 [js a c a' c' f,sv z] s (kF a a') (iv (k:Int)):=ku;have hm:f.move z y=if z=[47] then(f,5) else if(f.dq y).isSome then(f,3) else if under y z then(f,5) else if 0<f.bD y then(f,f.bD y) else if(aP y).1≠(aP z).1/\12<=f.nD (aP y).1 then(f,6) else(⟨f.ad.foldl (λl x=>Flat.gb l ⟨Flat.eM z y x.af,x.id⟩) [],f.ae⟩,0):=by unfold Flat.move;rw[hk]
  rw[hm];by_cases h1:z=[47]
  .rw[if_pos h1];refine aU f62 ?_;dsimp only[cv,dN];(refine' Hb)
   all_goals try refine cM
   all_goals exact⟨bB,_,_,bn,au,_,_,_,_,rfl,rfl⟩
  rw[if_neg h1];cases hk3:f.dq y with
  |some k3=>
   rw[hk3] at OL;have OL:∀s,cl s a a' f->bP 52 [js a c a' c' f,sv y] s (kF a a') (iv (k3:Int)):=OL;rw[if_pos (show(some k3).isSome=true from rfl)];refine aU f62 ?_;dsimp only[cv,dN];(repeat' (first|refine' a7|refine' qm|refine' LG|refine' aw|fail))
   all_goals refine' zan
  |none=>
  rw[hk3] at OL;have OL:∀s,cl s a a' f->bP 52 [js a c a' c' f,sv y] s (kF a a') (iv (-1)):=OL;rw[if_neg (show ¬(none:Option Nat).isSome=true from jT)];cases hu:under y z with
  |true=>
   rw[hu] at IL;rw[if_pos rfl];refine aU f62 ?_;dsimp only[cv,dN];(repeat' (first|refine' a7|refine' qm|refine' LG|refine' y6|refine' aw|fail))
   all_goals refine' zan
  |false=>
  rw[hu] at IL;rw[if_neg jT];by_cases h4:0<f.bD y
  .rw[if_pos h4];refine aU f62 ?_;dsimp only[cv,dN];(repeat' (first|refine' a7|refine' qm|refine' LG|refine' y6|refine' Xd|refine' aw|fail))
   all_goals try refine cM
   all_goals exact⟨bB,_,_,bn,au,_,_,_,_,rfl,rfl⟩
  rw[if_neg h4];by_cases h5:(aP y).1≠(aP z).1/\12<=f.nD (aP y).1
  .rw[if_pos h5];obtain⟨h5,h6⟩:=h5;refine aU f62 ?_;dsimp only[cv,dN];(repeat' (first|refine' a7|refine' qm|refine' LG|refine' y6|refine' Xd|refine' wN|refine' wO|refine' aw|fail))
   all_goals try refine cM
   all_goals exact⟨bB,_,_,bn,au,_,_,_,_,rfl,rfl⟩
  .rw[if_neg h5];refine aU f62 ?_;dsimp only[cv,dN];(repeat' (first|refine' a7|refine' qm|refine' LG|refine' y6|refine' Xd|refine' wN|refine' wO|refine' SY|refine' aw|fail))
   all_goals first|(exfalso;omega;done)|(exfalso;exact h5 ⟨by assumption,ag⟩)|contradiction|skip
   .refine W.bN (λm l L=>∃(i b3 b6:Nat)(out:List a6)(bo:aK)(d:Nat),Le [(1,sv z),(2,sv y),(3,bc b3),(6,bc b6),(13,.slice a f.ad.length c),(14,iv (i:Int))] l/\cz [.box b3 (iw bo d out a' c' f.ae) 26 false,.box b6 (iw none 0 [] none 0 []) 26 false,cv a c f.ad,dN a' c' f.ae,cv bo d out] L/\m=f.ad.length-i/\i<=f.ad.length/\UR out/\out.length=i/\f.ad.foldl (λl x=>Flat.gb l ⟨Flat.eM z y x.af,x.id⟩) []=(f.ad.drop i).foldl (λl x=>Flat.gb l ⟨Flat.eM z y x.af,x.id⟩) out)
     (λl L=>∃(b3 b6:Nat)(bo:aK)(d:Nat),Le [(3,bc b3),(6,bc b6)] l/\cz [.box b3 (iw bo d (f.ad.foldl (λl x=>Flat.gb l ⟨Flat.eM z y x.af,x.id⟩) []) a' c' f.ae) 26 false,.box b6 (iw none 0 [] none 0 []) 26 false,dN a' c' f.ae,cv bo d (f.ad.foldl (λl x=>Flat.gb l ⟨Flat.eM z y x.af,x.id⟩) [])] L) _ ⟨0,_,_,[],_,_,bk,au,rfl,ag,⟨by simp,λx hx=>by cases hx⟩,rfl,rfl⟩ ?_ ?_
    .rintro m l L ⟨i,b3,b6,out,bo,d,hl,hL,rfl,g1,g2,g3,g4⟩;refine W.le ?_ hl hL;clear hl hL;dsimp only[cv,dN];by_cases hi:i<f.ad.length
     .have Cd:=hp _ (aJ hi ak.ah);rw[drop_cons hi,wi] at g4;have hA:(y++((f.ad.getD i ak.ah).af.drop z.length)).length<=5000:=by rw[bJ,gd];omega
      have hB:(f.ad.getD i ak.ah).af.length<=5000:=by omega
      refine' zai
      .have UJ:Flat.eM z y (f.ad.getD i ak.ah).af=y++((f.ad.getD i ak.ah).af.drop z.length):=by unfold Flat.eM;rw[if_pos e1]
       rw[UJ] at g4 uv Pn;have UP:(f.ad.getD i ak.ah).af=z\/¬(f.ad.getD i ak.ah).af=z/\z.length<(f.ad.getD i ak.ah).af.length/\(f.ad.getD i ak.ah).af.take ((z.length:Int)+1).toNat=z++[47]:=by
        rw[show((z.length:Int)+1).toNat=z.length+1 by omega];by_cases h:(f.ad.getD i ak.ah).af=z
        .exact .inl h
        .exact .inr ⟨h,e1.resolve_left h⟩
       refine' zaL
       ·(refine' Hc)
        all_goals try refine cM
        all_goals refine' zaB
       ·(refine' Hc)
        all_goals try refine cM
        all_goals refine' zaB
      .have UJ:Flat.eM z y (f.ad.getD i ak.ah).af=(f.ad.getD i ak.ah).af:=by unfold Flat.eM;rw[if_neg e1]
       rw[UJ] at g4 uv Pn;have e2:¬(f.ad.getD i ak.ah).af=z:=λh=>e1 (.inl h)
       refine' zam
     .have fE:i=f.ad.length:=by omega
      rw[fE,iD,List.foldl_nil] at g4;rw[g4];(refine' cU)
      all_goals try refine cM
      all_goals exact⟨_,_,_,_,bk,au⟩
    .rintro l L ⟨b3,b6,bo,d,hl,hL⟩;(repeat(first|(with_reducible refine aq ?_)|(with_reducible refine dH ?_)|(with_reducible refine eB ?_)))
     refine W.le ?_ hl hL;clear hl hL;dsimp only[cv,dN];(refine' cU)
     all_goals exact⟨bB,_,_,bn,au,_,_,_,_,rfl,rfl⟩
   .refine W.bN (λm l L=>∃(i b3 b6:Nat)(out:List a6)(bo:aK)(d:Nat),Le [(1,sv z),(2,sv y),(3,bc b3),(6,bc b6),(13,.slice a f.ad.length c),(14,iv (i:Int))] l/\cz [.box b3 (iw bo d out a' c' f.ae) 26 false,.box b6 (iw none 0 [] none 0 []) 26 false,cv a c f.ad,dN a' c' f.ae,cv bo d out] L/\m=f.ad.length-i/\i<=f.ad.length/\UR out/\out.length=i/\f.ad.foldl (λl x=>Flat.gb l ⟨Flat.eM z y x.af,x.id⟩) []=(f.ad.drop i).foldl (λl x=>Flat.gb l ⟨Flat.eM z y x.af,x.id⟩) out)
     (λl L=>∃(b3 b6:Nat)(bo:aK)(d:Nat),Le [(3,bc b3),(6,bc b6)] l/\cz [.box b3 (iw bo d (f.ad.foldl (λl x=>Flat.gb l ⟨Flat.eM z y x.af,x.id⟩) []) a' c' f.ae) 26 false,.box b6 (iw none 0 [] none 0 []) 26 false,dN a' c' f.ae,cv bo d (f.ad.foldl (λl x=>Flat.gb l ⟨Flat.eM z y x.af,x.id⟩) [])] L) _ ⟨0,_,_,[],_,_,bk,au,rfl,ag,⟨by simp,λx hx=>by cases hx⟩,rfl,rfl⟩ ?_ ?_
    .rintro m l L ⟨i,b3,b6,out,bo,d,hl,hL,rfl,g1,g2,g3,g4⟩;refine W.le ?_ hl hL;clear hl hL;dsimp only[cv,dN];by_cases hi:i<f.ad.length
     .have Cd:=hp _ (aJ hi ak.ah);rw[drop_cons hi,wi] at g4;have hA:(y++((f.ad.getD i ak.ah).af.drop z.length)).length<=5000:=by rw[bJ,gd];omega
      have hB:(f.ad.getD i ak.ah).af.length<=5000:=by omega
      refine' zai
      .have UJ:Flat.eM z y (f.ad.getD i ak.ah).af=y++((f.ad.getD i ak.ah).af.drop z.length):=by unfold Flat.eM;rw[if_pos e1]
       rw[UJ] at g4 uv Pn;have UP:(f.ad.getD i ak.ah).af=z\/¬(f.ad.getD i ak.ah).af=z/\z.length<(f.ad.getD i ak.ah).af.length/\(f.ad.getD i ak.ah).af.take ((z.length:Int)+1).toNat=z++[47]:=by
        rw[show((z.length:Int)+1).toNat=z.length+1 by omega];by_cases h:(f.ad.getD i ak.ah).af=z
        .exact .inl h
        .exact .inr ⟨h,e1.resolve_left h⟩
       refine' zaL
       ·(refine' Hc)
        all_goals try refine cM
        all_goals refine' zaB
       ·(refine' Hc)
        all_goals try refine cM
        all_goals refine' zaB
      .have UJ:Flat.eM z y (f.ad.getD i ak.ah).af=(f.ad.getD i ak.ah).af:=by unfold Flat.eM;rw[if_neg e1]
       rw[UJ] at g4 uv Pn;have e2:¬(f.ad.getD i ak.ah).af=z:=λh=>e1 (.inl h)
       refine' zam
     .have fE:i=f.ad.length:=by omega
      rw[fE,iD,List.foldl_nil] at g4;rw[g4];(refine' cU)
      all_goals try refine cM
      all_goals exact⟨_,_,_,_,bk,au⟩
    .rintro l L ⟨b3,b6,bo,d,hl,hL⟩;(repeat(first|(with_reducible refine aq ?_)|(with_reducible refine dH ?_)|(with_reducible refine eB ?_)))
     refine W.le ?_ hl hL;clear hl hL;dsimp only[cv,dN];(refine' cU)
     all_goals exact⟨bB,_,_,bn,au,_,_,_,_,rfl,rfl⟩
section
variable {E:dA}{X:dM}{Γ:ij}{l:Kn}{L R:bE}{K:KO}{g:FuncId}{xs:List Operand}{ts:Array TypeId}{vs:aQ}{a a':aK}{c c':Nat}{f:Flat}{r:Flat×Int}
theorem WO.Xe (hx:kL l xs vs)(h:∀s,rM E X g vs s a c a' c' f r)(hp:oO [cv a c f.ad,dN a' c' f.ae] L R)
  (k:∀m m' b d b' d' b0 d0 (p0:eG),kq L m->m<=m'->Sub 3 b0 p0 b' r.1.ae->K (.tuple ⟨[js b d b' d' r.1,iv r.2]⟩) (cv b d r.1.ad::dN b0 d0 p0::R) m m' (λi=>i∈([]:List Nat)\/i∈[cv a c f.ad,dN a' c' f.ae].flatMap It.aY\/(m<=i/\i<m')) (λi=>i∈[cv a c f.ad,dN a' c' f.ae].flatMap It.aY\/(m<=i/\i<m'))):WO E X Γ l (.call ⟨.value (.func g),⟨xs⟩,ts⟩) L K:=
 WO.call (Lm:=[cv a c f.ad,dN a' c' f.ae]) (R:=R) (A:=[]) hx hp.cR (λs hi b hb=>by cases hb) (λs hi=>h s) (by rintro r' L' m m' ho hm ⟨b,d,b',d',b0,d0,p0,hs,rfl,rfl⟩;exact k m m' b d b' d' b0 d0 p0 ho hm hs)
end
end Go.Pl
