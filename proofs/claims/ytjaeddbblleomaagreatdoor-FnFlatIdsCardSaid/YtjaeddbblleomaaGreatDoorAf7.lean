/- Lemmas of the proof. No conditions. -/
import Derived.Test.YtjaeddbblleomaaGreatDoorAf6
set_option maxRecDepth 100000
set_option maxHeartbeats 4000000
set_option linter.unusedVariables false
set_option linter.unusedSimpArgs false
open Go.Proofs.Tryz
namespace Go.Pl
open Go Go.Ev Go.Lg Go.Proofs
theorem O6 (s:St)(a:aH)(c:Nat)(a':aH)(c':Nat)(f:Flat)(hf:Hy f)(z y:ay)(hz:z.length<=2000)(hy:y.length<=2000)(hp:∀x∈f.ad,x.ag.length<=2000):Ai aU aW 48 [kr a c a' c' f,sv z,sv y] s a c a' c' f (f.move z y):=by
 have qM:=hf.tl;have nf:=hf.nl;have Fc:T7 f.ad:=⟨nf,λx hx=>(hf.nm x hx).1⟩;have XO:=sx y;have iI:=sx z;have kh:∀s,bY s a a' f->bO 38 [kr a c a' c' f,sv z] s (jh a a') (iv (G4 (f.dt z))):=λs hr=>kN s a c a' c' f hf _ hr
 have N1:∀s,bY s a a' f->bO 38 [kr a c a' c' f,sv y] s (jh a a') (iv (G4 (f.dt y))):=λs hr=>kN s a c a' c' f hf _ hr
 have Kd:∀s,bO 87 [sv y,sv z] s [] (.bool (under y z)):=λs=>yG s y z af af
 have zD:∀s,bY s a a' f->bO 84 [kr a c a' c' f,sv y] s (jh a a') (iv (f.bD y)):=λs hr=>AO s a c a' c' f hf y af hr
 cases hk:f.dt z with
 |none=>
  have hm:f.move z y=(f,2):=by unfold Flat.move;rw[hk]
  rw[hk] at kh;have kh:∀s,bY s a a' f->bO 38 [kr a c a' c' f,sv z] s (jh a a') (iv (-1)):=kh;rw[hm];refine aO f48 ?_;dsimp only[cj,dD];(refine' GJ)
  all_goals refine' zam
 |some k=>
  rw[hk] at kh;have kh:∀s,bY s a a' f->bO 38 [kr a c a' c' f,sv z] s (jh a a') (iv (k:Int)):=kh;have hm:f.move z y=if z=[47] then(f,5) else if(f.dt y).isSome then(f,3) else if under y z then(f,5) else if 0<f.bD y then(f,f.bD y) else if(aK y).1≠(aK z).1/\12<=f.nw (aK y).1 then(f,6) else(⟨f.ad.foldl (λl x=>Flat.fV l ⟨Flat.eJ z y x.ag,x.id⟩) [],f.ae⟩,0):=by unfold Flat.move;rw[hk]
  rw[hm];by_cases h1:z=[47]
  .rw[if_pos h1];refine aO f48 ?_;dsimp only[cj,dD];(refine' GJ)
   all_goals try refine cI
   all_goals exact⟨bB,_,_,bj,aq,_,_,_,_,rfl,rfl⟩
  rw[if_neg h1];cases hk3:f.dt y with
  |some k3=>
   rw[hk3] at N1;have N1:∀s,bY s a a' f->bO 38 [kr a c a' c' f,sv y] s (jh a a') (iv (k3:Int)):=N1;rw[if_pos (show(some k3).isSome=true from rfl)];refine aO f48 ?_;dsimp only[cj,dD];(repeat' (first|refine' aX|refine' pY|refine' K6|refine' ar|fail))
   all_goals refine' zam
  |none=>
  rw[hk3] at N1;have N1:∀s,bY s a a' f->bO 38 [kr a c a' c' f,sv y] s (jh a a') (iv (-1)):=N1;rw[if_neg (show ¬(none:Option Nat).isSome=true from jL)];cases hu:under y z with
  |true=>
   rw[hu] at Kd;rw[if_pos rfl];refine aO f48 ?_;dsimp only[cj,dD];(repeat' (first|refine' aX|refine' pY|refine' K6|refine' yC|refine' ar|fail))
   all_goals refine' zam
  |false=>
  rw[hu] at Kd;rw[if_neg jL];by_cases h4:0<f.bD y
  .rw[if_pos h4];refine aO f48 ?_;dsimp only[cj,dD];(repeat' (first|refine' aX|refine' pY|refine' K6|refine' yC|refine' Wq|refine' ar|fail))
   all_goals try refine cI
   all_goals exact⟨bB,_,_,bj,aq,_,_,_,_,rfl,rfl⟩
  rw[if_neg h4];by_cases h5:(aK y).1≠(aK z).1/\12<=f.nw (aK y).1
  .rw[if_pos h5];obtain⟨h5,h6⟩:=h5;refine aO f48 ?_;dsimp only[cj,dD];(repeat' (first|refine' aX|refine' pY|refine' K6|refine' yC|refine' Wq|refine' wb|refine' wc|refine' ar|fail))
   all_goals try refine cI
   all_goals exact⟨bB,_,_,bj,aq,_,_,_,_,rfl,rfl⟩
  .rw[if_neg h5];refine aO f48 ?_;dsimp only[cj,dD];(repeat' (first|refine' aX|refine' pY|refine' K6|refine' yC|refine' Wq|refine' wb|refine' wc|refine' Sg|refine' ar|fail))
   all_goals first|(exfalso;omega;done)|(exfalso;exact h5 ⟨by assumption,af⟩)|contradiction|skip
   .refine W.bH (λm l L=>∃(i b3 b6:Nat)(out:dx)(bo:aH)(d:Nat),Le [(1,sv z),(2,sv y),(3,aP b3),(6,aP b6),(13,.slice a f.ad.length c),(14,iv (i:Int))] l/\cr [.box b3 (fT bo d out a' c' f.ae) 26 false,.box b6 (fT none 0 [] none 0 []) 26 false,cj a c f.ad,dD a' c' f.ae,cj bo d out] L/\m=f.ad.length-i/\i<=f.ad.length/\T7 out/\out.length=i/\f.ad.foldl (λl x=>Flat.fV l ⟨Flat.eJ z y x.ag,x.id⟩) []=(f.ad.drop i).foldl (λl x=>Flat.fV l ⟨Flat.eJ z y x.ag,x.id⟩) out)
     (λl L=>∃(b3 b6:Nat)(bo:aH)(d:Nat),Le [(3,aP b3),(6,aP b6)] l/\cr [.box b3 (fT bo d (f.ad.foldl (λl x=>Flat.fV l ⟨Flat.eJ z y x.ag,x.id⟩) []) a' c' f.ae) 26 false,.box b6 (fT none 0 [] none 0 []) 26 false,dD a' c' f.ae,cj bo d (f.ad.foldl (λl x=>Flat.fV l ⟨Flat.eJ z y x.ag,x.id⟩) [])] L) _ ⟨0,_,_,[],_,_,bd,aq,rfl,af,⟨by simp,λx hx=>by cases hx⟩,rfl,rfl⟩ ?_ ?_
    .rintro m l L ⟨i,b3,b6,out,bo,d,hl,hL,rfl,g1,g2,g3,g4⟩;refine W.le ?_ hl hL;clear hl hL;dsimp only[cj,dD];by_cases hi:i<f.ad.length
     .have BA:=hp _ (aF hi c9.lW);rw[drop_cons hi,vF] at g4;have hA:(y++((f.ad.getD i c9.lW).ag.drop z.length)).length<=5000:=by rw[bR,gp];omega
      have hB:(f.ad.getD i c9.lW).ag.length<=5000:=by omega
      refine' zah
      .have TZ:Flat.eJ z y (f.ad.getD i c9.lW).ag=y++((f.ad.getD i c9.lW).ag.drop z.length):=by unfold Flat.eJ;rw[if_pos e1]
       rw[TZ] at g4 tW OF;have T6:(f.ad.getD i c9.lW).ag=z\/¬(f.ad.getD i c9.lW).ag=z/\z.length<(f.ad.getD i c9.lW).ag.length/\(f.ad.getD i c9.lW).ag.take ((z.length:Int)+1).toNat=z++[47]:=by
        rw[show((z.length:Int)+1).toNat=z.length+1 by omega];by_cases h:(f.ad.getD i c9.lW).ag=z
        .exact .inl h
        .exact .inr ⟨h,e1.resolve_left h⟩
       refine' zaK
       ·(refine' GK)
        all_goals try refine cI
        all_goals refine' zaz
       ·(refine' GK)
        all_goals try refine cI
        all_goals refine' zaz
      .have TZ:Flat.eJ z y (f.ad.getD i c9.lW).ag=(f.ad.getD i c9.lW).ag:=by unfold Flat.eJ;rw[if_neg e1]
       rw[TZ] at g4 tW OF;have e2:¬(f.ad.getD i c9.lW).ag=z:=λh=>e1 (.inl h)
       refine' zal
     .have fG:i=f.ad.length:=by omega
      rw[fG,ig,List.foldl_nil] at g4;rw[g4];(refine' cO)
      all_goals try refine cI
      all_goals exact⟨_,_,_,_,bd,aq⟩
    .rintro l L ⟨b3,b6,bo,d,hl,hL⟩;(repeat(first|(with_reducible refine aj ?_)|(with_reducible refine cP ?_)|(with_reducible refine dC ?_)))
     refine W.le ?_ hl hL;clear hl hL;dsimp only[cj,dD];(refine' cO)
     all_goals exact⟨bB,_,_,bj,aq,_,_,_,_,rfl,rfl⟩
   .refine W.bH (λm l L=>∃(i b3 b6:Nat)(out:dx)(bo:aH)(d:Nat),Le [(1,sv z),(2,sv y),(3,aP b3),(6,aP b6),(13,.slice a f.ad.length c),(14,iv (i:Int))] l/\cr [.box b3 (fT bo d out a' c' f.ae) 26 false,.box b6 (fT none 0 [] none 0 []) 26 false,cj a c f.ad,dD a' c' f.ae,cj bo d out] L/\m=f.ad.length-i/\i<=f.ad.length/\T7 out/\out.length=i/\f.ad.foldl (λl x=>Flat.fV l ⟨Flat.eJ z y x.ag,x.id⟩) []=(f.ad.drop i).foldl (λl x=>Flat.fV l ⟨Flat.eJ z y x.ag,x.id⟩) out)
     (λl L=>∃(b3 b6:Nat)(bo:aH)(d:Nat),Le [(3,aP b3),(6,aP b6)] l/\cr [.box b3 (fT bo d (f.ad.foldl (λl x=>Flat.fV l ⟨Flat.eJ z y x.ag,x.id⟩) []) a' c' f.ae) 26 false,.box b6 (fT none 0 [] none 0 []) 26 false,dD a' c' f.ae,cj bo d (f.ad.foldl (λl x=>Flat.fV l ⟨Flat.eJ z y x.ag,x.id⟩) [])] L) _ ⟨0,_,_,[],_,_,bd,aq,rfl,af,⟨by simp,λx hx=>by cases hx⟩,rfl,rfl⟩ ?_ ?_
    .rintro m l L ⟨i,b3,b6,out,bo,d,hl,hL,rfl,g1,g2,g3,g4⟩;refine W.le ?_ hl hL;clear hl hL;dsimp only[cj,dD];by_cases hi:i<f.ad.length
     .have BA:=hp _ (aF hi c9.lW);rw[drop_cons hi,vF] at g4;have hA:(y++((f.ad.getD i c9.lW).ag.drop z.length)).length<=5000:=by rw[bR,gp];omega
      have hB:(f.ad.getD i c9.lW).ag.length<=5000:=by omega
      refine' zah
      .have TZ:Flat.eJ z y (f.ad.getD i c9.lW).ag=y++((f.ad.getD i c9.lW).ag.drop z.length):=by unfold Flat.eJ;rw[if_pos e1]
       rw[TZ] at g4 tW OF;have T6:(f.ad.getD i c9.lW).ag=z\/¬(f.ad.getD i c9.lW).ag=z/\z.length<(f.ad.getD i c9.lW).ag.length/\(f.ad.getD i c9.lW).ag.take ((z.length:Int)+1).toNat=z++[47]:=by
        rw[show((z.length:Int)+1).toNat=z.length+1 by omega];by_cases h:(f.ad.getD i c9.lW).ag=z
        .exact .inl h
        .exact .inr ⟨h,e1.resolve_left h⟩
       refine' zaK
       ·(refine' GK)
        all_goals try refine cI
        all_goals refine' zaz
       ·(refine' GK)
        all_goals try refine cI
        all_goals refine' zaz
      .have TZ:Flat.eJ z y (f.ad.getD i c9.lW).ag=(f.ad.getD i c9.lW).ag:=by unfold Flat.eJ;rw[if_neg e1]
       rw[TZ] at g4 tW OF;have e2:¬(f.ad.getD i c9.lW).ag=z:=λh=>e1 (.inl h)
       refine' zal
     .have fG:i=f.ad.length:=by omega
      rw[fG,ig,List.foldl_nil] at g4;rw[g4];(refine' cO)
      all_goals try refine cI
      all_goals exact⟨_,_,_,_,bd,aq⟩
    .rintro l L ⟨b3,b6,bo,d,hl,hL⟩;(repeat(first|(with_reducible refine aj ?_)|(with_reducible refine cP ?_)|(with_reducible refine dC ?_)))
     refine W.le ?_ hl hL;clear hl hL;dsimp only[cj,dD];(refine' cO)
     all_goals exact⟨bB,_,_,bj,aq,_,_,_,_,rfl,rfl⟩
section
variable {E:dy}{X:dM}{Γ:gY}{l:Kn}{L R:bn}{K:KO}{g:FuncId}{xs:List Operand}{ts:Array TypeId}{vs:aQ}{a a':aH}{c c':Nat}{f:Flat}{r:Flat×Int}
theorem WO.Ws (hx:ky l xs vs)(h:∀s,ru E X g vs s a c a' c' f r)(hp:oz [cj a c f.ad,dD a' c' f.ae] L R)
  (k:∀m m' b d b' d' b0 d0 (p0:eV),kb L m->m<=m'->Sub 3 b0 p0 b' r.1.ae->K (.tuple ⟨[kr b d b' d' r.1,iv r.2]⟩) (cj b d r.1.ad::dD b0 d0 p0::R) m m' (λi=>i∈([]:List Nat)\/i∈[cj a c f.ad,dD a' c' f.ae].flatMap It.aS\/(m<=i/\i<m')) (λi=>i∈[cj a c f.ad,dD a' c' f.ae].flatMap It.aS\/(m<=i/\i<m'))):WO E X Γ l (.call ⟨.value (.func g),⟨xs⟩,ts⟩) L K:=
 WO.call (Lm:=[cj a c f.ad,dD a' c' f.ae]) (R:=R) (A:=[]) hx hp.cR (λs hi b hb=>by cases hb) (λs hi=>h s) (by rintro r' L' m m' ho hm ⟨b,d,b',d',b0,d0,p0,hs,rfl,rfl⟩;exact k m m' b d b' d' b0 d0 p0 ho hm hs)
end
theorem Yp (s:St)(a:aH)(c:Nat)(a':aH)(c':Nat)(f:Flat)(hf:Hy f)(o:Op)(hz:o.ag.length<=2000)(hy:o.to.length<=2000)(n4:0<=o.at_/\o.at_<=192)(AS:o.bh.length<=24)(hp:∀x∈f.ad,x.ag.length<=2000)(hex:∀k,f.dt o.ag=some k->(f.cD (f.ad.getD k c9.lW).id).isSome):ru aU aW 18 [kr a c a' c' f,ov o] s a c a' c' f (f.eS o):=by
 obtain⟨kd,pa,tZ,at_,tx⟩:=o;dsimp only at hz hy n4 AS hex;unfold Flat.eS;dsimp only;by_cases h1:kd=1\/kd=2
 .rw[if_pos h1];have iK:∀s,ru aU aW 45 [kr a c a' c' f,sv pa,.bool (decide (kd=2))] s a c a' c' f (f.make pa (decide (kd=2))):=λs=>(O2 s a c a' c' f hf pa af _).s
  refine aO f18 ?_;dsimp only[cj,dD];(refine' K8)
  all_goals refine' zao
 rw[if_neg h1];by_cases h2:kd=5
 .rw[if_pos h2];have iK:∀s,ru aU aW 46 [kr a c a' c' f,sv pa] s a c a' c' f (f.dX pa):=λs=>O5 s a c a' c' f hf pa af hex
  refine aO f18 ?_;dsimp only[cj,dD];(refine' K8)
  all_goals refine' zao
 rw[if_neg h2];by_cases h3:kd=6
 .rw[if_pos h3];have iK:∀s,ru aU aW 47 [kr a c a' c' f,sv pa,sv tZ] s a c a' c' f (f.link pa tZ):=λs=>(O3 s a c a' c' f hf pa tZ af af).s
  refine aO f18 ?_;dsimp only[cj,dD];(refine' K8)
  all_goals refine' zao
 rw[if_neg h3];by_cases h4:kd=7
 .rw[if_pos h4];have iK:∀s,ru aU aW 48 [kr a c a' c' f,sv pa,sv tZ] s a c a' c' f (f.move pa tZ):=λs=>(O6 s a c a' c' f hf pa tZ af af hp).s
  refine aO f18 ?_;dsimp only[cj,dD];(refine' K8)
  all_goals refine' zao
 rw[if_neg h4];have iK:∀s,ru aU aW 49 [kr a c a' c' f,.agg ⟨[iv kd,sv pa,sv tZ,iv at_,sv tx]⟩] s a c a' c' f (f.change ⟨kd,pa,tZ,at_,tx⟩):=λs=>(Jh s a c a' c' f hf kd pa tZ at_ tx af n4 AS hex).s
 refine aO f18 ?_;dsimp only[cj,dD];(refine' K8)
 all_goals refine' zao
end Go.Pl
