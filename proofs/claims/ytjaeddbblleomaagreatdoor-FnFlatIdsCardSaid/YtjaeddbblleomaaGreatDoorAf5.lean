/- Lemmas of the proof. No conditions. -/
import Derived.Test.YtjaeddbblleomaaGreatDoorAf4
set_option maxRecDepth 100000
set_option maxHeartbeats 4000000
set_option linter.unusedVariables false
set_option linter.unusedSimpArgs false
open Go.Proofs.Tryz
namespace Go.Pl
open Go Go.Ev Go.Lg Go.Proofs
theorem O2 (s:St)(a:aH)(c:Nat)(a':aH)(c':Nat)(f:Flat)(hf:Hy f)(z:ay)(hz:z.length<=5000)(fo:Bool):Ai aU aW 45 [kr a c a' c' f,sv z,.bool fo] s a c a' c' f (f.make z fo):=by
 have qM:=hf.tl;have nf:=hf.nl;have Fc:T7 f.ad:=⟨nf,λx hx=>(hf.nm x hx).1⟩;have XO:=sx z;have zD:=TC f;by_cases h0:0<f.bD z
 .have hm:f.make z fo=(f,f.bD z):=by unfold Flat.make;rw[if_pos h0]
  rw[hm];refine aO f45 ?_;dsimp only[cj,dD];(repeat' (first|refine' aX|refine' Qf|refine' ar|fail))
  all_goals refine' zam
 .refine aO f45 ?_;dsimp only[cj,dD];(repeat' (first|refine' aX|refine' Qf|refine' ar|fail))
  all_goals try refine cI
  refine W.bH (λk l L=>∃(i b3 b6:Nat),Le [(1,sv z),(2,.bool fo),(3,aP b3),(6,aP b6),(9,iv (i:Int))] l/\cr [.box b3 (fT a c f.ad a' c' f.ae) 26 false,.box b6 (fT none 0 [] none 0 []) 26 false,cj a c f.ad,dD a' c' f.ae] L/\k=f.ae.length+1-i/\i<=f.bI/\f.bI=f.yb (f.ae.length+1-i) i)
   (λl L=>∃(b3 b6:Nat),Le [(1,sv z),(2,.bool fo),(3,aP b3),(6,aP b6),(9,iv (f.bI:Int))] l/\cr [.box b3 (fT a c f.ad a' c' f.ae) 26 false,.box b6 (fT none 0 [] none 0 []) 26 false,cj a c f.ad,dD a' c' f.ae] L) _ ⟨0,_,_,bd,aq,rfl,af,rfl⟩ ?_ ?_
  .rintro k l L ⟨i,b3,b6,hl,hL,rfl,g1,g2⟩;refine W.le ?_ hl hL;clear hl hL;rw[show f.ae.length+1-i=(f.ae.length+1-(i+1))+1 by omega,HH] at g2;dsimp only[cj,dD];(repeat' (first|refine' aX|refine' Wm|refine' ar|fail))
   all_goals try refine cI
   .have hs:=OW.1 (by assumption);rw[if_pos hs] at g2;have gx:f.bI≠i:=λe=>by rw[<-e,zD.2] at hs;cases hs
    exact⟨_,af,i+1,b3,b6,bd,aq,rfl,af,g2⟩
   .have hs:=Yb.1 (by assumption);rw[hs,if_neg (by decide)] at g2;rw[g2];exact⟨_,_,bd,aq⟩
  .rintro l L ⟨b3,b6,hl,hL⟩;refine aj ?_;refine W.le ?_ hl hL;clear hl hL;dsimp only[cj,dD];by_cases h1:16<=f.bI\/12<=f.nw (aK z).1
   .have hm:f.make z fo=(f,6):=by unfold Flat.make;rw[if_neg h0,if_pos h1]
    rw[hm];(repeat' (first|refine' aX|refine' wb|refine' wc|refine' ar|fail))
    all_goals refine' zam
   .have hm:f.make z fo=(⟨Flat.fV f.ad ⟨z,f.bI⟩,Flat.nL f.ae ⟨f.bI,fo,[]⟩⟩,0):=by unfold Flat.make;rw[if_neg h0,if_neg h1];rfl
    rw[hm];(repeat' (first|refine' aX|refine' wb|refine' wc|refine' NW|refine' yr|refine' ar|fail))
    all_goals try refine cI
    refine W.bH (λk l L=>∃(i b3 b6:Nat)(out:eV)(b:aH)(d:Nat),Le [(1,sv z),(2,.bool fo),(3,aP b3),(6,aP b6),(9,iv (f.bI:Int)),(12,.slice b out.length d),(13,iv (i:Int))] l/\cr [.box b3 (fT a c f.ad a' c' f.ae) 26 false,.box b6 (fT none 0 [] none 0 []) 26 false,cj a c f.ad,dD a' c' f.ae,dD b d out] L/\k=f.ae.length-i/\i<=f.ae.length/\out.length=i/\Flat.nL f.ae ⟨f.bI,fo,[]⟩=out++Flat.nL (f.ae.drop i) ⟨f.bI,fo,[]⟩)
     (λl L=>∃(i b3 b6:Nat)(out:eV)(b:aH)(d:Nat),Le [(1,sv z),(2,.bool fo),(3,aP b3),(6,aP b6),(9,iv (f.bI:Int)),(12,.slice b out.length d),(13,iv (i:Int))] l/\cr [.box b3 (fT a c f.ad a' c' f.ae) 26 false,.box b6 (fT none 0 [] none 0 []) 26 false,cj a c f.ad,dD a' c' f.ae,dD b d out] L/\i<=f.ae.length/\out.length=i/\Flat.nL f.ae ⟨f.bI,fo,[]⟩=out++⟨f.bI,fo,[]⟩::f.ae.drop i) _ ⟨0,_,_,[],_,_,bd,aq,rfl,af,rfl,rfl⟩ ?_ ?_
    .rintro k l L ⟨i,b3,b6,out,b,d,hl,hL,rfl,g1,g2,g3⟩;refine W.le ?_ hl hL;clear hl hL;dsimp only[cj,dD];by_cases hi:i<f.ae.length
     .rw[drop_cons hi,Flat.nL] at g3;(repeat' (first|refine' aX|refine' NW|refine' yr|refine' ar|fail))
      all_goals try refine cI
      .refine⟨_,af,i+1,b3,b6,out++[f.ae.getD i c9.lW],_,_,bd,aq,rfl,af,by rw[bR,g2];rfl,?_⟩;rw[g3,if_pos (by assumption)];simp
      .refine⟨i,_,_,out,_,_,bd,aq,af,g2,?_⟩;have dA:¬((f.ae.getD i c9.lW).id<(⟨f.bI,fo,[]⟩:bU).id):=by show ¬(_<(f.bI:Int));omega
       rw[g3,if_neg dA,drop_cons hi]
     .have fG:i=f.ae.length:=by omega
      rw[fG,ig,Flat.nL] at g3;(repeat' (first|refine' aX|refine' NW|refine' yr|refine' ar|fail))
      all_goals try refine cI
      all_goals(refine⟨i,_,_,out,_,_,bd,aq,af,g2,?_⟩;rw[g3,fG,ig])
    .rintro l L ⟨i,b3,b6,out,b,d,hl,hL,g1,g2,g3⟩;refine aj ?_;refine W.le ?_ hl hL;clear hl hL;dsimp only[cj,dD];(repeat' (first|refine' aX|refine' Wo|refine' NW|refine' yr|refine' ar|fail))
     all_goals try refine cI
     all_goals(have e1:out++[(⟨f.bI,fo,[]⟩:bU)]++f.ae.drop (out.length:Int).toNat=Flat.nL f.ae ⟨f.bI,fo,[]⟩:=by rw[g3,show(out.length:Int).toNat=i by omega];simp)
     all_goals rw[e1]
     all_goals(exact⟨bB,_,_,bj,aq,_,_,_,_,rfl,rfl⟩)
theorem O3 (s:St)(a:aH)(c:Nat)(a':aH)(c':Nat)(f:Flat)(hf:Hy f)(z y:ay)(hz:z.length<=5000)(hy:y.length<=5000):Ai aU aW 47 [kr a c a' c' f,sv z,sv y] s a c a' c' f (f.link z y):=by
 have qM:=hf.tl;have nf:=hf.nl;have Fc:T7 f.ad:=⟨nf,λx hx=>(hf.nm x hx).1⟩;have XO:=sx y;have kh:∀s,bY s a a' f->bO 38 [kr a c a' c' f,sv z] s (jh a a') (iv (G4 (f.dt z))):=λs hr=>kN s a c a' c' f hf _ hr
 cases hk:f.dt z with
 |none=>
  have hm:f.link z y=(f,2):=by unfold Flat.link;rw[hk]
  rw[hk] at kh;have kh:∀s,bY s a a' f->bO 38 [kr a c a' c' f,sv z] s (jh a a') (iv (-1)):=kh;rw[hm];refine aO f47 ?_;dsimp only[cj,dD];(repeat' (first|refine' aX|refine' pY|refine' Qf|refine' ar|fail))
  all_goals refine' zam
 |some k=>
  rw[hk] at kh;have kh:∀s,bY s a a' f->bO 38 [kr a c a' c' f,sv z] s (jh a a') (iv (k:Int)):=kh;have ED:=uX hk;have hm:f.link z y=if f.gX (f.ad.getD k c9.lW).id then(f,4) else if 0<f.bD y then(f,f.bD y) else if 9<=f.many (f.ad.getD k c9.lW).id\/12<=f.nw (aK y).1 then(f,6) else(⟨Flat.fV f.ad ⟨y,(f.ad.getD k c9.lW).id⟩,f.ae⟩,0):=by unfold Flat.link;rw[hk];rfl
  rw[hm];refine aO f47 ?_;dsimp only[cj,dD];(repeat' (first|refine' aX|refine' pY|refine' K3|refine' Qf|refine' Wl|refine' wc|refine' wb|refine' Wo|refine' ar|fail))
  all_goals try refine cI
  all_goals first
   |(rw[if_pos (by assumption)];exact⟨bB,_,_,bj,aq,_,_,_,_,rfl,rfl⟩)
   |(rw[if_neg (by rw[jJ];assumption),if_pos (show 0<f.bD y by assumption)];exact⟨bB,_,_,bj,aq,_,_,_,_,rfl,rfl⟩)
   |(rw[if_neg (by rw[jJ];assumption),if_neg (show ¬0<f.bD y by omega),if_pos af];exact⟨bB,_,_,bj,aq,_,_,_,_,rfl,rfl⟩)
   |(rw[if_neg (by rw[jJ];assumption),if_neg (show ¬0<f.bD y by omega),if_neg af];exact⟨bB,_,_,bj,aq,_,_,_,_,rfl,rfl⟩)
theorem Yo {E:dy}{l:Kn}{L:bn}{rs:List ResultVar}{x:Ex}{a a':aH}{c c' i:Nat}{nm:dx}{th:eV}{q:bU}{n:Int}(hx:x= .normal\/x= .ret)(hr:pV E l L rs [.agg ⟨fT a c nm a' c' th⟩,iv n])(hL:cr [cj a c nm,.aJ (.slice a' th.length c') 37 3 (ah (th.set i q))] L):
  ux E rs (λR L=>∃b d b' d',R= .tuple ⟨[kr b d b' d' ⟨nm,th.set i q⟩,iv n]⟩/\L=[.aJ (.slice b nm.length d) 70 2 (ah nm),.aJ (.slice b' (th.set i q).length d') 37 3 (ah (th.set i q))]) x l L:=by
 have e:(th.set i q).length=th.length:=gZ;refine⟨hx,_,_,hr,hL,a,c,a',c',?_,?_⟩
 .dsimp only[kr,fT];rw[e];rfl
 .dsimp only[cj];rw[e]
theorem Aj (n:Int):(hZ n).length=n.toNat:=rC
theorem TE (f:Flat)(kd:Int)(pa tZ:ay)(at_:Int)(tx:ay){k x:Nat}(hk:f.dt pa=some k)(hx:f.cD (f.ad.getD k c9.lW).id=some x):f.change ⟨kd,pa,tZ,at_,tx⟩=if(f.ae.getD x c9.lW).aM then(f,4) else if 192<at_+tx.length then(f,6) else if kd=4 then(⟨f.ad,f.ae.set x ⟨(f.ae.getD x c9.lW).id,(f.ae.getD x c9.lW).aM,((f.ae.getD x c9.lW).bh++hZ (at_-((f.ae.getD x c9.lW).bh.length:Int))).take at_.toNat⟩⟩,0) else if tx≠[] then(⟨f.ad,f.ae.set x ⟨(f.ae.getD x c9.lW).id,(f.ae.getD x c9.lW).aM,gg (f.ae.getD x c9.lW).bh at_.toNat tx⟩⟩,0) else(f,0):=by
 unfold Flat.change;rw[hk];show(match f.cD (f.ad.getD k c9.lW).id with|none=>_|some x=>_)=_;rw[hx];rfl
theorem O4 (f:Flat)(x:Nat)(at_:Int)(tx:ay)(n4:0<=at_):gg (f.ae.getD x c9.lW).bh at_.toNat tx=((f.ae.getD x c9.lW).bh++hZ (at_-((f.ae.getD x c9.lW).bh.length:Int))).take at_.toNat++tx++((f.ae.getD x c9.lW).bh++hZ (at_-((f.ae.getD x c9.lW).bh.length:Int))).drop (min (((f.ae.getD x c9.lW).bh++hZ (at_-((f.ae.getD x c9.lW).bh.length:Int))).length:Int) (at_+(tx.length:Int))).toNat:=by
 have hz:=Aj (at_-((f.ae.getD x c9.lW).bh.length:Int));unfold gg;rw[xG n4];show _++_++List.drop _ _=_;rw[show((min (((f.ae.getD x c9.lW).bh++hZ (at_-((f.ae.getD x c9.lW).bh.length:Int))).length:Int) (at_+(tx.length:Int))).toNat)=min ((f.ae.getD x c9.lW).bh++hZ (at_-((f.ae.getD x c9.lW).bh.length:Int))).length (at_.toNat+tx.length) by omega]
theorem Jh (s:St)(a:aH)(c:Nat)(a':aH)(c':Nat)(f:Flat)(hf:Hy f)(kd:Int)(pa tZ:ay)(at_:Int)(tx:ay)(hp:pa.length<=5000)(n4:0<=at_/\at_<=192)(AS:tx.length<=24)(hex:∀k,f.dt pa=some k->(f.cD (f.ad.getD k c9.lW).id).isSome):Ai aU aW 49 [kr a c a' c' f,.agg ⟨[iv kd,sv pa,sv tZ,iv at_,sv tx]⟩] s a c a' c' f (f.change ⟨kd,pa,tZ,at_,tx⟩):=by
 have qM:=hf.tl;have nf:=hf.nl;have kh:∀s,bY s a a' f->bO 38 [kr a c a' c' f,sv pa] s (jh a a') (iv (G4 (f.dt pa))):=λs hr=>kN s a c a' c' f hf _ hr
 cases hk:f.dt pa with
 |none=>
  have hm:f.change ⟨kd,pa,tZ,at_,tx⟩=(f,2):=by unfold Flat.change;rw[hk]
  rw[hk] at kh;have kh:∀s,bY s a a' f->bO 38 [kr a c a' c' f,sv pa] s (jh a a') (iv (-1)):=kh;rw[hm];refine aO f49 ?_;dsimp only[cj,dD];(refine' GJ)
  all_goals refine' zam
 |some k=>
  rw[hk] at kh;have kh:∀s,bY s a a' f->bO 38 [kr a c a' c' f,sv pa] s (jh a a') (iv (k:Int)):=kh;have ED:=uX hk;have Sm:∀s,bY s a a' f->bO 40 [kr a c a' c' f,iv (f.ad.getD k c9.lW).id] s (jh a a') (iv (G4 (f.cD (f.ad.getD k c9.lW).id))):=λs hr=>qS s a c a' c' f hf _ hr
  obtain⟨x,hx⟩:=kB.1 (hex k hk);rw[hx] at Sm;have Sm:∀s,bY s a a' f->bO 40 [kr a c a' c' f,iv (f.ad.getD k c9.lW).id] s (jh a a') (iv (x:Int)):=Sm;have rv:=Hz hx;have BA:=(hf.th _ (aF rv c9.lW)).2.2;have hzl:((f.ae.getD x c9.lW).bh++hZ (at_-((f.ae.getD x c9.lW).bh.length:Int))).length=(f.ae.getD x c9.lW).bh.length+(at_-((f.ae.getD x c9.lW).bh.length:Int)).toNat:=by rw[bR,Aj]
  have hov:=O4 f x at_ tx n4.1;have hz2:=Aj (at_-((f.ae.getD x c9.lW).bh.length:Int));have hm:=TE f kd pa tZ at_ tx hk hx;by_cases uB:(f.ae.getD x c9.lW).aM=true
  .rw[hm,if_pos uB];refine aO f49 ?_;dsimp only[cj,dD];(refine' K7)
   all_goals first|(exfalso;omega;done)|contradiction|(exact absurd uB (by rw[jJ];assumption))|(exact absurd (show(f.ae.getD x c9.lW).aM=true by assumption) uB)|skip
   all_goals exact⟨bB,_,_,bj,aq,_,_,_,_,rfl,rfl⟩
  by_cases h2:192<at_+(tx.length:Int)
  .rw[hm,if_neg uB,if_pos h2];refine aO f49 ?_;dsimp only[cj,dD];(refine' K7)
   all_goals first|(exfalso;omega;done)|contradiction|(exact absurd uB (by rw[jJ];assumption))|(exact absurd (show(f.ae.getD x c9.lW).aM=true by assumption) uB)|skip
   all_goals exact⟨bB,_,_,bj,aq,_,_,_,_,rfl,rfl⟩
  by_cases h3:kd=4
  .rw[hm,if_neg uB,if_neg h2,if_pos h3];refine aO f49 ?_;dsimp only[cj,dD];(refine' K7)
   all_goals first|(exfalso;omega;done)|contradiction|(exact absurd uB (by rw[jJ];assumption))|(exact absurd (show(f.ae.getD x c9.lW).aM=true by assumption) uB)|skip
   all_goals exact Yo bB bj aq
  by_cases h4:tx≠[]
  .rw[hm,if_neg uB,if_neg h2,if_neg h3,if_pos h4,hov];refine aO f49 ?_;dsimp only[cj,dD];(refine' K7)
   all_goals first|(exfalso;omega;done)|contradiction|(exact absurd uB (by rw[jJ];assumption))|(exact absurd (show(f.ae.getD x c9.lW).aM=true by assumption) uB)|skip
   all_goals exact Yo bB bj aq
  .rw[hm,if_neg uB,if_neg h2,if_neg h3,if_neg h4];refine aO f49 ?_;dsimp only[cj,dD];(refine' K7)
   all_goals first|(exfalso;omega;done)|contradiction|(exact absurd uB (by rw[jJ];assumption))|(exact absurd (show(f.ae.getD x c9.lW).aM=true by assumption) uB)|skip
   all_goals exact⟨bB,_,_,bj,aq,_,_,_,_,rfl,rfl⟩
end Go.Pl
