/- Lemmas of the proof. No conditions. -/
import Derived.Test.YtjaeddbblleomaaGreatDoorAf5
set_option maxRecDepth 100000
set_option maxHeartbeats 4000000
set_option linter.unusedVariables false
set_option linter.unusedSimpArgs false
open Go.Proofs.Tryz
namespace Go.Pl
open Go Go.Ev Go.Lg Go.Proofs
variable {f:Flat}
theorem ML (s:St)(a:aH)(c:Nat)(a':aH)(c':Nat)(p:dx)(q:eV)(hf:Hy ⟨p,q⟩)(n:Int)(hr:bY s a a' ⟨p,q⟩):bO 82 [.agg ⟨fT a c p a' c' q⟩,iv n] s (jh a a') (iv (Flat.many ⟨p,q⟩ n:Int)):=Db s a c a' c' ⟨p,q⟩ hf n hr
theorem Ji (s:St)(a:aH)(c:Nat)(a':aH)(c':Nat)(p:dx)(q:eV)(hf:Hy ⟨p,q⟩)(n:Int)(hr:bY s a a' ⟨p,q⟩):bO 40 [.agg ⟨fT a c p a' c' q⟩,iv n] s (jh a a') (iv (G4 (Flat.cD ⟨p,q⟩ n))):=qS s a c a' c' ⟨p,q⟩ hf n hr
theorem Hy.less (h:Hy f)(z:ay):Hy ⟨f.ad.filter λx=>decide (x.ag≠z),f.ae⟩:=⟨by have:=B9 (λx=>decide (x.ag≠z)) f.ad;have:=h.nl;show(List.filter _ _).length<=_;omega,h.tl,λx hx=>h.nm x (vR.1 hx).1,h.th⟩
abbrev ru (E:dy)(X:dM)(g:FuncId)(vs:aQ)(s:St)(a:aH)(c:Nat)(a':aH)(c':Nat)(f:Flat)(r:Flat×Int):Prop:=
 fI E X g vs s [cj a c f.ad,dD a' c' f.ae] [] λR L=>∃b d b' d' b0 d0,∃p0:eV,Sub 3 b0 p0 b' r.1.ae/\R= .tuple ⟨[kr b d b' d' r.1,iv r.2]⟩/\L=[cj b d r.1.ad,dD b0 d0 p0]
theorem Ai.s {E:dy}{X:dM}{g:FuncId}{vs:aQ}{s:St}{a:aH}{c:Nat}{a':aH}{c':Nat}{r:Flat×Int}(h:Ai E X g vs s a c a' c' f r):ru E X g vs s a c a' c' f r:=h.mono λ_ _ ⟨b,d,b',d',h1,h2⟩=>⟨b,d,b',d',b',d',_,Sub.all,h1,h2⟩
theorem O5 (s:St)(a:aH)(c:Nat)(a':aH)(c':Nat)(f:Flat)(hf:Hy f)(z:ay)(hz:z.length<=5000)(hex:∀k,f.dt z=some k->(f.cD (f.ad.getD k c9.lW).id).isSome):ru aU aW 46 [kr a c a' c' f,sv z] s a c a' c' f (f.dX z):=by
 have qM:=hf.tl;have nf:=hf.nl;have Fc:T7 f.ad:=⟨nf,λx hx=>(hf.nm x hx).1⟩;have kh:∀s,bY s a a' f->bO 38 [kr a c a' c' f,sv z] s (jh a a') (iv (G4 (f.dt z))):=λs hr=>kN s a c a' c' f hf _ hr
 cases hk:f.dt z with
 |none=>
  have hm:f.dX z=(f,2):=by unfold Flat.dX;rw[hk]
  rw[hk] at kh;have kh:∀s,bY s a a' f->bO 38 [kr a c a' c' f,sv z] s (jh a a') (iv (-1)):=kh;rw[hm];refine aO f46 ?_;dsimp only[cj,dD];(refine' GJ)
  all_goals try refine cI
  all_goals exact⟨bB,_,_,bj,aq,_,_,_,_,_,_,_,Sub.all,rfl,rfl⟩
 |some k=>
  rw[hk] at kh;have kh:∀s,bY s a a' f->bO 38 [kr a c a' c' f,sv z] s (jh a a') (iv (k:Int)):=kh;have ED:=uX hk;obtain⟨x,hx⟩:=kB.1 (hex k hk);have rv:=Hz hx;by_cases h1:z=[47]\/0<f.nw z
  .have hm:f.dX z=(f,5):=by unfold Flat.dX;rw[hk];exact if_pos h1
   rw[hm];refine aO f46 ?_;dsimp only[cj,dD];(repeat' (first|refine' aX|refine' pY|refine' wc|refine' ar|fail))
   all_goals try refine cI
   all_goals first|(exact⟨bB,_,_,bj,aq,_,_,_,_,_,_,_,Sub.all,rfl,rfl⟩)|(exfalso;rcases h1 with h1|h1<;>first|contradiction|omega)
  have hG:=hf.less z;have hmy0:∀s b d,bY s b a' ⟨f.ad.filter λx=>decide (x.ag≠z),f.ae⟩->bO 82 [.agg ⟨fT b d (f.ad.filter λx=>decide (x.ag≠z)) a' c' f.ae⟩,iv (f.ad.getD k c9.lW).id] s (jh b a') (iv (Flat.many ⟨f.ad.filter λx=>decide (x.ag≠z),f.ae⟩ (f.ad.getD k c9.lW).id:Int)):=λs b d hr=>ML s b d a' c' _ _ hG _ hr
  have Sm:∀s b d,bY s b a' ⟨f.ad.filter λx=>decide (x.ag≠z),f.ae⟩->bO 40 [.agg ⟨fT b d (f.ad.filter λx=>decide (x.ag≠z)) a' c' f.ae⟩,iv (f.ad.getD k c9.lW).id] s (jh b a') (iv (x:Int)):=λs b d hr=>by
   have:=Ji s b d a' c' _ _ hG (f.ad.getD k c9.lW).id hr;rw[show Flat.cD ⟨f.ad.filter λx=>decide (x.ag≠z),f.ae⟩ (f.ad.getD k c9.lW).id=some x from hx] at this;exact this
  have hm:f.dX z=if Flat.many ⟨f.ad.filter λx=>decide (x.ag≠z),f.ae⟩ (f.ad.getD k c9.lW).id=0 then(⟨f.ad.filter λx=>decide (x.ag≠z),f.ae.take x++f.ae.drop ((x:Int)+1).toNat⟩,0) else(⟨f.ad.filter λx=>decide (x.ag≠z),f.ae⟩,0):=by
   unfold Flat.dX;rw[hk];refine(if_neg h1).trans ?_;show(if Flat.many ⟨f.ad.filter λx=>decide (x.ag≠z),f.ae⟩ (f.ad.getD k c9.lW).id=0 then(match f.cD (f.ad.getD k c9.lW).id with|none=>_|some x=>_) else _)=_;rw[hx];rfl
  by_cases h2:Flat.many ⟨f.ad.filter λx=>decide (x.ag≠z),f.ae⟩ (f.ad.getD k c9.lW).id=0
  .rw[hm,if_pos h2];rw[h2] at hmy0;have hmy:∀s b d,bY s b a' ⟨f.ad.filter λx=>decide (x.ag≠z),f.ae⟩->bO 82 [.agg ⟨fT b d (f.ad.filter λx=>decide (x.ag≠z)) a' c' f.ae⟩,iv (f.ad.getD k c9.lW).id] s (jh b a') (iv 0):=hmy0;refine aO f46 ?_;dsimp only[cj,dD];(refine' zb235)
   all_goals try refine cI
   all_goals first|(exact⟨bB,_,_,bj,aq,_,_,_,_,_,_,_,hs_ac,rfl,rfl⟩)|(exfalso;exact h1 (.inl (by assumption)))
  .rw[hm,if_neg h2];have hmy:∀s b d,bY s b a' ⟨f.ad.filter λx=>decide (x.ag≠z),f.ae⟩->bO 82 [.agg ⟨fT b d (f.ad.filter λx=>decide (x.ag≠z)) a' c' f.ae⟩,iv (f.ad.getD k c9.lW).id] s (jh b a') (iv (Flat.many ⟨f.ad.filter λx=>decide (x.ag≠z),f.ae⟩ (f.ad.getD k c9.lW).id:Int)):=hmy0;refine aO f46 ?_;dsimp only[cj,dD];(refine' zb235)
   all_goals try refine cI
   all_goals first|(exact⟨bB,_,_,bj,aq,_,_,_,_,_,_,_,Sub.all,rfl,rfl⟩)|(exfalso;exact h1 (.inl (by assumption)))
end Go.Pl
namespace Go.Pl
open Go Go.Ev Go.Lg Go.Proofs
theorem MM (p tZ x:ay):(Flat.eJ p tZ x).length<=tZ.length+x.length:=by
 unfold Flat.eJ;split
 .rw[bR,gp];omega
 .omega
theorem Er:∀(l:dx)(e:Fnd){x:Fnd},x∈Flat.fV l e->x=e\/x∈l
 |[],e,x,h=>by simp[Flat.fV] at h;exact .inl h
 |y::l,e,x,h=>by
  unfold Flat.fV at h;split at h
  .rcases bV.1 h with h|h
   .exact .inl h
   .exact .inr h
  .rcases bV.1 h with h|h
   .exact .inr (by rw[h];exact jr)
   .rcases Er l e h with h|h
    .exact .inl h
    .exact .inr (lE _ h)
end Go.Pl
