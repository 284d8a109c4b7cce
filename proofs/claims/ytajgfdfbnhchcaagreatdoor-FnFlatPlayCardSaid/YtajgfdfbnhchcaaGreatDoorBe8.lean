/- Lemmas of the proof. No conditions. -/
import Derived.Test.YtajgfdfbnhchcaaGreatDoorBe7
set_option maxRecDepth 100000
set_option maxHeartbeats 4000000
set_option linter.unusedVariables false
set_option linter.unusedSimpArgs false
open Go.Proofs.Tryz
namespace Go.Pl
open Go Go.Ev Go.Lg Go.Proofs
variable {E:ig}{X:fR}{Γ:qV}{l:Kn}{L:bZ}{K:KO}{g:FuncId}{xs:List Operand}{ts:Array TypeId}{vs:a6}{f:Fs}{a:aM}{c i:Nat}{k:IntKind}{br p d:Nat}{Q:Value->Prop}{z:az}{a':aM}{r:Value}{c':Nat}
theorem QC (s:St)(a:aM)(c:Nat)(a':aM)(c':Nat)(f:Flat)(hf:ID f)(z:az)(hz:z.length<=5000)(hex:∀k,f.dy z=some k->(f.cO (f.ad.getD k ak.ah).id).isSome):Bd bh bw 60 [jC a c a' c' f,sv z] s a c a' c' f (f.eb z):=by
 have pO:=hf.tl;have nB:=hf.nl;have zI:Vx f.ad:=⟨nB,λx hx=>(hf.nm x hx).1⟩;have kC:∀s,cD s a a' f->bF 52 [jC a c a' c' f,sv z] s (kb a a') (iv (H3 (f.dy z))):=λs hr=>lg s a c a' c' f hf _ hr
 cases hk:f.dy z with
 |none=>
  have hm:f.eb z=(f,2):=by unfold Flat.eb;rw[hk]
  rw[hk] at kC;have kC:∀s,cD s a a' f->bF 52 [jC a c a' c' f,sv z] s (kb a a') (iv (-1)):=kC;rw[hm];refine aT f60 ?_;dsimp only[cv,dK];refine' HI;all_goals refine' zag
 |some k=>
  rw[hk] at kC;have kC:∀s,cD s a a' f->bF 52 [jC a c a' c' f,sv z] s (kb a a') (iv (k:Int)):=kC;have FP:=vE hk;obtain⟨x,hx⟩:=jh.1 (hex k hk);have sd:=IE hx;by_cases h1:z=[47]\/0<f.nE z
  .have hm:f.eb z=(f,5):=by unfold Flat.eb;rw[hk];exact if_pos h1
   rw[hm];refine aT f60 ?_;dsimp only[cv,dK];(repeat' (first|refine' aW|refine' qG|refine' xc|refine' av|fail));(all_goals try refine cj);all_goals first|(exact⟨bG,_,_,bu,ar,_,_,_,_,rfl,rfl⟩)|(exfalso;rcases h1 with h1|h1<;>first|contradiction|omega)
  have hG:=hf.less z;have af2:∀s b d,cD s b a' ⟨f.ad.filter λx=>decide (x.af≠z),f.ae⟩->bF 94 [.agg ⟨ie b d (f.ad.filter λx=>decide (x.af≠z)) a' c' f.ae⟩,iv (f.ad.getD k ak.ah).id] s (kb b a') (iv (Flat.many ⟨f.ad.filter λx=>decide (x.af≠z),f.ae⟩ (f.ad.getD k ak.ah).id:Int)):=λs b d hr=>N6 s b d a' c' _ _ hG _ hr
  have TP:∀s b d,cD s b a' ⟨f.ad.filter λx=>decide (x.af≠z),f.ae⟩->bF 54 [.agg ⟨ie b d (f.ad.filter λx=>decide (x.af≠z)) a' c' f.ae⟩,iv (f.ad.getD k ak.ah).id] s (kb b a') (iv (x:Int)):=λs b d hr=>by
   have:=Kv s b d a' c' _ _ hG (f.ad.getD k ak.ah).id hr;rw[show Flat.cO ⟨f.ad.filter λx=>decide (x.af≠z),f.ae⟩ (f.ad.getD k ak.ah).id=some x from hx] at this;exact this
  have hm:f.eb z=if Flat.many ⟨f.ad.filter λx=>decide (x.af≠z),f.ae⟩ (f.ad.getD k ak.ah).id=0 then(⟨f.ad.filter λx=>decide (x.af≠z),f.ae.take x++f.ae.drop ((x:Int)+1).toNat⟩,0) else(⟨f.ad.filter λx=>decide (x.af≠z),f.ae⟩,0):=by
   unfold Flat.eb;rw[hk];refine(if_neg h1).trans ?_;show(if Flat.many ⟨f.ad.filter λx=>decide (x.af≠z),f.ae⟩ (f.ad.getD k ak.ah).id=0 then(match f.cO (f.ad.getD k ak.ah).id with|none=>_|some x=>_) else _)=_;rw[hx];rfl
  by_cases h2:Flat.many ⟨f.ad.filter λx=>decide (x.af≠z),f.ae⟩ (f.ad.getD k ak.ah).id=0
  .rw[hm,if_pos h2];rw[h2] at af2;have hmy:∀s b d,cD s b a' ⟨f.ad.filter λx=>decide (x.af≠z),f.ae⟩->bF 94 [.agg ⟨ie b d (f.ad.filter λx=>decide (x.af≠z)) a' c' f.ae⟩,iv (f.ad.getD k ak.ah).id] s (kb b a') (iv 0):=af2;refine aT f60 ?_;dsimp only[cv,dK];refine' adi
   (all_goals try refine cj);all_goals first|(exact⟨bG,_,_,bu,ar,_,_,_,_,rfl,rfl⟩)|(exfalso;exact h1 (.inl aL))
  .rw[hm,if_neg h2];have hmy:∀s b d,cD s b a' ⟨f.ad.filter λx=>decide (x.af≠z),f.ae⟩->bF 94 [.agg ⟨ie b d (f.ad.filter λx=>decide (x.af≠z)) a' c' f.ae⟩,iv (f.ad.getD k ak.ah).id] s (kb b a') (iv (Flat.many ⟨f.ad.filter λx=>decide (x.af≠z),f.ae⟩ (f.ad.getD k ak.ah).id:Int)):=af2;refine aT f60 ?_;dsimp only[cv,dK];refine' adi
   (all_goals try refine cj);all_goals first|(exact⟨bG,_,_,bu,ar,_,_,_,_,rfl,rfl⟩)|(exfalso;exact h1 (.inl aL))
theorem N7 (p to x:az):(Flat.eO p to x).length<=to.length+x.length:=by
 unfold Flat.eO;split
 .rw[bL,eW];omega
 .omega
theorem Fx:∀(l:List a7)(e:a7){x:a7},x∈Flat.gm l e->x=e\/x∈l
 |[],e,x,h=>by simp[Flat.gm] at h;exact .inl h
 |y::l,e,x,h=>by
  unfold Flat.gm at h;split at h
  .rcases bT.1 h with h|h
   .exact .inl h
   .exact .inr h
  .rcases bT.1 h with h|h
   .exact .inr (by rw[h];exact gh)
   .rcases Fx l e h with h|h
    .exact .inl h
    .exact .inr (jA _ h)
theorem QD (s:St)(a:aM)(c:Nat)(a':aM)(c':Nat)(f:Flat)(hf:ID f)(z y:az)(hz:z.length<=2000)(hy:y.length<=2000)(hp:∀x∈f.ad,x.af.length<=2000):Bd bh bw 62 [jC a c a' c' f,sv z,sv y] s a c a' c' f (f.move z y):=by
 have pO:=hf.tl;have nB:=hf.nl;have zI:Vx f.ad:=⟨nB,λx hx=>(hf.nm x hx).1⟩;have M1:=s8 y;have jd:=s8 z;have kC:∀s,cD s a a' f->bF 52 [jC a c a' c' f,sv z] s (kb a a') (iv (H3 (f.dy z))):=λs hr=>lg s a c a' c' f hf _ hr
 have Pw:∀s,cD s a a' f->bF 52 [jC a c a' c' f,sv y] s (kb a a') (iv (H3 (f.dy y))):=λs hr=>lg s a c a' c' f hf _ hr
 have CE:∀s,bF 99 [sv y,sv z] s [] (.bool (under y z)):=λs=>zw s y z ag ag
 have Az:∀s,cD s a a' f->bF 96 [jC a c a' c' f,sv y] s (kb a a') (iv (f.bI y)):=λs hr=>BM s a c a' c' f hf y ag hr
 cases hk:f.dy z with
 |none=>
  have hm:f.move z y=(f,2):=by unfold Flat.move;rw[hk]
  rw[hk] at kC;have kC:∀s,cD s a a' f->bF 52 [jC a c a' c' f,sv z] s (kb a a') (iv (-1)):=kC;rw[hm];refine aT f62 ?_;dsimp only[cv,dK];refine' HI;all_goals refine' zag
 |some k=>
  rw[hk] at kC;have kC:∀s,cD s a a' f->bF 52 [jC a c a' c' f,sv z] s (kb a a') (iv (k:Int)):=kC;have hm:f.move z y=if z=[47] then(f,5) else if(f.dy y).isSome then(f,3) else if under y z then(f,5) else if 0<f.bI y then(f,f.bI y) else if(aR y).1≠(aR z).1/\12<=f.nE (aR y).1 then(f,6) else(⟨f.ad.foldl (λl x=>Flat.gm l ⟨Flat.eO z y x.af,x.id⟩) [],f.ae⟩,0):=by unfold Flat.move;rw[hk]
  rw[hm];by_cases h1:z=[47]
  .rw[if_pos h1];refine aT f62 ?_;dsimp only[cv,dK];refine' HI
   (all_goals try refine cj);all_goals exact⟨bG,_,_,bu,ar,_,_,_,_,rfl,rfl⟩
  rw[if_neg h1];cases hk3:f.dy y with
  |some k3=>
   rw[hk3] at Pw;have Pw:∀s,cD s a a' f->bF 52 [jC a c a' c' f,sv y] s (kb a a') (iv (k3:Int)):=Pw;rw[if_pos (show(some k3).isSome=true from rfl)];refine aT f62 ?_;dsimp only[cv,dK];(repeat' (first|refine' aW|refine' qG|refine' Mm|refine' av|fail));all_goals refine' zag
  |none=>
  rw[hk3] at Pw;have Pw:∀s,cD s a a' f->bF 52 [jC a c a' c' f,sv y] s (kb a a') (iv (-1)):=Pw;rw[if_neg (show ¬(none:Option Nat).isSome=true from iZ)];cases hu:under y z with
  |true=>
   rw[hu] at CE;rw[if_pos rfl];refine aT f62 ?_;dsimp only[cv,dK];(repeat' (first|refine' aW|refine' qG|refine' Mm|refine' zr|refine' av|fail));all_goals refine' zag
  |false=>
  rw[hu] at CE;rw[if_neg iZ];by_cases h4:0<f.bI y
  .rw[if_pos h4];refine aT f62 ?_;dsimp only[cv,dK];repeat' (first|refine' aW|refine' qG|refine' Mm|refine' zr|refine' XT|refine' av|fail)
   (all_goals try refine cj);all_goals exact⟨bG,_,_,bu,ar,_,_,_,_,rfl,rfl⟩
  rw[if_neg h4];by_cases h5:(aR y).1≠(aR z).1/\12<=f.nE (aR y).1
  .rw[if_pos h5];obtain⟨h5,h6⟩:=h5;refine aT f62 ?_;dsimp only[cv,dK];repeat' (first|refine' aW|refine' qG|refine' Mm|refine' zr|refine' XT|refine' xb|refine' xc|refine' av|fail)
   (all_goals try refine cj);all_goals exact⟨bG,_,_,bu,ar,_,_,_,_,rfl,rfl⟩
  .rw[if_neg h5];refine aT f62 ?_;dsimp only[cv,dK];repeat' (first|refine' aW|refine' qG|refine' Mm|refine' zr|refine' XT|refine' xb|refine' xc|refine' TI|refine' av|fail)
   all_goals first|(exfalso;omega;done)|(exfalso;exact h5 ⟨aL,ag⟩)|contradiction|skip
   .refine W.bN (λm l L=>∃(i b3 b6:Nat)(out:List a7)(bo:aM)(d:Nat),Le [(1,sv z),(2,sv y),(3,bg b3),(6,bg b6),(13,.slice a f.ad.length c),(14,iv (i:Int))] l/\cC [.box b3 (ie bo d out a' c' f.ae) 26 false,.box b6 (ie none 0 [] none 0 []) 26 false,cv a c f.ad,dK a' c' f.ae,cv bo d out] L/\m=f.ad.length-i/\i<=f.ad.length/\Vx out/\out.length=i/\f.ad.foldl (λl x=>Flat.gm l ⟨Flat.eO z y x.af,x.id⟩) []=(f.ad.drop i).foldl (λl x=>Flat.gm l ⟨Flat.eO z y x.af,x.id⟩) out)
     (λl L=>∃(b3 b6:Nat)(bo:aM)(d:Nat),Le [(3,bg b3),(6,bg b6)] l/\cC [.box b3 (ie bo d (f.ad.foldl (λl x=>Flat.gm l ⟨Flat.eO z y x.af,x.id⟩) []) a' c' f.ae) 26 false,.box b6 (ie none 0 [] none 0 []) 26 false,dK a' c' f.ae,cv bo d (f.ad.foldl (λl x=>Flat.gm l ⟨Flat.eO z y x.af,x.id⟩) [])] L) _ ⟨0,_,_,[],_,_,bj,ar,rfl,ag,⟨ay,λx hx=>by cases hx⟩,rfl,rfl⟩ ?_ ?_
    .rintro m l L ⟨i,b3,b6,out,bo,d,hl,hL,rfl,g1,g2,g3,g4⟩;refine W.le ?_ hl hL;clear hl hL;dsimp only[cv,dK];by_cases hi:i<f.ad.length
     .have Cy:=hp _ (aK hi ak.ah);rw[drop_cons hi,wH] at g4;have hA:(y++((f.ad.getD i ak.ah).af.drop z.length)).length<=5000:=by rw[bL,eW];omega
      (have hB:(f.ad.getD i ak.ah).af.length<=5000:=by omega);refine' zaj
      .have Vr:Flat.eO z y (f.ad.getD i ak.ah).af=y++((f.ad.getD i ak.ah).af.drop z.length):=by unfold Flat.eO;rw[if_pos e1]
       rw[Vr] at g4 uG Qc;have Vw:(f.ad.getD i ak.ah).af=z\/¬(f.ad.getD i ak.ah).af=z/\z.length<(f.ad.getD i ak.ah).af.length/\(f.ad.getD i ak.ah).af.take ((z.length:Int)+1).toNat=z++[47]:=by
        rw[show((z.length:Int)+1).toNat=z.length+1 by omega];by_cases h:(f.ad.getD i ak.ah).af=z
        .exact .inl h
        .exact .inr ⟨h,e1.resolve_left h⟩
       refine' zaR
       ·(refine' HJ)
        (all_goals try refine cj);all_goals refine' zaC
       ·(refine' HJ)
        (all_goals try refine cj);all_goals refine' zaC
      .have Vr:Flat.eO z y (f.ad.getD i ak.ah).af=(f.ad.getD i ak.ah).af:=by unfold Flat.eO;rw[if_neg e1]
       rw[Vr] at g4 uG Qc;(have e2:¬(f.ad.getD i ak.ah).af=z:=λh=>e1 (.inl h));refine' zao
     .have fF:i=f.ad.length:=by omega
      rw[fF,iI,List.foldl_nil] at g4;rw[g4];refine' cR;(all_goals try refine cj);all_goals exact⟨_,_,_,_,bj,ar⟩
    .rintro l L ⟨b3,b6,bo,d,hl,hL⟩;(repeat(first|(with_reducible first|refine aq ?_|refine dC ?_|refine ej ?_)))
     refine W.le ?_ hl hL;clear hl hL;dsimp only[cv,dK];refine' cR;all_goals exact⟨bG,_,_,bu,ar,_,_,_,_,rfl,rfl⟩
   .refine W.bN (λm l L=>∃(i b3 b6:Nat)(out:List a7)(bo:aM)(d:Nat),Le [(1,sv z),(2,sv y),(3,bg b3),(6,bg b6),(13,.slice a f.ad.length c),(14,iv (i:Int))] l/\cC [.box b3 (ie bo d out a' c' f.ae) 26 false,.box b6 (ie none 0 [] none 0 []) 26 false,cv a c f.ad,dK a' c' f.ae,cv bo d out] L/\m=f.ad.length-i/\i<=f.ad.length/\Vx out/\out.length=i/\f.ad.foldl (λl x=>Flat.gm l ⟨Flat.eO z y x.af,x.id⟩) []=(f.ad.drop i).foldl (λl x=>Flat.gm l ⟨Flat.eO z y x.af,x.id⟩) out)
     (λl L=>∃(b3 b6:Nat)(bo:aM)(d:Nat),Le [(3,bg b3),(6,bg b6)] l/\cC [.box b3 (ie bo d (f.ad.foldl (λl x=>Flat.gm l ⟨Flat.eO z y x.af,x.id⟩) []) a' c' f.ae) 26 false,.box b6 (ie none 0 [] none 0 []) 26 false,dK a' c' f.ae,cv bo d (f.ad.foldl (λl x=>Flat.gm l ⟨Flat.eO z y x.af,x.id⟩) [])] L) _ ⟨0,_,_,[],_,_,bj,ar,rfl,ag,⟨ay,λx hx=>by cases hx⟩,rfl,rfl⟩ ?_ ?_
    .rintro m l L ⟨i,b3,b6,out,bo,d,hl,hL,rfl,g1,g2,g3,g4⟩;refine W.le ?_ hl hL;clear hl hL;dsimp only[cv,dK];by_cases hi:i<f.ad.length
     .have Cy:=hp _ (aK hi ak.ah);rw[drop_cons hi,wH] at g4;have hA:(y++((f.ad.getD i ak.ah).af.drop z.length)).length<=5000:=by rw[bL,eW];omega
      (have hB:(f.ad.getD i ak.ah).af.length<=5000:=by omega);refine' zaj
      .have Vr:Flat.eO z y (f.ad.getD i ak.ah).af=y++((f.ad.getD i ak.ah).af.drop z.length):=by unfold Flat.eO;rw[if_pos e1]
       rw[Vr] at g4 uG Qc;have Vw:(f.ad.getD i ak.ah).af=z\/¬(f.ad.getD i ak.ah).af=z/\z.length<(f.ad.getD i ak.ah).af.length/\(f.ad.getD i ak.ah).af.take ((z.length:Int)+1).toNat=z++[47]:=by
        rw[show((z.length:Int)+1).toNat=z.length+1 by omega];by_cases h:(f.ad.getD i ak.ah).af=z
        .exact .inl h
        .exact .inr ⟨h,e1.resolve_left h⟩
       refine' zaR
       ·(refine' HJ)
        (all_goals try refine cj);all_goals refine' zaC
       ·(refine' HJ)
        (all_goals try refine cj);all_goals refine' zaC
      .have Vr:Flat.eO z y (f.ad.getD i ak.ah).af=(f.ad.getD i ak.ah).af:=by unfold Flat.eO;rw[if_neg e1]
       rw[Vr] at g4 uG Qc;(have e2:¬(f.ad.getD i ak.ah).af=z:=λh=>e1 (.inl h));refine' zao
     .have fF:i=f.ad.length:=by omega
      rw[fF,iI,List.foldl_nil] at g4;rw[g4];refine' cR;(all_goals try refine cj);all_goals exact⟨_,_,_,_,bj,ar⟩
    .rintro l L ⟨b3,b6,bo,d,hl,hL⟩;(repeat(first|(with_reducible first|refine aq ?_|refine dC ?_|refine ej ?_)))
     refine W.le ?_ hl hL;clear hl hL;dsimp only[cv,dK];refine' cR;all_goals exact⟨bG,_,_,bu,ar,_,_,_,_,rfl,rfl⟩
theorem ZU (s:St)(a:aM)(c:Nat)(a':aM)(c':Nat)(f:Flat)(hf:ID f)(o:Op)(hz:o.af.length<=2000)(hy:o.to.length<=2000)(nJ:0<=o.at_/\o.at_<=192)(yy:o.bq.length<=24)(hp:∀x∈f.ad,x.af.length<=2000)(hex:∀k,f.dy o.af=some k->(f.cO (f.ad.getD k ak.ah).id).isSome):Bd bh bw 27 [jC a c a' c' f,ov o] s a c a' c' f (f.fb o):=by
 obtain⟨kd,pa,to,at_,tx⟩:=o;dsimp only at hz hy nJ yy hex;unfold Flat.fb;dsimp only;by_cases h1:kd=1\/kd=2
 .rw[if_pos h1];have je:∀s,Bd bh bw 59 [jC a c a' c' f,sv pa,.bool (decide (kd=2))] s a c a' c' f (f.make pa (decide (kd=2))):=λs=>Qz s a c a' c' f hf pa ag _
  refine aT f27 ?_;dsimp only[cv,dK];refine' Mo;all_goals refine' zag
 rw[if_neg h1];by_cases h2:kd=5
 .rw[if_pos h2];have je:∀s,Bd bh bw 60 [jC a c a' c' f,sv pa] s a c a' c' f (f.eb pa):=λs=>QC s a c a' c' f hf pa ag hex
  refine aT f27 ?_;dsimp only[cv,dK];refine' Mo;all_goals refine' zag
 rw[if_neg h2];by_cases h3:kd=6
 .rw[if_pos h3];have je:∀s,Bd bh bw 61 [jC a c a' c' f,sv pa,sv to] s a c a' c' f (f.link pa to):=λs=>QA s a c a' c' f hf pa to ag ag
  refine aT f27 ?_;dsimp only[cv,dK];refine' Mo;all_goals refine' zag
 rw[if_neg h3];by_cases h4:kd=7
 .rw[if_pos h4];have je:∀s,Bd bh bw 62 [jC a c a' c' f,sv pa,sv to] s a c a' c' f (f.move pa to):=λs=>QD s a c a' c' f hf pa to ag ag hp
  refine aT f27 ?_;dsimp only[cv,dK];refine' Mo;all_goals refine' zag
 rw[if_neg h4];have je:∀s,Bd bh bw 63 [jC a c a' c' f,.agg ⟨[iv kd,sv pa,sv to,iv at_,sv tx]⟩] s a c a' c' f (f.change ⟨kd,pa,to,at_,tx⟩):=λs=>Ku s a c a' c' f hf kd pa to at_ tx ag nJ yy hex
 refine aT f27 ?_;dsimp only[cv,dK];refine' Mo;all_goals refine' zag
variable {q:fg}{s:St}
structure iX (s:St)(b:Nat)(a:aM)(c:Nat)(p:List a7)(a':aM)(c':Nat)(q:fg):Prop where
 b:bH s (jz b) 1 2 (ie a c p a' c' q)
 n:bH s a p.length 2 (ai p)
 t:bH s a' q.length 3 (ai q)
structure vk (Γ:qV)(L:bZ)(b:Nat)(a:aM)(c:Nat)(p:List a7)(a':aM)(c':Nat)(q:fg):Prop where
 b:jB Γ L (jz b) 1 2 (ie a c p a' c' q)
 n:jB Γ L a p.length 2 (ai p)
 t:jB Γ L a' q.length 3 (ai q)
abbrev rb (b:Nat)(a a':aM):List Nat:=b::(aj a++aj a')
section
variable {b:Nat}{p:List a7}
theorem vk.row (h:vk Γ L b a c p a' c' q)(hi:Inv Γ s L):iX s b a c p a' c' q/\∀i∈rb b a a',FT Γ s i:=by
 refine⟨⟨(h.b.row hi).1,(h.n.row hi).1,(h.t.row hi).1⟩,λi hb=>?_⟩;rcases bT.1 hb with rfl|hb
 .exact(h.b.row hi).2 _ (by simp[aj])
 .rcases eZ.1 hb with hb|hb
  .exact(h.n.row hi).2 i hb
  .exact(h.t.row hi).2 i hb
theorem WO.rW (hx:kA l xs vs)(h:∀s,iX s b a c p a' c' q->nQ E X g vs s (rb b a a') r)(hh:vk Γ L b a c p a' c' q)(k:∀m m',jX L m->m<=m'->K r L m m' (FtR (rb b a a') [] m m') (FtW [] m m')):WC E X Γ l g xs ts L K:=
 WO.qE hx (λs hi=>⟨(hh.row hi).2,h s (hh.row hi).1⟩) k
theorem H2.x (h:iX s b a c p a' c' q):Rd ⟨s,([]:bZ).flatMap It.a8,rb b a a'⟩ (jz b) 1 2 (ie a c p a' c' q):=Rd.of h.b λi hb=>by rw[show i=b by simpa[aj] using hb];exact gh
theorem H2.n (h:iX s b a c p a' c' q):Rd ⟨s,([]:bZ).flatMap It.a8,rb b a a'⟩ a p.length 2 (ai p):=Rd.of h.n λ_ hb=>jA _ (cT _ hb)
theorem H2.t (h:iX s b a c p a' c' q):Rd ⟨s,([]:bZ).flatMap It.a8,rb b a a'⟩ a' q.length 3 (ai q):=Rd.of h.t λ_ hb=>jA _ (dE _ hb)
end
def thV (a:aM):Option Nat->Value
 |none=>.pointer none
 |some i=>dr a i 3 0
theorem fX (s:St)(b:Nat)(a:aM)(c:Nat)(p:List a7)(a':aM)(c':Nat)(q:fg)(hs:gU q)(hq:q.length<=1000)(k:Int)(hr:iX s b a c p a' c' q):bF 30 [bg b,iv k] s (rb b a a') (thV a' (ot q k)):=by
 have Oz:=H2.x hr;have ru:=H2.t hr;rw[ae9 hs k ak.ah];by_cases hk:Cl q k<q.length/\(q.getD (Cl q k) ak.ah).id=k
 .rw[if_pos hk];have hd:(!(decide (Cl q k<q.length/\(q.getD (Cl q k) ak.ah).id=k)))=false:=by rw[bY hk];rfl
  have v8:=hk.1;refine aT f30 ?_;repeat' (first|refine' aW|refine' ahO|refine' av|fail)
  all_goals refine' zaE
  all_goals rfl
 .rw[if_neg hk];have hd:(!(decide (Cl q k<q.length/\(q.getD (Cl q k) ak.ah).id=k)))=true:=by rw[eI hk];rfl
  refine aT f30 ?_;repeat' (first|refine' aW|refine' ahO|refine' av|fail)
  all_goals refine' zaE
  all_goals rfl
def ldI (p:List a7)(z:az):Int:=match rZ p z with
 |none=>-1
 |some i=>(p.getD i ak.ah).id
theorem RP (s:St)(b:Nat)(a:aM)(c:Nat)(p:List a7)(a':aM)(c':Nat)(q:fg)(hs:kM p)(hq:p.length<=1000)(z:az)(hr:iX s b a c p a' c' q):bF 21 [bg b,sv z] s (rb b a a') (iv (ldI p z)):=by
 have Oz:=H2.x hr;have ru:=H2.n hr;unfold ldI;rw[afa hs z ak.ah];by_cases hk:Cm p z<p.length/\(p.getD (Cm p z) ak.ah).af=z
 .rw[if_pos hk];have hd:(!(decide (Cm p z<p.length/\(p.getD (Cm p z) ak.ah).af=z)))=false:=by rw[bY hk];rfl
  have v8:=hk.1;refine aT f21 ?_;repeat' (first|refine' aW|refine' ahP|refine' av|fail)
  all_goals refine' zaE
  all_goals rfl
 .rw[if_neg hk];have hd:(!(decide (Cm p z<p.length/\(p.getD (Cm p z) ak.ah).af=z)))=true:=by rw[eI hk];rfl
  refine aT f21 ?_;repeat' (first|refine' aW|refine' ahP|refine' av|fail)
  all_goals refine' zaE
  all_goals rfl
theorem lU {q:fg}{k:Int}{t:Nat}(h:ot q k=some t):t<q.length:=(oO.1 h).1
theorem Ug (s:St)(b:Nat)(a:aM)(c:Nat)(p:List a7)(a':aM)(c':Nat)(q:fg)(hs:gU q)(hq:q.length<=1000)(k:Int)(t:Nat)(ht:ot q k=some t)(hr:iX s b a c p a' c' q):bF 287 [bg b,iv k] s (rb b a a') (.bool (q.getD t ak.ah).aJ):=by
 have Oz:=H2.x hr;have pk:=H2.n hr;have ru:=H2.t hr;have kC:∀s,iX s b a c p a' c' q->bF 30 [bg b,iv k] s (rb b a a') (dr a' t 3 0):=λs hr=>by
  have:=fX s b a c p a' c' q hs hq k hr;rw[ht] at this;exact this
 have pO:=lU ht;refine aT f287 ?_;repeat' (first|refine' aW|refine' TC|refine' aaX|refine' av|fail)
 all_goals refine' ax
 all_goals rfl
theorem MT (s:St)(b:Nat)(a:aM)(c:Nat)(p:List a7)(a':aM)(c':Nat)(q:fg)(hp:p.length<=1000)(k:Int)(hr:iX s b a c p a' c' q):bF 90 [bg b,iv k] s (rb b a a') (iv ((p.countP λx=>decide (x.id=k):Nat):Int)):=by
 have Oz:=H2.x hr;have pk:=H2.n hr;refine aT f90 ?_;refine' cR
 refine W.bN (λm l L=>∃(i n:Nat),Le [(1,iv k),(5,iv (n:Int)),(11,.slice a p.length c),(12,iv (p.length:Int)),(13,iv (i:Int))] l/\cC [] L/\m=p.length-i/\i<=p.length/\n<=i/\(p.countP λx=>decide (x.id=k))=n+(p.drop i).countP λx=>decide (x.id=k))
  (λl L=>Le [(5,iv ((p.countP λx=>decide (x.id=k):Nat):Int))] l/\cC [] L) _ ⟨0,0,bj,ar,rfl,ag,ag,ay⟩ ?_ ?_
 .rintro m l L ⟨i,n,hl,hL,rfl,h1,h2,h3⟩;refine W.le ?_ hl hL;clear hl hL;by_cases hi:i<p.length
  .rw[drop_cons hi,iH] at h3;refine' cR
   all_goals try refine cj
   .refine⟨_,ag,i+1,n+1,bj,ar,rfl,ag,ag,?_⟩;rw[h3,if_pos (by rw[bQ];assumption)];omega
   .refine⟨_,ag,i+1,n,bj,ar,rfl,ag,ag,?_⟩;rw[h3,if_neg (by rw[bQ];assumption)];omega
  .have fF:i=p.length:=by omega
   subst fF;rw[iI,KU,xq] at h3;rw[h3];refine' cR;(all_goals try refine cj);all_goals exact⟨bj,ar⟩
 .rintro l L ⟨hl,hL⟩;refine aq ?_;refine W.le ?_ hl hL;clear hl hL;refine' cR
  all_goals refine' ax
  all_goals rfl
def inB (p:List a7)(k:Int)(x:a7):Bool:=decide ((aw x.af).2≠[])&&decide (ldI p (aw x.af).1=k)
def enI (p:List a7)(k:Int):Nat:=p.countP (inB p k)
theorem PZ (s:St)(b:Nat)(a:aM)(c:Nat)(p:List a7)(a':aM)(c':Nat)(q:fg)(hs:kM p)(hp:p.length<=1000)(rS:∀x∈p,x.af.length<=5000)(k:Int)(hr:iX s b a c p a' c' q):bF 286 [bg b,iv k] s (rb b a a') (iv (enI p k:Int)):=by
 have Oz:=H2.x hr;have pk:=H2.n hr;have ru:=H2.t hr;have D0:∀s z,iX s b a c p a' c' q->bF 21 [bg b,sv z] s (rb b a a') (iv (ldI p z)):=λs z hr=>RP s b a c p a' c' q hs hp z hr
 refine aT f286 ?_;refine' cR
 refine W.bN (λm l L=>∃(i n:Nat),Le [(0,bg b),(1,iv k),(5,iv (n:Int)),(13,.slice a p.length c),(14,iv (p.length:Int)),(15,iv (i:Int))] l/\cC [] L/\m=p.length-i/\i<=p.length/\n<=i/\enI p k=n+(p.drop i).countP (inB p k))
  (λl L=>Le [(5,iv (enI p k:Int))] l/\cC [] L) _ ⟨0,0,bj,ar,rfl,ag,ag,by simp[enI]⟩ ?_ ?_
 .rintro m l L ⟨i,n,hl,hL,rfl,h1,h2,h3⟩;refine W.le ?_ hl hL;clear hl hL;by_cases hi:i<p.length
  .have an9:=rS _ (aK hi ak.ah);rw[drop_cons hi,iH] at h3;unfold inB at h3;repeat' (first|refine' aW|refine' ahS|refine' q9|refine' av|fail)
   all_goals try refine cj
   all_goals first
    |(refine⟨_,ag,i+1,n+1,bj,ar,rfl,ag,ag,?_⟩;rw[h3,if_pos (by rw[bO,bQ,bQ];exact⟨aL,aL⟩)];unfold inB;omega)
    |(refine⟨_,ag,i+1,n,bj,ar,rfl,ag,ag,?_⟩;rw[h3,if_neg (by rw[bO,bQ,bQ];exact λh=>by simp_all)];unfold inB;omega)
  .have fF:i=p.length:=by omega
   subst fF;rw[iI,KU,xq] at h3;rw[h3];refine' cR;(all_goals try refine cj);all_goals exact⟨bj,ar⟩
 .rintro l L ⟨hl,hL⟩;refine aq ?_;refine W.le ?_ hl hL;clear hl hL;refine' cR
  all_goals refine' ax
  all_goals rfl
def JU (q:fg):Nat->Nat->Int
 |0,_=>-1
 |n+1,k=>if(ot q (k:Int)).isNone then(k:Int) else JU q n (k+1)
theorem Uh (q:fg)(n k:Nat):JU q (n+1) k=if(ot q (k:Int)).isNone then(k:Int) else JU q n (k+1):=rfl
theorem abC (s:St)(b:Nat)(a:aM)(c:Nat)(p:List a7)(a':aM)(c':Nat)(q:fg)(hs:gU q)(hq:q.length<=1000)(hr:iX s b a c p a' c' q):bF 86 [bg b] s (rb b a a') (iv (JU q 16 0)):=by
 have Oz:=H2.x hr;have pk:=H2.n hr;have ru:=H2.t hr;refine aT f86 ?_;refine' cR
 refine W.bN (λm l L=>∃(i:Nat),Le [(0,bg b),(4,iv (i:Int))] l/\cC [] L/\m=16-i/\i<=16/\JU q 16 0=JU q (16-i) i)
  (λl L=>Le [] l/\cC [] L/\JU q 16 0= -1) _ ⟨0,bj,ar,rfl,ag,rfl⟩ ?_ ?_
 .rintro m l L ⟨i,hl,hL,rfl,h1,h3⟩;refine W.le ?_ hl hL;clear hl hL;by_cases hi:i<16
  .rw[show 16-i=(16-(i+1))+1 by omega,Uh q (16-(i+1)) i] at h3;cases ht:ot q (i:Int) with
   |none=>
    have kC:∀s,iX s b a c p a' c' q->bF 30 [bg b,iv (i:Int)] s (rb b a a') (.pointer none):=λs hr=>by
     have:=fX s b a c p a' c' q hs hq (i:Int) hr;rw[ht] at this;exact this
    rw[ht,if_pos (show(none:Option Nat).isNone=true from rfl)] at h3;(repeat' (first|refine' aW|refine' TC|refine' ahT|refine' av|fail));(all_goals try refine cj);(all_goals refine' ax);all_goals(rw[h3];rfl)
   |some t=>
    have kC:∀s,iX s b a c p a' c' q->bF 30 [bg b,iv (i:Int)] s (rb b a a') (dr a' t 3 0):=λs hr=>by
     have:=fX s b a c p a' c' q hs hq (i:Int) hr;rw[ht] at this;exact this
    have pO:=lU ht;rw[ht,if_neg (show ¬(some t).isNone=true from iZ)] at h3;(repeat' (first|refine' aW|refine' TC|refine' ahU|refine' av|fail));(all_goals try refine cj);all_goals exact⟨_,ag,i+1,bj,ar,rfl,ag,h3⟩
  .have fF:i=16:=by omega
   subst fF;refine' cR;(all_goals try refine cj);all_goals exact⟨bj,ar,h3⟩
 .rintro l L ⟨hl,hL,h3⟩;refine aq ?_;refine W.le ?_ hl hL;clear hl hL;rw[h3];refine' cR
  all_goals refine' ax
  all_goals rfl
def zL (c:UInt8):Bool:=decide (c.toNat<97)||decide (122<c.toNat)
theorem P0 (s:St)(c:UInt8):bF 69 [.int .i32 (c.toNat:Int)] s [] (.bool (zL c)):=by
 refine aT f69 ?_;refine' cR;all_goals refine' ax
 .show Value.bool (decide ((122:Int)<c.toNat))=_;refine ep Value.bool ?_;unfold zL;rw[eI (by omega:¬c.toNat<97),Bool.false_or,C5];omega
 .show Value.bool true=_;refine ep Value.bool ?_;unfold zL;rw[bY (by omega:c.toNat<97)];rfl
theorem JV (s:St)(z:az)(hz:z.length<=100000)(ha:∀c∈z,c.toNat<128):bF 103 [sv z,.func (.func 69) ⟨[]⟩ ⟨[]⟩,.bool true] s [] (iv (oI (z.findIdx? zL))):=by
 refine aT f103 ?_;(repeat' (first|refine' aW|((with_reducible apply WO.afd);exact gT;intro br _)|refine' av|fail))
 refine W.bN (λm l L=>∃(p b:Nat),Le [(0,sv z),(1,.func (.func 69) ⟨[]⟩ ⟨[]⟩),(2,.bool true),(10,bg b)] l/\cC [.lz b (.lQ z p)] L/\m=z.length-p/\p<=z.length/\∀j:Nat,j<p->zL (z.getD j 0)≠true)
  (λl L=>Le [] l/\cC [] L/\z.findIdx? zL=none) _ ⟨0,_,bj,ar,rfl,ag,λj h1=>by omega⟩ ?_ ?_
 .rintro m l L ⟨p,b,hl,hL,rfl,h2,h3⟩;refine W.le ?_ hl hL;clear hl hL;by_cases hp:p<z.length
  .have anD:(z.getD p 0).toNat<128:=ha _ (aK hp _);(repeat' (first|refine' aW|((with_reducible apply WO.afe);exact gT;exact xS;assumption;assumption;intro _)|refine' uA|((with_reducible apply WO.aV);exact aC;exact λs=>P0 s _;intros)|refine' av|fail))
   all_goals try refine cj
   .have e:z.findIdx? zL=some p:=lL hp j8 h3;refine' ax
    rw[e];rfl
   .refine⟨_,ag,p+1,b,bj,ar,rfl,ag,λj hj=>?_⟩;by_cases hjp:j=p
    .subst hjp;intro he;rw[he] at hc;cases hc
    .exact h3 j ag
  .have pY:z.length<=p:=by omega
   (have e:z.findIdx? zL=none:=wa 0 λj hj=>h3 j ag);(repeat' (first|refine' aW|((with_reducible apply WO.aff);exact gT;exact oh;assumption;intro _)|refine' av|fail));(all_goals try refine cj);all_goals exact⟨bj,ar,e⟩
 .rintro l L ⟨hl,hL,h3⟩;refine aq ?_;refine W.le ?_ hl hL;clear hl hL;rw[h3];refine' cR
  all_goals refine' ax
  all_goals rfl
theorem JW (s:St)(z:az)(hz:z.length<=100000)(ha:∀c∈z,c.toNat<128):bF 68 [sv z,.func (.func 69) ⟨[]⟩ ⟨[]⟩] s [] (iv (oI (z.findIdx? zL))):=by
 refine aT f68 ?_;(repeat' (first|refine' aW|((with_reducible apply WO.aV);exact aC;exact λs=>JV s _ ag aL;intros)|refine' av|fail));all_goals refine' ax
 all_goals rfl
theorem Eh (s:St)(z:az)(hz:z.length<=100000)(ha:∀c∈z,c.toNat<128):bF 32 [sv z] s [] (.bool (aU z)):=by
 have hb:(oI (z.findIdx? zL)<0)↔z.all (λc=>decide (97<=c.toNat)&&decide (c.toNat<=122))=true:=by
  rw[gA];cases h:z.findIdx? zL with
  |none=>
   rw[Bl] at h;refine⟨λ_ c hc=>?_,λ_=>by decide⟩;have:=h c hc;unfold zL at this;simp at this⊢;omega
  |some i=>
   obtain⟨h1,h2,_⟩:=oO.1 h;refine⟨λhi=>absurd hi (by show ¬(i:Int)<0;omega),λbV=>?_⟩;have:=bV _ (rj h1);unfold zL at h2;simp at this h2;omega
 refine aT f32 ?_;(repeat' (first|refine' aW|refine' TE|((with_reducible apply WO.aV);exact aC;exact λs=>JW s _ ag aL;intros)|refine' av|fail));all_goals try refine cj
 all_goals refine' ax
 .show Value.bool (decide (oI (z.findIdx? zL)<0))=_;refine ep Value.bool ?_;unfold aU;rw[bY (by omega:1<=z.length),bY (by omega:z.length<=4),KS,KS,po,bQ];exact hb
 .show Value.bool false=_;refine ep Value.bool ?_;unfold aU;rw[Bool.and_assoc,show(decide (1<=z.length)&&decide (z.length<=4))=false by simp at ur⊢;omega,Bool.and_false]
end Go.Pl
namespace Go.Pl
open Go.Lg
open Go Go.Ev Go.Lg Go.Proofs
structure NZ (f:Flat):Prop where
 nl:f.ad.length<=900
 tl:f.ae.length<=900
 nm:∀x∈f.ad,vD x.af/\0<=x.id/\x.id<=16
 th:∀x∈f.ae,0<=x.id/\x.id<=16/\x.bq.length<=192
theorem gf.e {f:Flat}(h:gf f):NZ f:=⟨by have:=h.nl;omega,by have:=h.tl;omega,h.nm,h.th⟩
theorem afS (f:Flat):RL f=(fV f.ae.length 1 16&&decide (f.ad.length≠0)&&decide (f.ad.getD 0 cy=⟨[47],0⟩)&&(List.range f.ae.length).all (tB f.ae)&&decide ((f.ae.getD 0 eS).id=0)&&(f.ae.getD 0 eS).aJ&&match Yn f.ad f.ae f.ad.length 0 ⟨[],[],[]⟩ with
 |none=>false
 |some A=>decide (A.li.length=f.ae.length)):=rfl
theorem s9 (p:List a7)(i:Nat)(z:az):0<=(cN p i z:Int)/\(cN p i z:Int)<=i:=by unfold cN;have:=GF (p:=λj=>decide (1<=j)&&decide ((aw (p.getD j cy).af).1=z)) (l:=List.range i);rw[KX] at this;omega
theorem ta (p:List a7)(i:Nat)(n:Int):0<=(cL p i n:Int)/\(cL p i n:Int)<=i:=by unfold cL;have:=GF (p:=λj=>decide ((p.getD j cy).id=n)) (l:=List.range i);rw[KX] at this;omega
theorem gd (z:az):(aw z).1.length<=z.length/\(aw z).2.length<=z.length:=by
 unfold aw;split
 .simp
 .rw[cW,eW];omega
def pe:Code->Option Code
 |.loop b=>some b
 |.seq x y=>match pe y with
  |some z=>some z
  |none=>pe x
 |.block _ b=>pe b
 |.cond _ x y=>match pe y with
  |some z=>some z
  |none=>pe x
 |_=>none
def uD (g:Func):Code:=match g.body with
 |some c=>(pe c).getD .skip
 |none=>.skip
theorem W.uD {E:ig}{X:fR}{Γ:qV}{l:Kn}{L:bZ}{Q:Ex->Kn->bZ->Prop}{g:Func}{b c:Code}(h0:g.body=some b)(h:pe b=some c)(hw:W E X Γ c l L Q):W E X Γ (uD g) l L Q:=by
 have:Pl.uD g=c:=by unfold Pl.uD;rw[h0];show(pe b).getD .skip=c;rw[h];rfl
 rw[this];exact hw
structure UY (s:St)(a a':aM)(f:Flat)(i:Nat)(A:Acc):Prop where
 hf:NZ f
 hr:cD s a a' f
 hs:gU f.ae
 hi:i<f.ad.length
 g2:zH f.ad f.ae i A
abbrev Am (f:Flat)(i:Nat)(A:Acc):Int:=((dz (eB A.li (f.ad.getD i ak.ah).id ((dz A.li (f.ad.getD i ak.ah).id).getD 0+1)) (f.ad.getD i ak.ah).id).getD 0)
abbrev ZG (f:Flat)(i:Nat)(A:Acc):Int:=((dz (eB A.nF (aw (f.ad.getD i ak.ah).af).1 ((dz A.nF (aw (f.ad.getD i ak.ah).af).1).getD 0+1)) (aw (f.ad.getD i ak.ah).af).1).getD 0)
abbrev Kq (a:aM)(c:Nat)(f:Flat)(b1 b5 b6 b7 i:Nat):Kn:=[(1,bg b1),(5,.map (some b5)),(6,.map (some b6)),(7,.map (some b7)),(94,.slice a f.ad.length c),(95,iv (f.ad.length:Int)),(96,iv (i:Int))]
abbrev Kr (a:aM)(c:Nat)(a':aM)(c':Nat)(f:Flat)(b1 b5 b6 b7:Nat)(A:Acc):bZ:=[.box b1 (ie a c f.ad a' c' f.ae) 26 false,.lz b5 (mII A.li),.lz b6 (mSI A.nF),.lz b7 (mSB A.fo)]
abbrev Qu (s:St)(a:aM)(c:Nat)(a':aM)(c':Nat)(f:Flat)(b1 b5 b6 b7 i:Nat)(A:Acc)(Q:Ex->Kn->bZ->Prop):Prop:=W bh bw ⟨s,([]:bZ).flatMap It.a8,kb a a'⟩ (uD f11) (Kq a c f b1 b5 b6 b7 i) (Kr a c a' c' f b1 b5 b6 b7 A) Q
abbrev Ks (s:St)(a:aM)(c:Nat)(a':aM)(c':Nat)(f:Flat)(b1 b5 b6 b7 i:Nat)(A:Acc):Prop:=∀Q:Ex->Kn->bZ->Prop,(∀l L,lk l 2=some (.bool false)->Q .ret l L)->Qu s a c a' c' f b1 b5 b6 b7 i A Q
abbrev Sg (s:St)(a:aM)(c:Nat)(a':aM)(c':Nat)(f:Flat)(b1 b5 b6 b7 i:Nat)(A B:Acc):Prop:=∀Q:Ex->Kn->bZ->Prop,(∀l L,Le (Kq a c f b1 b5 b6 b7 (i+1)) l->cC (Kr a c a' c' f b1 b5 b6 b7 B) L->Q .normal l L)->Qu s a c a' c' f b1 b5 b6 b7 i A Q
end Go.Pl
namespace Go.Pl
open Go Go.Ev Go.Lg Go.Proofs
variable {t:Nat}
theorem ifA {s a c a' c' f i A}(h:UY s a a' f i A)(b1 b5 b6 b7)(ht:ot f.ae (f.ad.getD i ak.ah).id=none):Ks s a c a' c' f b1 b5 b6 b7 i A:=by
 refine' zac;have Cq:=s9 f.ad i (aw (f.ad.getD i ak.ah).af).1;have Cr:=ta f.ad i (f.ad.getD i ak.ah).id;rw[<-g2.nF] at Cq;rw[<-g2.li] at Cr;have Sh:((i:Int)-1).toNat=i-1:=by omega
 have kC:∀s b,iX s b a c f.ad a' c' f.ae->bF 30 [bg b,iv (f.ad.getD i ak.ah).id] s (rb b a a') (.pointer none):=λs b hr=>by
  have:=fX s b a c f.ad a' c' f.ae hs ag (f.ad.getD i ak.ah).id hr;rw[ht] at this;exact this
 clear hr hf hs g2;refine' sM;all_goals try refine Ov
 all_goals exact hQ _ _ rfl
theorem amt {s a c a' c' f i A}(h:UY s a a' f i A)(b1 b5 b6 b7)(ht:ot f.ae (f.ad.getD i ak.ah).id=some t)(h0:¬0<i)(c4:9<Am f i A):Ks s a c a' c' f b1 b5 b6 b7 i A:=by
 obtain⟨hf,hr,hs,hi,g2⟩:=h;intro Q hQ;unfold Qu Kq Kr;unfold Am at c4;refine W.uD rfl rfl ?_;have pk:=gb.n hr;have ru:=gb.t hr;have pO:=hf.tl;have nB:=hf.nl;have hx:=(hf.nm _ (aK hi ak.ah)).1;have Cy:=hx.1;have lV:=gd (f.ad.getD i ak.ah).af;have Qj:∀ch∈(aw (f.ad.getD i ak.ah).af).2,ch.toNat<128:=λch dS=>hx.2.1 ch (ga _ ch dS)
 refine' zaa;refine' zap;all_goals exact hQ _ _ rfl
end Go.Pl
