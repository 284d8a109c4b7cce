/- Lemmas of the proof. No conditions. -/
import Derived.Test.YtoiielhpadnflaaGreatDoorAd4
set_option maxRecDepth 100000
set_option maxHeartbeats 4000000
set_option linter.unusedVariables false
set_option linter.unusedSimpArgs false
open Go.Proofs.Tryz
namespace Go.Pl
open Go Go.Ev Go.Lg Go.Proofs
variable {i:Nat}{z:aC}{E:iq}{X:fY}{Γ:qN}{L L' R:dy}{K:KO}{x y:Operand}{c e b:Nat}{w:aC}{enc:aq UInt8 1}{cs:aY}{xs:List Operand}{ts:Array TypeId}{vs:aY}{A:List Nat}{st:ar}{n:Nat}{p:List bE}{m:Int}{q:c9}{v:SA}{Lm:dy}{level:Int}{s:St}{bd dm:List Int}
theorem M0 (s:St)(v:SA)(st:ar)(h:dv 50000 st)(n:iE)(hn:j6 n)(a:Nat)(z:aC)(ha:a+z.length<=192)(hf:(bD st n).length<=192):
  eO bf bw 161 [fI v st,nv n,iv a,sv z] s [] v st (fF st n a z).1 true (ER (fF st n a z).2.1 (fF st n a z).2.2):=by
 have h1:dv 100000 st:=h.mono af;have hov:(jE (bD st n) a z).length<=192/\a+z.length<=(jE (bD st n) a z).length:=by
  unfold jE mI;simp only[bn,cO,eP,sX];omega
 refine aX f161 ?_;dsimp only[eK];by_cases hz:z=[]
 .subst hz;have hw:fF st n a []=(st,n,true):=rfl;rw[hw];refine' cM
  refine' dV
  .rfl
  .intro hc;cases hc
 .have hw:fF st n a z=gC st n (jE (bD st n) a z) (a/ 12) ((a+z.length-1)/ 12):=by unfold fF;rw[if_neg hz]
  rw[hw];have hzl:0<z.length:=nO.2 hz;have hmt:((min ((bD st n++mI ((a:Int)-((bD st n).length:Int))).length:Int) ((a:Int)+(z.length:Int))).toNat)=min (bD st n++mI ((a:Int)-((bD st n).length:Int))).length (a+z.length):=by omega
  have hpc:=λ(dH:SA) s=>H4 s dH st h n hn (jE (bD st n) a z) af (a/ 12) ((a+z.length-1)/ 12) af af af
  have W9:((a:Int)).tdiv 12=((a/ 12:Nat):Int):=by rw[Vt af];omega
  have hq2:((a:Int)+(z.length:Int)-1).tdiv 12=(((a+z.length-1)/ 12:Nat):Int):=by rw[Vt af];omega
  refine' zbj
  have TV:∀(dH:SA) s,eO bf bw 208 [fI dH st,nv n,sv (List.take a (bD st n++mI ((a:Int)-((bD st n).length:Int)))++z++List.drop (min ((bD st n++mI ((a:Int)-((bD st n).length:Int))).length:Int) ((a:Int)+(z.length:Int))).toNat (bD st n++mI ((a:Int)-((bD st n).length:Int)))),iv (((a:Int)).tdiv 12),iv (((a:Int)+(z.length:Int)-1).tdiv 12)] s [] dH st (gC st n (jE (bD st n) a z) (a/ 12) ((a+z.length-1)/ 12)).1 true (ER (gC st n (jE (bD st n) a z) (a/ 12) ((a+z.length-1)/ 12)).2.1 (gC st n (jE (bD st n) a z) (a/ 12) ((a+z.length-1)/ 12)).2.2):=λdH s=>by
   rw[W9,hq2,hmt];exact hpc dH s
  (repeat' (first|refine' aZ|refine' zt|refine' Em|((with_reducible apply WO.nE);exact aD;exact λs=>TV _ s;exact dU;intro _ _ Uf _ _ Ug)|refine' av|fail));all_goals try refine cI
  refine' dV
  .rfl
  .intro hc;cases hc
theorem Uh (s:St)(v:SA)(st:ar)(h:dv 40000 st)(n:iE)(hn:j6 n)(a:Nat)(ha:a<=192)(hs:n.size<=192)(hf:((bD st n).length:Int)=n.size)(hm:n.a6.many=dn n.size 12):
  eO bf bw 162 [fI v st,nv n,iv a] s [] v st (fq st n a).1 true (ER (fq st n a).2.1 (fq st n a).2.2):=by
 have h1:dv 100000 st:=h.mono af;have h8:dv 80000 st:=h.mono af;have F1:=hn.tr;have iX:=hn.sz;have hpa:dn a 12=((a+11)/ 12:Nat):=by unfold dn;omega
 refine' zbj;have hKv:12*((a+11)/ 12)<=a+11/\a+11<12*((a+11)/ 12)+12:=by omega
 generalize(a+11)/ 12=K at hpa hKv;have hpi:∀s,bL 209 [iv a,iv 12] s [] (iv K):=λs=>by have:=zv s a 12 af af;rwa [hpa] at this
 by_cases YI:n.size<=a
 .by_cases hme:(K:Int)=n.a6.many
  .have hw:fq st n a=(st,{n with size:=(a:Int)},true):=by
    unfold fq;simp only[hpa];rw[if_pos YI,if_pos hme]
   rw[hw];refine aX f162 ?_;dsimp only[eK];(repeat' (first|refine' aZ|refine' zt|refine' Em|refine' Mu|refine' av|fail));(all_goals try refine cI);refine' dV
   .rfl
   .intro hc;cases hc
  .have hK1:1<=K:=by unfold dn at hm;omega
   (have hKe:((K:Int)-1)=((K-1:Nat):Int):=by omega);rcases uJ:nK st n.a6 (K-1) [] with⟨eI,t2,ok⟩
   have hw:fq st n a=(eI,{n with size:=(a:Int),a6:=t2},ok):=by
    unfold fq;simp only[hpa];rw[if_pos YI,if_neg hme,hKe,uM];simp only[uJ]
   rw[hw];have TV:∀(dH:SA) s,eO bf bw 144 [fI dH st,tv n.a6,iv ((K:Int)-1),sv []] s [] dH st eI ok (Ch t2 ok):=λdH s=>by
    have:=sI s dH st h8 n.a6 F1 (K-1) af [] ay;rw[uJ] at this;rw[hKe];exact this
   refine aX f162 ?_;dsimp only[eK];(repeat' (first|refine' aZ|refine' zt|refine' Em|refine' Mu|refine' Es|refine' av|fail));(all_goals try refine cI);refine' dV
   .rfl
   .intro hc;cases hc
 .rcases TO:tE st n.a6 K with⟨eI,t2,ok⟩
  have bU:=zE (many:=(K:Int)) h F1 af;rw[TO] at bU;have Vc:∀(dH:SA) s,eO bf bw 205 [fI dH st,tv n.a6,iv K] s [] dH st eI ok (Ch t2 ok):=λdH s=>by
   have:=Et s dH st h8 n.a6 F1 (K:Int) af;rw[TO] at this;exact this
  cases ok with
  |false=>
   have hw:fq st n a=(eI,n,false):=by
    unfold fq;simp only[hpa];rw[if_neg YI];simp only[TO]
   rw[hw];have KB:=bU.2.2 rfl;refine aX f162 ?_;dsimp only[eK];(repeat' (first|refine' aZ|refine' zt|refine' Em|refine' Mu|refine' X5|refine' av|fail));(all_goals try refine cI);refine' dV
   .rw[show fI Mv eI=fI Mv st from KB.fI _];rw[X6 rfl];rfl
   .intro hc;cases hc
  |true=>
   by_cases hK0:K=0
   .have hw:fq st n a=(eI,{n with size:=(a:Int),a6:=t2},true):=by
     unfold fq;simp only[hpa];rw[if_neg YI];simp only[TO];rw[if_pos af]
    rw[hw];refine aX f162 ?_;dsimp only[eK];(repeat' (first|refine' aZ|refine' zt|refine' Em|refine' Mu|refine' X5|refine' av|fail));(all_goals try refine cI);refine' dV
    .rfl
    .intro hc;cases hc
   .have hw:fq st n a=gC eI {n with size:=(a:Int),a6:=t2} ((bD st n).take a) (K-1) (K-1):=by
     unfold fq;simp only[hpa];rw[if_neg YI];simp only[TO];rw[if_neg af,show((K:Int)-1).toNat=K-1 by omega]
    rw[hw];have hnn:j6 {n with size:=(a:Int),a6:=t2}:=⟨bU.2.1,⟨KE _,by show(a:Int)<=10000;omega⟩⟩;have dz:((bD st n).take a).length=a:=by rw[cO];omega
    have hpp:∀(dH:SA) s,eO bf bw 208 [fI dH eI,nv {n with size:=(a:Int),a6:=t2},sv ((bD st n).take a),iv ((K:Int)-1),iv ((K:Int)-1)] s [] dH eI (gC eI {n with size:=(a:Int),a6:=t2} ((bD st n).take a) (K-1) (K-1)).1 true (ER (gC eI {n with size:=(a:Int),a6:=t2} ((bD st n).take a) (K-1) (K-1)).2.1 (gC eI {n with size:=(a:Int),a6:=t2} ((bD st n).take a) (K-1) (K-1)).2.2):=λdH s=>by
     have:=H4 s dH eI (bU.1.mono af) _ hnn ((bD st n).take a) af (K-1) (K-1) af af af;rw[show((K:Int)-1)=((K-1:Nat):Int) by omega];exact this
    refine aX f162 ?_;dsimp only[eK];(repeat' (first|refine' aZ|refine' zt|refine' Em|refine' Mu|refine' X5|((with_reducible apply WO.nE);exact aD;exact λs=>hpp _ s;exact dU;intro _ _ Uf _ _ Ug)|refine' av|fail));(all_goals try refine cI);refine' dV
    .rfl
    .intro hc;cases hc
variable {l:Kn}{t t2:TypeId}
section
variable {n:Int}
theorem Ui {n:Int}(h:0<=n/\n<=1000000):IntKind.wrap .u64 n=n:=by refine' zaP
theorem WO.adC [h1:xG E t .i64][h2:xG E t2 .u64](hx:Ev l x (iv n))(hn:0<=n/\n<=1000000)(h:∀i,K (.int .u64 n) L i i Z Z):WO E X Γ l (.convert t t2 x) L K:=WO.conv (h1:=h1) (h2:=h2) (k:=.i64) hx (Ui hn) h
theorem WO.adD [h1:xG E t .u64][h2:xG E t2 .i64](hx:Ev l x (.int .u64 n))(hn:0<=n/\n<=1000000)(h:∀i,K (iv n) L i i Z Z):WO E X Γ l (.convert t t2 x) L K:=WO.conv (h1:=h1) (h2:=h2) (k:=.u64) hx (qA ⟨af,af⟩) h
theorem WO.aiQ {m:Nat}(hx:Ev l x (.int .u64 n))(hy:Ev l y (.int .u64 1))(hq:n/ 2=(m:Int))(hn:0<=n)(h:∀i,K (.int .u64 (m:Int)) L i i Z Z):WO E X Γ l (.binOp .shr t x y t2) L K:=WO.bin hx hy (λcc=>by
 obtain⟨k,rfl⟩:=yC hn;show some (Value.int .u64 (.ofNat (Nat.shiftRight k (C0 1 (GF .u64)))))=_;have:Nat.shiftRight k (C0 1 (GF .u64))=m:=by
  show k>>> 1=m;rw[Nat.shiftRight_eq_div_pow];omega
 rw[this];rfl) h
end
theorem YJ (s:St)(n:Int):bL 92 [iv n] s [] (.bool false):=by
 refine aX f92 ?_;refine' cM;all_goals refine' ax
 all_goals(first|rfl|simp[gK])
theorem Uj (s:St)(a b:Int):bL 54 [iv a,iv b] s [] (iv (Lq a b)):=by
 refine aX f54 ?_;(repeat' (first|refine' aZ|((with_reducible apply WO.aW);exact aD;exact λs=>YJ s _;intros)|refine' av|fail));all_goals try refine cI
 all_goals refine' ax
 all_goals(simp only[gK];unfold Lq)
 all_goals first|rfl|(rw[if_pos aP])|(rw[if_neg af,if_pos af])|(rw[if_neg af,if_neg af])
theorem H6 (s:St)(x:bS)(k:Int):bL 53 [.agg ⟨aq.cells x⟩,iv k] s [] (iv (Lq x.id k)):=by
 refine aX f53 ?_;(repeat' (first|refine' aZ|((with_reducible apply WO.aW);exact aD;exact λs=>Uj s _ _;intros)|refine' av|fail));all_goals refine' ax
 all_goals rfl
theorem Uk (s:St)(a b:aC):bL 185 [sv a,sv b] s [] (iv (Ev.Ay a b)):=λh1 h2 h3=>nT.Wy (fn:=f185) cj (s':=s) (v:=iv (Ev.Ay a b)) (λk=>rfl) ⟨[],⟨λ_ _ _=>rfl,cC _,λx hx=>(by cases hx),λx hx=>(by cases hx),wS,λb hb=>.inl hb,λb hb=>.inl hb,λb hb=>.inl hb,λb hb=>.inl hb⟩,rfl,rfl⟩
theorem PL (s:St)(a b:aC):bL 129 [sv a,sv b] s [] (iv (Ev.Ay a b)):=by
 refine aX f129 ?_;(repeat' (first|refine' aZ|((with_reducible apply WO.aW);exact aD;exact λs=>Uk s _ _;intros)|refine' av|fail));all_goals refine' ax
 all_goals rfl
theorem M1 (s:St)(x:bE)(z:aC):bL 128 [.agg ⟨aq.cells x⟩,sv z] s [] (iv (Ev.Ay x.ag z)):=by
 refine aX f128 ?_;(repeat' (first|refine' aZ|((with_reducible apply WO.aW);exact aD;exact λs=>PL s _ _;intros)|refine' av|fail));all_goals refine' ax
 all_goals rfl
theorem aeX (s:St)(a:aS)(c:Nat)(q:gD)(hs:ik q)(hq:q.length<=1000)(k:Int)(hr:bM s a q.length 3 (ai q)):bL 52 [.slice a q.length c,iv k,.func (.func 53) ⟨[]⟩ ⟨[]⟩] s (aj a) (.tuple ⟨[iv (B6 q k:Int),.bool (decide (B6 q k<q.length/\(q.getD (B6 q k) aq.ah).id=k))]⟩):=by
 have sj:=Rd.of (A:=aj a) hr λ_ hb=>hb
 have hle:=aeg q k;refine aX f52 ?_;refine' cM
 refine W.bK (λm l L=>∃(i j:Nat),Le [(0,.slice a q.length c),(1,iv k),(2,.func (.func 53) ⟨[]⟩ ⟨[]⟩),(8,iv (q.length:Int)),(9,iv (i:Int)),(10,iv (j:Int))] l/\cx [] L/\m=j-i/\i<=B6 q k/\B6 q k<=j/\j<=q.length)
  (λl L=>Le [(0,.slice a q.length c),(1,iv k),(2,.func (.func 53) ⟨[]⟩ ⟨[]⟩),(8,iv (q.length:Int)),(9,iv (B6 q k:Int))] l/\cx [] L) _ ⟨0,q.length,bp,au,rfl,af,hle,cC _⟩ ?_ ?_
 .rintro m l L ⟨i,j,hl,hL,rfl,h1,h2,h3⟩;refine W.le ?_ hl hL;clear hl hL;by_cases nI:i<j
  .obtain⟨h,hq2,h4,h5⟩:∃h:Nat,((i:Int)+(j:Int))/ 2=(h:Int)/\i<=h/\h<j:=⟨(i+j)/ 2,af,af,af⟩;have CJ:=Cx hs k aq.ah (h:=h) af;have vM:=aaG (a:=(q.getD h aq.ah).id) (b:=k);(repeat' (first|refine' aZ|refine' uD|((with_reducible apply WO.aW);exact aD;exact λs=>H6 s _ _;intros)|((with_reducible apply WO.adC);exact fS;exact lT;intro _)|((with_reducible apply WO.adD);exact fS;exact lT;intro _)|((with_reducible apply WO.aiQ);exact fS;exact fS;assumption;exact lT;intro _)|refine' av|fail))
   all_goals try refine cI
   .exact⟨_,af,h+1,j,bp,au,rfl,af,af,af⟩
   .exact⟨_,af,i,h,bp,au,rfl,af,af,af⟩
  .have hi:i=B6 q k:=by omega
   subst hi;refine' cM;(all_goals try refine cI);all_goals exact⟨bp,au⟩
 .rintro l L ⟨hl,hL⟩;refine ak ?_;refine W.le ?_ hl hL;clear hl hL;have vM:=aaH (a:=(q.getD (B6 q k) aq.ah).id) (b:=k);(repeat' (first|refine' aZ|refine' uD|((with_reducible apply WO.aW);exact aD;exact λs=>H6 s _ _;intros)|refine' av|fail))
  ·(refine' ax)
   (have h1:B6 q k<q.length:=by omega);show Value.tuple ⟨[iv (B6 q k:Int),.bool (decide (Lq (q.getD (B6 q k) aq.ah).id k=0))]⟩=_;refine eC (λb=>Value.tuple ⟨[_,.bool b]⟩) ?_;rw[CW];exact⟨λh=>⟨h1,vM.1 h⟩,λh=>vM.2 h.2⟩
  ·(refine' ax)
   (have h1:¬B6 q k<q.length:=by omega);exact eC (λb=>Value.tuple ⟨[_,.bool b]⟩) (ec (λh=>h1 h.1)).symm
theorem aeY (s:St)(a:aS)(c:Nat)(q:List bE)(hs:l5 q)(hq:q.length<=1000)(k:aC)(hr:bM s a q.length 2 (ai q)):bL 127 [.slice a q.length c,sv k,.func (.func 128) ⟨[]⟩ ⟨[]⟩] s (aj a) (.tuple ⟨[iv (B7 q k:Int),.bool (decide (B7 q k<q.length/\(q.getD (B7 q k) aq.ah).ag=k))]⟩):=by
 have sj:=Rd.of (A:=aj a) hr λ_ hb=>hb
 have hle:=aeh q k;refine aX f127 ?_;refine' cM
 refine W.bK (λm l L=>∃(i j:Nat),Le [(0,.slice a q.length c),(1,sv k),(2,.func (.func 128) ⟨[]⟩ ⟨[]⟩),(8,iv (q.length:Int)),(9,iv (i:Int)),(10,iv (j:Int))] l/\cx [] L/\m=j-i/\i<=B7 q k/\B7 q k<=j/\j<=q.length)
  (λl L=>Le [(0,.slice a q.length c),(1,sv k),(2,.func (.func 128) ⟨[]⟩ ⟨[]⟩),(8,iv (q.length:Int)),(9,iv (B7 q k:Int))] l/\cx [] L) _ ⟨0,q.length,bp,au,rfl,af,hle,cC _⟩ ?_ ?_
 .rintro m l L ⟨i,j,hl,hL,rfl,h1,h2,h3⟩;refine W.le ?_ hl hL;clear hl hL;by_cases nI:i<j
  .obtain⟨h,hq2,h4,h5⟩:∃h:Nat,((i:Int)+(j:Int))/ 2=(h:Int)/\i<=h/\h<j:=⟨(i+j)/ 2,af,af,af⟩;have CJ:=(aaI (a:=(q.getD h aq.ah).ag) (b:=k)).trans (Cy hs k aq.ah (h:=h) af);(repeat' (first|refine' aZ|refine' uD|((with_reducible apply WO.aW);exact aD;exact λs=>M1 s _ _;intros)|((with_reducible apply WO.adC);exact fS;exact lT;intro _)|((with_reducible apply WO.adD);exact fS;exact lT;intro _)|((with_reducible apply WO.aiQ);exact fS;exact fS;assumption;exact lT;intro _)|refine' av|fail))
   all_goals try refine cI
   .exact⟨_,af,h+1,j,bp,au,rfl,af,af,af⟩
   .exact⟨_,af,i,h,bp,au,rfl,af,af,af⟩
  .have hi:i=B7 q k:=by omega
   subst hi;refine' cM;(all_goals try refine cI);all_goals exact⟨bp,au⟩
 .rintro l L ⟨hl,hL⟩;refine ak ?_;refine W.le ?_ hl hL;clear hl hL;have vM:=aaJ (a:=(q.getD (B7 q k) aq.ah).ag) (b:=k);(repeat' (first|refine' aZ|refine' uD|((with_reducible apply WO.aW);exact aD;exact λs=>M1 s _ _;intros)|refine' av|fail))
  ·(refine' ax)
   (have h1:B7 q k<q.length:=by omega);show Value.tuple ⟨[iv (B7 q k:Int),.bool (decide (Ev.Ay (q.getD (B7 q k) aq.ah).ag k=0))]⟩=_;refine eC (λb=>Value.tuple ⟨[_,.bool b]⟩) ?_;rw[CW];exact⟨λh=>⟨h1,vM.1 h⟩,λh=>vM.2 h.2⟩
  ·(refine' ax)
   (have h1:¬B7 q k<q.length:=by omega);exact eC (λb=>Value.tuple ⟨[_,.bool b]⟩) (ec (λh=>h1 h.1)).symm
theorem HB (s:St)(a b c:Int):bL 21 [iv a,iv b,iv c] s [] (.bool (fM a b c)):=by
 refine aX f21 ?_;refine' cM;all_goals refine' ax
 .show Value.bool (decide (a<=c))= .bool (fM a b c);unfold fM;simp[uw]
 .show Value.bool false= .bool (fM a b c);unfold fM;simp;omega
def oI:Option Nat->Int
 |none=>-1
 |some k=>(k:Int)
def dM:aC->Option Nat
 |[]=>none
 |c::s=>match dM s with
  |some i=>some (i+1)
  |none=>if c=47 then some 0 else none
theorem vz:∀z:aC,(∀j,j<z.length->z.getD j 0≠47)->dM z=none
 |[],_=>rfl
 |c::z,h=>by
  unfold dM;rw[vz z λj hj=>by have:=h (j+1) (by simpa using hj);simpa using this];have:=h 0 ay;exact if_neg (by simpa using this)
theorem BR:∀(z:aC)(i:Nat),i<z.length->z.getD i 0=47->(∀j,i<j->j<z.length->z.getD j 0≠47)->dM z=some i
 |[],i,h,_,_=>by simp at h
 |c::z,0,_,h1,h2=>by
  unfold dM;rw[vz z λj hj=>by have:=h2 (j+1) af (by simpa using hj);simpa using this];exact if_pos (by simpa using h1)
 |c::z,i+1,h,h1,h2=>by
  unfold dM;rw[BR z i (by simpa using h) (by simpa using h1) λj hj SV=>by have:=h2 (j+1) af (by simpa using SV);simpa using this]
theorem pZ:∀(z:aC)(i:Nat),dM z=some i->i<z.length
 |[],i,h=>by cases h
 |c::z,i,h=>by
  unfold dM at h;split at h
  .rename_i j hj;have:=pZ z j hj;cases h
   simpa using this
  .split at h
   .cases h;simp
   .cases h
theorem M3 (s:St)(z:aC)(hz:z.length<=100000):bL 93 [sv z,.int .u8 47] s [] (iv (oI (dM z))):=by
 refine aX f93 ?_;refine' cM
 refine W.bK (λm l L=>∃(i:Int),Le [(0,sv z),(1,.int .u8 47),(5,iv i)] l/\cx [] L/\m=(i+1).toNat/\ -1<=i/\i<z.length/\∀j:Nat,i<j->j<z.length->z.getD j 0≠47)
  (λl L=>Le [] l/\cx [] L/\dM z=none) _ ⟨(z.length:Int)-1,bp,au,rfl,af,af,λj h1 h2=>by omega⟩ ?_ ?_
 .rintro m l L ⟨i,hl,hL,rfl,h1,h2,h3⟩;refine W.le ?_ hl hL;clear hl hL;refine' cM
  .have e:dM z=some i.toNat:=BR z i.toNat af (sW.1 (by show _=47;omega)) λj hj SV=>h3 j af SV
   refine' ax;show iv i=_;rw[e];show iv i=iv ((i.toNat:Nat):Int);rw[Bg af]
  .refine⟨_,af,i-1,bp,au,rfl,af,af,λj hj SV=>?_⟩;by_cases sT:(j:Int)=i
   .have:i.toNat=j:=by omega
    rw[this] at j5;intro he;rw[he] at j5;exact j5 rfl
   .exact h3 j af SV
  .exact⟨bp,au,vz z λj hj=>h3 j af hj⟩
 .rintro l L ⟨hl,hL,h3⟩;refine ak ?_;refine W.le ?_ hl hL;clear hl hL;rw[h3];refine' cM
  all_goals refine' ax
  all_goals rfl
theorem PM (s:St)(z:aC)(hz:z.length<=100000):bL 55 [sv z,.int .u8 47] s [] (iv (oI (dM z))):=by
 refine aX f55 ?_;(repeat' (first|refine' aZ|((with_reducible apply WO.aW);exact aD;exact λs=>M3 s _ af;intros)|refine' av|fail));all_goals refine' ax
 all_goals rfl
def aw (z:aC):aC×aC:=match dM z with
 |none=>([],[])
 |some i=>(z.take (max i 1),z.drop (i+1))
theorem XP (s:St)(z:aC)(hz:z.length<=100000):bL 23 [sv z] s [] (.tuple ⟨[sv (aw z).1,sv (aw z).2]⟩):=by
 have F7:∀s,bL 55 [sv z,.int .u8 47] s [] (iv (oI (dM z))):=λs=>PM s z hz
 unfold aw;cases h:dM z with
 |none=>
  rw[h] at F7;have F7:∀s,bL 55 [sv z,.int .u8 47] s [] (iv (-1)):=F7;refine aX f23 ?_;(repeat' (first|refine' aZ|((with_reducible apply WO.aW);exact aD;exact λs=>F7 s;intros)|refine' av|fail));all_goals try refine cI
  all_goals refine' ax
  all_goals rfl
 |some i=>
  rw[h] at F7;have F7:∀s,bL 55 [sv z,.int .u8 47] s [] (iv (i:Int)):=F7;have dz:=pZ z i h;refine aX f23 ?_;(repeat' (first|refine' aZ|((with_reducible apply WO.aW);exact aD;exact λs=>F7 s;intros)|refine' av|fail));all_goals try refine cI
  all_goals refine' ax
  all_goals(show Value.tuple ⟨[sv (z.take (max (i:Int) 1).toNat),sv (z.drop ((i:Int)+1).toNat)]⟩=_;rw[show(max (i:Int) 1).toNat=max i 1 by omega,show((i:Int)+1).toNat=i+1 by omega])
end Go.Pl
namespace Go.Pl
open Go.Lg
abbrev cR:bE:=aq.ah (α:=bE)
abbrev fO:bS:=aq.ah (α:=bS)
structure Acc where
 li:List (Int×Int)
 nJ:List (aC×Int)
 fo:List (aC×Bool)
def tB (q:gD)(i:Nat):Bool:=fM (q.getD i fO).id 0 15&&!(decide (0<i)&&decide ((q.getD i fO).id<=(q.getD (i-1) fO).id))&&!((q.getD i fO).aN&&decide ((q.getD i fO).a8≠[]))&&!decide (192<(q.getD i fO).a8.length)
def vA (x:bE)(fo:Bool)(A:Acc):Option Acc:=
 if 9<(dr (er A.li x.id ((dr A.li x.id).getD 0+1)) x.id).getD 0\/(fo=true/\1<(dr (er A.li x.id ((dr A.li x.id).getD 0+1)) x.id).getD 0) then none else some ⟨er A.li x.id ((dr A.li x.id).getD 0+1),A.nJ,er A.fo x.ag fo⟩
def iIn (x:bE)(A:Acc):Option Acc:=
 if(dr A.fo (aw x.ag).1).getD false=false\/aV (aw x.ag).2=false then none else
 if 12<(dr (er A.nJ (aw x.ag).1 ((dr A.nJ (aw x.ag).1).getD 0+1)) (aw x.ag).1).getD 0 then none else some ⟨A.li,er A.nJ (aw x.ag).1 ((dr A.nJ (aw x.ag).1).getD 0+1),A.fo⟩
def il (p:List bE)(q:gD)(i:Nat)(A:Acc):Option Acc:=match pc q (p.getD i cR).id with
 |none=>none
 |some t=>
  if 0<i/\bO (p.getD (i-1) cR).ag (p.getD i cR).ag=false then none else
  match if 0<i then iIn (p.getD i cR) A else some A with
  |none=>none
  |some A=>vA (p.getD i cR) (q.getD t fO).aN A
def YK (p:List bE)(q:gD):Nat->Nat->Acc->Option Acc
 |0,_,A=>some A
 |n+1,i,A=>match il p q i A with
  |none=>none
  |some A=>YK p q n (i+1) A
def Ul (f:Flat):Bool:=fM f.ae.length 1 16&&decide (f.ad.length≠0)&&decide (f.ad.getD 0 cR=⟨[47],0⟩)&&(List.range f.ae.length).all (tB f.ae)&&decide ((f.ae.getD 0 fO).id=0)&&(f.ae.getD 0 fO).aN&&match YK f.ad f.ae f.ad.length 0 ⟨[],[],[]⟩ with
 |none=>false
 |some A=>decide (A.li.length=f.ae.length)
theorem wm {q:gD}(h:∀i,i<q.length->tB q i=true):ik q:=by
 have h1:∀i,i+1<q.length->(q.getD i fO).id<(q.getD (i+1) fO).id:=λi hi=>by
  have:=h (i+1) hi;unfold tB at this;simp at this;have:=this.1.1.2;simp;omega
 have h2:∀n i,i+n+1<q.length->(q.getD i fO).id<(q.getD (i+n+1) fO).id:=λn=>by
  induction n with
  |zero=>exact h1
  |succ n ih=>exact λi hi=>Int.lt_trans (ih i af) (h1 (i+n+1) hi)
 refine uk.2 λi j hi hj nI=>?_
 have:=h2 (j-i-1) i af;rw[show i+(j-i-1)+1=j by omega,a7,bc hi,a7,bc hj] at this;exact this
theorem fW (z:aC):∀c∈(aw z).2,c∈z:=λc hc=>by
 unfold aw at hc;split at hc
 .cases hc
 .exact List.mem_of_mem_drop hc
variable {κ ν:Type}
section
variable [DecidableEq κ]
theorem zF:∀(m:List (κ×ν))(k:κ),(dr m k).isSome=true↔k∈m.map Prod.fst
 |[],k=>by simp[dr]
 |p::m,k=>by
  unfold dr;rw[xg,bH];by_cases h:k=p.1
  .rw[if_pos h];simp[h]
  .rw[if_neg h,zF m k];simp[h]
theorem H7:∀(m:List (κ×ν))(k:κ)(v:ν),(er m k v).map Prod.fst=if(dr m k).isSome then m.map Prod.fst else m.map Prod.fst++[k]
 |[],k,v=>rfl
 |p::m,k,v=>by
  unfold er dr;by_cases h:k=p.1
  .rw[if_pos h,if_pos h];simp[h]
  .rw[if_neg h,if_neg h,xg,H7 m k v];split<;>simp
theorem PN (m:List (κ×ν))(k:κ)(v:ν)(h:(m.map Prod.fst).Nodup):((er m k v).map Prod.fst).Nodup:=by
 rw[H7];split
 .exact h
 .rename_i hk;rw[uP];refine⟨h,ay,λa ha b hb e=>?_⟩;rw[fJ] at hb;subst hb;subst e;exact hk ((zF m a).2 ha)
end
def vB (p:List bE)(q:gD)(k:Nat):Bool:=match pc q (p.getD k cR).id with
 |none=>false
 |some t=>(q.getD t fO).aN
def cN (p:List bE)(i:Nat)(z:aC):Nat:=(List.range i).countP λj=>decide (1<=j)&&decide ((aw (p.getD j cR).ag).1=z)
def cL (p:List bE)(i:Nat)(n:Int):Nat:=(List.range i).countP λj=>decide ((p.getD j cR).id=n)
theorem tW (p:List bE)(i:Nat)(n:Int):cL p (i+1) n=cL p i n+if(p.getD i cR).id=n then 1 else 0:=by unfold cL;rw[Bj,Bk,List.countP_singleton];simp
theorem zG (p:List bE)(i:Nat)(z:aC):cN p (i+1) z=cN p i z+if 1<=i/\(aw (p.getD i cR).ag).1=z then 1 else 0:=by unfold cN;rw[Bj,Bk,List.countP_singleton];simp
def YL (p:List bE)(q:gD)(i:Nat):Prop:=
 (pc q (p.getD i cR).id).isSome=true/\(1<=i->bO (p.getD (i-1) cR).ag (p.getD i cR).ag=true/\(∃k,k<i/\(p.getD k cR).ag=(aw (p.getD i cR).ag).1/\vB p q k=true)/\aV (aw (p.getD i cR).ag).2=true/\cN p (i+1) (aw (p.getD i cR).ag).1<=12)/\cL p (i+1) (p.getD i cR).id<=9/\(vB p q i=true->cL p (i+1) (p.getD i cR).id<=1)
structure zH (p:List bE)(q:gD)(i:Nat)(A:Acc):Prop where
 li:∀n,(dr A.li n).getD 0=(cL p i n:Int)
 lk:∀n,n∈A.li.map Prod.fst↔∃j,j<i/\(p.getD j cR).id=n
 ln:(A.li.map Prod.fst).Nodup
 nJ:∀z,(dr A.nJ z).getD 0=(cN p i z:Int)
 fo:∀z,(dr A.fo z).getD false=true↔∃k,k<i/\(p.getD k cR).ag=z/\vB p q k=true
 so:∀j,1<=j->j<i->bO (p.getD (j-1) cR).ag (p.getD j cR).ag=true
theorem YM {p:List bE}{i:Nat}(h:∀j,1<=j->j<i->bO (p.getD (j-1) cR).ag (p.getD j cR).ag=true):∀(n a:Nat),a+n+1<i->bO (p.getD a cR).ag (p.getD (a+n+1) cR).ag=true
 |0,a,hl=>h (a+1) af hl
 |n+1,a,hl=>eT _ _ _ (YM h n a af) (h (a+n+2) af hl)
theorem adE {p:List bE}{i:Nat}(h:∀j,1<=j->j<i->bO (p.getD (j-1) cR).ag (p.getD j cR).ag=true){a b:Nat}(lS:a<b)(hb:b<i):(p.getD a cR).ag≠(p.getD b cR).ag:=by have:=YM h (b-a-1) a af;rw[show a+(b-a-1)+1=b by omega] at this;exact nk this
theorem PO {p:List bE}{q:gD}{i:Nat}{A:Acc}{t:Nat}(ht:pc q (p.getD i cR).id=some t)(N4:∀n,(dr A.li n).getD 0=(cL p i n:Int)):
  vA (p.getD i cR) (q.getD t fO).aN A=if cL p (i+1) (p.getD i cR).id<=9/\(vB p q i=true->cL p (i+1) (p.getD i cR).id<=1) then some ⟨er A.li (p.getD i cR).id (cL p (i+1) (p.getD i cR).id:Int),A.nJ,er A.fo (p.getD i cR).ag (vB p q i)⟩ else none:=by
 have hfb:vB p q i=(q.getD t fO).aN:=by unfold vB;rw[ht]
 have hc:(dr A.li (p.getD i cR).id).getD 0+1=(cL p (i+1) (p.getD i cR).id:Int):=by rw[N4,tW,if_pos rfl];omega
 unfold vA;rw[hc,oq,if_pos rfl,<-hfb];show(if 9<(cL p (i+1) (p.getD i cR).id:Int)\/_ then _ else _)=_;by_cases h:cL p (i+1) (p.getD i cR).id<=9/\(vB p q i=true->cL p (i+1) (p.getD i cR).id<=1)
 .rw[if_pos h,if_neg];rintro(h1|⟨h1,h2⟩)
  .have:=h.1;omega
  .have h2:(1:Int)<(cL p (i+1) (p.getD i cR).id:Int):=h2;have:=h.2 h1;omega
 .rw[if_neg h,if_pos];refine nP λhn=>h ⟨?_,λhf=>?_⟩
  .refine nP λh9=>hn (.inl af)
  .refine nP λh9=>hn (.inr ⟨hf,?_⟩)
   show(1:Int)<(cL p (i+1) (p.getD i cR).id:Int);omega
theorem H8 {p:List bE}{q:gD}{i:Nat}{A:Acc}{nJ:List (aC×Int)}(h:zH p q i A)(alN:∀z,(dr nJ z).getD 0=(cN p (i+1) z:Int))(Xo:1<=i->bO (p.getD (i-1) cR).ag (p.getD i cR).ag=true):
  zH p q (i+1) ⟨er A.li (p.getD i cR).id (cL p (i+1) (p.getD i cR).id:Int),nJ,er A.fo (p.getD i cR).ag (vB p q i)⟩:=by
 have aiR:∀j,1<=j->j<i+1->bO (p.getD (j-1) cR).ag (p.getD j cR).ag=true:=λj h1 h2=>by
  by_cases hj:j=i
  .subst hj;exact Xo h1
  .exact h.so j h1 af
 refine⟨λn=>?_,λn=>?_,PN _ _ _ h.ln,alN,λz=>?_,aiR⟩
 .show(dr (er A.li _ _) n).getD 0=_;rw[oq];by_cases hn:n=(p.getD i cR).id
  .rw[if_pos hn,hn];rfl
  .rw[if_neg hn,h.li,tW,if_neg (λe=>hn e.symm)];rfl
 .show n∈(er A.li _ _).map Prod.fst↔_;rw[<-zF,oq];by_cases hn:n=(p.getD i cR).id
  .rw[if_pos hn];exact⟨λ_=>⟨i,af,hn.symm⟩,λ_=>rfl⟩
  .rw[if_neg hn,zF,h.lk];constructor
   .rintro⟨j,h1,h2⟩;exact⟨j,af,h2⟩
   .rintro⟨j,h1,h2⟩;by_cases hj:j=i
    .subst hj;exact absurd h2.symm hn
    .exact⟨j,af,h2⟩
 .show(dr (er A.fo _ _) z).getD false=true↔_;rw[oq];by_cases hz:z=(p.getD i cR).ag
  .rw[if_pos hz];constructor
   .intro hf;exact⟨i,af,hz.symm,hf⟩
   .rintro⟨k,h1,h2,h3⟩;by_cases hk:k=i
    .subst hk;exact h3
    .exact absurd (h2.trans hz) (adE aiR (show k<i by omega) af)
  .rw[if_neg hz,h.fo];constructor
   .rintro⟨k,h1,h2⟩;exact⟨k,af,h2⟩
   .rintro⟨k,h1,h2,h3⟩;by_cases hk:k=i
    .subst hk;exact absurd h2.symm hz
    .exact⟨k,af,h2,h3⟩
theorem M4 {p:List bE}{q:gD}{i:Nat}{A:Acc}(h:zH p q i A):
  (YL p q i->∃A',il p q i A=some A'/\zH p q (i+1) A')/\(¬YL p q i->il p q i A=none):=by
 unfold il;cases ht:pc q (p.getD i cR).id with
 |none=>exact⟨λhc=>(by have:=hc.1;rw[ht] at this;cases this),λ_=>rfl⟩
 |some t=>
  dsimp only;have LX:=λ(nJ:List (aC×Int))=>PO (A:=⟨A.li,nJ,A.fo⟩) ht h.li
  by_cases hi:0<i
  .by_cases dz:bO (p.getD (i-1) cR).ag (p.getD i cR).ag=true
   .rw[if_neg (λe=>by rw[dz] at e;cases e.2),if_pos hi];unfold iIn;have hc:(dr A.nJ (aw (p.getD i cR).ag).1).getD 0+1=(cN p (i+1) (aw (p.getD i cR).ag).1:Int):=by rw[h.nJ,zG,if_pos ⟨hi,rfl⟩];omega
    rw[hc];by_cases h1:(dr A.fo (aw (p.getD i cR).ag).1).getD false=false\/aV (aw (p.getD i cR).ag).2=false
    .rw[if_pos h1];refine⟨λhn=>?_,λ_=>rfl⟩;obtain⟨_,hk,pR,_⟩:=hn.2.1 hi;rcases h1 with h1|h1
     .rw[(h.fo _).2 hk] at h1;cases h1
     .rw[pR] at h1;cases h1
    .rw[if_neg h1,oq,if_pos rfl];have hk:=(h.fo (aw (p.getD i cR).ag).1).1 (by cases hb:(dr A.fo (aw (p.getD i cR).ag).1).getD false with|true=>rfl|false=>exact absurd (.inl hb) h1);have pR:aV (aw (p.getD i cR).ag).2=true:=by cases hb:aV (aw (p.getD i cR).ag).2 with|true=>rfl|false=>exact absurd (.inr hb) h1
     simp only[qd];by_cases Ar:cN p (i+1) (aw (p.getD i cR).ag).1<=12
     .rw[if_neg af];dsimp only;rw[LX];by_cases hl:cL p (i+1) (p.getD i cR).id<=9/\(vB p q i=true->cL p (i+1) (p.getD i cR).id<=1)
      .rw[if_pos hl];refine⟨λ_=>⟨_,rfl,H8 (A:=A) h (λz=>?_) λ_=>dz⟩,λhn=>absurd ⟨by rw[ht];rfl,λ_=>⟨dz,hk,pR,Ar⟩,hl⟩ hn⟩;rw[oq];by_cases hz:z=(aw (p.getD i cR).ag).1
       .rw[if_pos hz,hz];rfl
       .rw[if_neg hz,h.nJ,zG,if_neg (λe=>hz e.2.symm)];rfl
      .rw[if_neg hl];exact⟨λhn=>absurd hn.2.2 hl,λ_=>rfl⟩
     .rw[if_pos af];exact⟨λhn=>absurd (hn.2.1 hi).2.2.2 Ar,λ_=>rfl⟩
   .rw[if_pos ⟨hi,by simpa using dz⟩];exact⟨λhn=>absurd (hn.2.1 hi).1 dz,λ_=>rfl⟩
  .rw[if_neg (λe=>hi e.1),if_neg hi];dsimp only;rw[LX];by_cases hl:cL p (i+1) (p.getD i cR).id<=9/\(vB p q i=true->cL p (i+1) (p.getD i cR).id<=1)
   .rw[if_pos hl];refine⟨λ_=>⟨_,rfl,H8 h (λz=>?_) λe=>absurd e hi⟩,λhn=>absurd ⟨by rw[ht];rfl,λe=>absurd e hi,hl⟩ hn⟩;rw[h.nJ,zG,if_neg (λe=>hi e.1)];rfl
   .rw[if_neg hl];exact⟨λhn=>absurd hn.2.2 hl,λ_=>rfl⟩
theorem YN {p:List bE}{q:gD}:∀(n i:Nat)(A:Acc),zH p q i A->
  ((∀j,i<=j->j<i+n->YL p q j)->∃A',YK p q n i A=some A'/\zH p q (i+n) A')/\((∃j,i<=j/\j<i+n/\¬YL p q j)->YK p q n i A=none)
 |0,i,A,h=>⟨λ_=>⟨A,rfl,h⟩,λ⟨j,h1,h2,_⟩=>by omega⟩
 |n+1,i,A,h=>by
  have hs:=M4 h;unfold YK;by_cases hc:YL p q i
  .obtain⟨A',h1,h2⟩:=hs.1 hc;rw[h1];have ih:=YN n (i+1) A' h2;refine⟨λbU=>?_,λ⟨j,h3,h4,h5⟩=>ih.2 ⟨j,?_,af,h5⟩⟩
   .obtain⟨A'',h3,h4⟩:=ih.1 λj h3 h4=>bU j af af
    exact⟨A'',h3,by rw[show i+(n+1)=i+1+n by omega];exact h4⟩
   .by_cases hj:j=i
    .subst hj;exact absurd hc h5
    .omega
  .rw[hs.2 hc];exact⟨λbU=>absurd (bU i (cC _) af) hc,λ_=>rfl⟩
theorem YO (p:List bE)(q:gD):zH p q 0 ⟨[],[],[]⟩:=
 ⟨λn=>rfl,λn=>⟨λh=>(by cases h),λ⟨j,h,_⟩=>af⟩,wS,λz=>rfl,λz=>⟨λh=>(by cases h),λ⟨j,h,_⟩=>af⟩,λj h1 h2=>by omega⟩
variable {s:aC}{j i B t:Nat}{n:Int}{q:gD}{f:Flat}
def uy (z:aC):Prop:=z.take 2=[47,47]->z.length=2
theorem ES:∀(s:aC)(i a:Nat),tF i a s=match dM s with
  |none=>a
  |some j=>i+j
 |[],i,a=>rfl
 |c::s,i,a=>by
  unfold tF dM;rw[ES s];cases dM s with
  |some j=>show i+1+j=i+(j+1);omega
  |none=>
   by_cases h:c=47
   .rw[if_pos h,if_pos h];rfl
   .rw[if_neg h,if_neg h]
theorem wo:∀(z:aC)(i:Nat),dM z=some i->z.getD i 0=47
 |[],i,h=>by cases h
 |c::z,i,h=>by
  unfold dM at h;split at h
  .rename_i j hj;cases h
   rw[Bi];exact wo z j hj
  .split at h
   .rename_i hc;cases h;simpa using hc
   .cases h
theorem AU:∀(z:aC),dM z=none->∀c∈z,c≠47
 |[],_,c,hc=>by cases hc
 |x::z,h,c,hc=>by
  unfold dM at h;split at h
  .cases h
  .rename_i hz;split at h
   .cases h
   .rename_i hx;rcases bH.1 hc with rfl|hc
    .exact hx
    .exact AU z hz c hc
theorem M5 (h:dM s=some j):bW s=aw s:=by
 have hl:=pZ s j h;have hs:tG s=j:=by unfold tG;rw[ES,h];simp
 have HP:=wo s j h;unfold bW aw;rw[hs,h];by_cases hj:j=0
 .subst hj;rw[if_pos rfl];cases s with
  |nil=>simp at hl
  |cons c s=>
   (have:c=47:=by simpa using HP);subst this;simp
 .rw[if_neg hj];simp[Nat.max_eq_left (show 1<=j by omega)]
def H9 (r:aC×aC):aC:=if r.1=[47] then 47::r.2 else r.1++47::r.2
theorem YP (hn:uy s):(H9 (bW s)=s/\aV (bW s).2=true)↔aV (aw s).2=true:=by
 cases h:dM s with
 |none=>
  have ha:aw s=([],[]):=by unfold aw;rw[h]
  rw[ha];refine⟨λ⟨h1,_⟩=>?_,λh1=>by cases h1⟩;exfalso;have hm:(47:UInt8)∈s:=by
   rw[<-h1];unfold H9;split<;>simp
  exact AU s h 47 hm rfl
 |some j=>
  rw[M5 h];have hl:=pZ s j h;have HP:=wo s j h;have oz:s.take j++47::s.drop (j+1)=s:=by
   rw[a7,bc hl] at HP;have HP:s[j]=47:=HP;rw[<-HP,<-uQ hl,yy]
  refine⟨λh1=>h1.2,λh1=>⟨?_,h1⟩⟩;by_cases hj:j=0
  .subst hj;have ha:aw s=([47],s.drop 1):=by
    unfold aw;rw[h];cases s with
    |nil=>simp at hl
    |cons c s=>
     (have:c=47:=by simpa using HP);subst this;rfl
   rw[ha];unfold H9;rw[if_pos rfl];simpa using oz
  .have ha:aw s=(s.take j,s.drop (j+1)):=by
    unfold aw;rw[h];show(s.take (max j 1),_)=_;rw[Nat.max_eq_left (show 1<=j by omega)]
   rw[ha] at h1⊢;unfold H9;dsimp only at h1⊢;by_cases hb:s.take j=[47]
   .exfalso;have hj1:j=1:=by
     have:=eC List.length hb;rw[cO] at this;simp at this;omega
    subst hj1;have h2:s.take 2=[47,47]:=by
     rw[<-oz,hb];rfl
    have cX:=hn h2;have:s.drop (1+1)=[]:=Ac af;rw[this] at h1;cases h1
   .rw[if_neg hb];exact oz
theorem rB (h:aV (aw s).2=true):bW s=aw s:=by
 cases hl:dM s with
 |none=>unfold aw at h;rw[hl] at h;cases h
 |some j=>exact M5 hl
theorem p9 {α:Type}(P:α->Bool)(d:α):∀l:List α,(List.range l.length).countP (λj=>P (l.getD j d))=l.countP P
 |[]=>rfl
 |x::l=>by
  rw[cU,List.range_succ_eq_map,iA,List.countP_map,iA,<-p9 P d l];rfl
theorem YQ {α:Type}(P:α->Bool)(d:α)(l:List α):(List.range l.length).countP (λj=>decide (1<=j)&&P (l.getD j d))=l.tail.countP P:=by
 cases l with
 |nil=>rfl
 |cons x l=>
  rw[cU,List.range_succ_eq_map,iA,List.countP_map,List.tail_cons,<-p9 P d l];simp[Function.comp_def]
theorem PQ (f:Flat)(n:Int):cL f.ad f.ad.length n=f.many n:=p9 (λx:bE=>decide (x.id=n)) cR f.ad
theorem YR (p:List bE)(z:aC):cN p p.length z=p.tail.countP λx=>decide ((aw x.ag).1=z):=YQ (λx:bE=>decide ((aw x.ag).1=z)) cR p
theorem CK (p:List bE)(n:Int)(h:i<=j):cL p i n<=cL p j n:=by
 induction j with
 |zero=>rw[show i=0 by omega];exact cC _
 |succ j ih=>
  by_cases hi:i=j+1
  .rw[hi];exact cC _
  .have:=ih af;rw[tW];omega
theorem RN (p:List bE)(z:aC)(h:i<=j):cN p i z<=cN p j z:=by
 induction j with
 |zero=>rw[show i=0 by omega];exact cC _
 |succ j ih=>
  by_cases hi:i=j+1
  .rw[hi];exact cC _
  .have:=ih af;rw[zG];omega
theorem ET {p:List bE}:∀i,(∀j,j<i->(p.getD j cR).id=n->cL p (j+1) n<=B)->cL p i n<=B
 |0,_=>iK _
 |i+1,h=>by
  by_cases hi:(p.getD i cR).id=n
  .exact h i af hi
  .rw[tW,if_neg hi];exact ET i λj hj=>h j af
theorem PS {p:List bE}{z:aC}:∀i,(∀j,1<=j->j<i->(aw (p.getD j cR).ag).1=z->cN p (j+1) z<=B)->cN p i z<=B
 |0,_=>iK _
 |i+1,h=>by
  by_cases hi:1<=i/\(aw (p.getD i cR).ag).1=z
  .exact h i hi.1 af hi.2
  .rw[zG,if_neg hi];exact PS i λj h1 hj=>h j h1 af
theorem YS {p:List bE}(hj:j<i)(h:(p.getD j cR).id=n):1<=cL p i n:=by have h1:=CK p n (show j+1<=i by omega);rw[tW,if_pos h] at h1;omega
theorem adF {p:List bE}:∀i,1<=cL p i n->∃j,j<i/\(p.getD j cR).id=n
 |0,h=>absurd h (by unfold cL;simp)
 |i+1,h=>by
  by_cases hi:(p.getD i cR).id=n
  .exact⟨i,af,hi⟩
  .rw[tW,if_neg hi] at h;obtain⟨j,h1,h2⟩:=adF i h;exact⟨j,af,h2⟩
structure kE (f:Flat):Prop where
 tl:fM f.ae.length 1 16=true
 t0:(f.ae.getD 0 fO).id=0
 tf:(f.ae.getD 0 fO).aN=true
 tb:∀i,i<f.ae.length->tB f.ae i=true
 n0:f.ad.length≠0
 nr:f.ad.getD 0 cR=⟨[47],0⟩
 nm:∀i,i<f.ad.length->YL f.ad f.ae i
 al:∀i,i<f.ae.length->∃j,j<f.ad.length/\(f.ad.getD j cR).id=(f.ae.getD i fO).id
theorem qa {α:Type}[BEq α][LawfulBEq α]:∀(xs l:List α),xs.Nodup->(∀x∈xs,x∈l)->xs.length<=l.length
 |[],l,_,_=>iK _
 |x::xs,l,h,hs=>by
  have hx:=hs x ga;have hn:=yB.1 h;have:=qa xs (l.erase x) hn.2 λy hy=>(Vw (show y≠x from λe=>hn.1 (by rw[<-e];exact hy))).2 (hs y (iV _ hy))
  have hp:=KN hx;rw[Vx hx] at this;rw[cU];omega
theorem dG {α:Type}{l:List α}(d:α)(h:i<l.length):l.getD i d∈l:=by rw[a7,bc h];exact rX h
theorem AV (h:pc q n=some t):t<q.length/\(q.getD t fO).id=n:=by obtain⟨h1,h2,_⟩:=qe.1 h;refine⟨h1,?_⟩;rw[a7,bc h1];simpa using h2
theorem JW (hs:ik q)(h:t<q.length):pc q (q.getD t fO).id=some t:=by
 refine lE (d:=fO) h ay λj hj e=>?_
 have:=qz hs fO hj h;rw[bR] at e;omega
theorem RO {A:Acc}(hA:zH f.ad f.ae f.ad.length A)(hs:ik f.ae)(hn:∀i,i<f.ad.length->(pc f.ae (f.ad.getD i cR).id).isSome=true):
  A.li.length=f.ae.length↔∀i,i<f.ae.length->∃j,j<f.ad.length/\(f.ad.getD j cR).id=(f.ae.getD i fO).id:=by
 have jf:∀n∈A.li.map Prod.fst,n∈f.ae.map bS.id:=λn hm=>by
  obtain⟨j,hj,rfl⟩:=(hA.lk n).1 hm;obtain⟨t,ht⟩:=lV.1 (hn j hj);obtain⟨h1,h2⟩:=AV ht;exact lp.2 ⟨_,dG fO h1,h2⟩
 have D9:(f.ae.map bS.id).Nodup:=by
  rw[CX,CY];exact hs.imp λ{a b} h e=>by omega
 have hle:=qa _ _ hA.ln jf;rw[uI,uI] at hle;constructor
 .intro he i hi;refine nP λpR=>?_
  have hm:(f.ae.getD i fO).id∈f.ae.map bS.id:=lp.2 ⟨_,dG fO hi,rfl⟩;have h2:∀n∈A.li.map Prod.fst,n∈(f.ae.map bS.id).erase (f.ae.getD i fO).id:=λn GW=>by
   refine(Vw λe=>pR ?_).2 (jf n GW);obtain⟨j,hj,h3⟩:=(hA.lk n).1 GW;exact⟨j,hj,h3.trans e⟩
  have h3:=qa _ _ hA.ln h2;rw[Vx hm,uI,uI] at h3;omega
 .intro bU;have h2:=qa (f.ae.map bS.id) (A.li.map Prod.fst) D9 λn GW=>by
   obtain⟨x,hx,rfl⟩:=lp.1 GW;obtain⟨i,hi,rfl⟩:=jO hx;obtain⟨j,hj,h3⟩:=bU i hi;refine(hA.lk _).2 ⟨j,hj,h3.trans ?_⟩;rw[a7,bc hi];rfl
  rw[uI,uI] at h2;omega
theorem zI (f:Flat):Ul f=true↔kE f:=by
 unfold Ul;simp only[bI,bR,fT,kF];have hg:=YN f.ad.length 0 ⟨[],[],[]⟩ (YO f.ad f.ae);rw[mS] at hg;constructor
 .rintro⟨⟨⟨⟨⟨⟨h1,h2⟩,h3⟩,h4⟩,h5⟩,h6⟩,h7⟩;have bU:∀j,j<f.ad.length->YL f.ad f.ae j:=λj hj=>nP λhn=>by
   rw[hg.2 ⟨j,af,hj,hn⟩] at h7;cases h7
  obtain⟨A,hA1,hA2⟩:=hg.1 λj _ hj=>bU j hj
  rw[hA1] at h7;have h7:A.li.length=f.ae.length:=by simpa using h7
  exact⟨h1,h5,h6,h4,h2,h3,bU,(RO hA2 (wm h4) λi hi=>(bU i hi).1).1 h7⟩
 .intro h;obtain⟨A,hA1,hA2⟩:=hg.1 λj _ hj=>h.nm j hj
  rw[hA1];refine⟨⟨⟨⟨⟨⟨h.tl,h.n0⟩,h.nr⟩,h.tb⟩,h.t0⟩,h.tf⟩,?_⟩;simpa using(RO hA2 (wm h.tb) λi hi=>(h.nm i hi).1).2 h.al
theorem PT (f:Flat)(k:Nat):vB f.ad f.ae k=f.kz (f.ad.getD k ⟨[],0⟩).id:=by unfold vB Flat.kz;show(match f.eB (f.ad.getD k ⟨[],0⟩).id with|none=>false|some t=>(f.ae.getD t ⟨0,false,[]⟩).aN)=_;cases f.eB (f.ad.getD k ⟨[],0⟩).id<;>rfl
theorem tX (f:Flat)(i:Nat):f.tH i=true↔tB f.ae i=true/\fM (f.many (f.ae.getD i fO).id) 1 (if(f.ae.getD i fO).aN then 1 else 9)=true:=by unfold Flat.tH tB;show(!(!fM (f.ae.getD i fO).id 0 15||(decide (0<i)&&decide ((f.ae.getD i fO).id<=(f.ae.getD (i-1) fO).id))||((f.ae.getD i fO).aN&&decide ((f.ae.getD i fO).a8≠[]))||decide (192<(f.ae.getD i fO).a8.length)||!fM (f.many (f.ae.getD i fO).id) 1 (if(f.ae.getD i fO).aN then 1 else 9)))=true↔_;generalize fM (f.ae.getD i fO).id 0 15=a;generalize(decide (0<i)&&decide ((f.ae.getD i fO).id<=(f.ae.getD (i-1) fO).id))=b;generalize((f.ae.getD i fO).aN&&decide ((f.ae.getD i fO).a8≠[]))=c;generalize decide (192<(f.ae.getD i fO).a8.length)=d;generalize fM (f.many (f.ae.getD i fO).id) 1 (if(f.ae.getD i fO).aN then 1 else 9)=e;cases a<;>cases b<;>cases c<;>cases d<;>cases e<;>simp
theorem M6 (f:Flat)(i:Nat):f.vd i=true↔∃k,f.ju (bW (f.ad.getD i cR).ag).1=some k/\bO (f.ad.getD (i-1) cR).ag (f.ad.getD i cR).ag=true/\k<i/\H9 (bW (f.ad.getD i cR).ag)=(f.ad.getD i cR).ag/\aV (bW (f.ad.getD i cR).ag).2=true/\(f.eB (f.ad.getD i cR).id).isSome=true/\f.kz (f.ad.getD k cR).id=true/\f.vR (f.ad.getD i cR).ag<=12:=by
 have e:f.vd i=(match f.ju (bW (f.ad.getD i cR).ag).1 with
  |none=>false
  |some k=>bO (f.ad.getD (i-1) cR).ag (f.ad.getD i cR).ag&&decide (k<i)&&decide (H9 (bW (f.ad.getD i cR).ag)=(f.ad.getD i cR).ag)&&aV (bW (f.ad.getD i cR).ag).2&&(f.eB (f.ad.getD i cR).id).isSome&&f.kz (f.ad.getD k cR).id&&decide (f.vR (f.ad.getD i cR).ag<=12)):=rfl
 rw[e];cases f.ju (bW (f.ad.getD i cR).ag).1 with
 |none=>simp
 |some k=>simp[and_assoc]
theorem RP (hP:∀x∈f.ad,uy x.ag):f.ok=true↔kE f:=by
 have hP':∀i,i<f.ad.length->uy (f.ad.getD i cR).ag:=λi hi=>hP _ (dG cR hi)
 have gd:f.ok=true↔(fM f.ae.length 1 16=true/\(f.ae.getD 0 fO).id=0/\(f.ae.getD 0 fO).aN=true/\∀i,i<f.ae.length->f.tH i=true)/\f.ad≠[]/\f.ad.getD 0 cR=⟨[47],0⟩/\(∀i,i<f.ad.length->i=0\/f.vd i=true)/\f.vR [47]<=12:=by
  have e:f.ok=((fM f.ae.length 1 16&&decide ((f.ae.getD 0 fO).id=0)&&(f.ae.getD 0 fO).aN&&(List.range f.ae.length).all f.tH)&&decide (f.ad≠[])&&decide (f.ad.getD 0 cR=⟨[47],0⟩)&&(List.range f.ad.length).all (λi=>decide (i=0)||f.vd i)&&decide (f.vR [47]<=12)):=rfl;rw[e];simp only[bI,mh,bR,fT,kF,and_assoc]
 rw[gd];have hcN:(∀i,1<=i->i<f.ad.length->aV (aw (f.ad.getD i cR).ag).2=true)->∀z,f.vR z=cN f.ad f.ad.length z:=λh z=>by
  rw[YR];unfold Flat.vR;refine GB λx hx=>?_
  have gh:f.ad≠[]:=λe=>by rw[e] at hx;cases hx
  obtain⟨j,hj,rfl⟩:=jO hx;rw[List.length_tail] at hj;have:=rB (h (j+1) af af);rw[a7,bc af] at this;have e:f.ad.tail[j]=f.ad[j+1]:=List.getElem_tail _;rw[e];have this:bW f.ad[j+1].ag=aw f.ad[j+1].ag:=this;rw[this]
 constructor
 .rintro⟨⟨h1,h2,h3,h4⟩,h5,h6,h7,h8⟩;have htb:∀i,i<f.ae.length->tB f.ae i=true:=λi hi=>((tX f i).1 (h4 i hi)).1
  have hs:=wm htb;have cX:0<f.ad.length:=nO.2 h5;have adG:0<f.ae.length:=by unfold fM at h1;simp at h1;omega
  have FE:∀i,1<=i->i<f.ad.length->∃k,f.ju (bW (f.ad.getD i cR).ag).1=some k/\bO (f.ad.getD (i-1) cR).ag (f.ad.getD i cR).ag=true/\k<i/\aV (aw (f.ad.getD i cR).ag).2=true/\bW (f.ad.getD i cR).ag=aw (f.ad.getD i cR).ag/\(f.eB (f.ad.getD i cR).id).isSome=true/\f.kz (f.ad.getD k cR).id=true/\f.vR (f.ad.getD i cR).ag<=12:=λi hi hl=>by
   obtain⟨k,g1,g2,g3,g4,g5,g6,g7,g8⟩:=(M6 f i).1 ((h7 i hl).resolve_left af);have g9:=(YP (hP' i hl)).1 ⟨g4,g5⟩;exact⟨k,g1,g2,g3,g9,rB g9,g6,g7,g8⟩
  have afw:=hcN λi hi hl=>(FE i hi hl).choose_spec.2.2.2.1
  have sU:∀i,i<f.ad.length->(pc f.ae (f.ad.getD i cR).id).isSome=true:=λi hl=>by
   by_cases hi:i=0
   .subst hi;rw[h6];show(pc f.ae 0).isSome=true;rw[<-h2,JW hs adG];rfl
   .exact(FE i af hl).choose_spec.2.2.2.2.2.1
  have vo:∀i,i<f.ad.length->∀t,pc f.ae (f.ad.getD i cR).id=some t->cL f.ad (i+1) (f.ad.getD i cR).id<=if(f.ae.getD t fO).aN then 1 else 9:=λi hl t ht=>by
   obtain⟨g1,g2⟩:=AV ht;have:=((tX f t).1 (h4 t g1)).2;rw[g2,<-PQ] at this;have hm:=CK f.ad (f.ad.getD i cR).id (show i+1<=f.ad.length by omega);simp only[fM,bI,bR] at this;split<;>rename_i vu
   .rw[if_pos vu] at this;omega
   .rw[if_neg vu] at this;omega
  refine⟨h1,h2,h3,htb,af,h6,λi hl=>⟨sU i hl,λhi=>?_,?_,λhf=>?_⟩,λt ht=>?_⟩
  .obtain⟨k,g1,g2,g3,g4,g5,g6,g7,g8⟩:=FE i hi hl;obtain⟨q1,q2,_⟩:=qe.1 g1;have q3:(f.ad.getD k cR).ag=(aw (f.ad.getD i cR).ag).1:=by
    rw[a7,bc q1,<-g5];simpa using q2
   refine⟨g2,⟨k,g3,q3,by rw[PT];exact g7⟩,g4,?_⟩;refine gu (RN f.ad _ (show i+1<=f.ad.length by omega)) ?_;rw[<-afw,<-q3];by_cases hk:k=0
   .subst hk;rw[h6];exact h8
   .exact(FE k af af).choose_spec.2.2.2.2.2.2.2
  .obtain⟨t,ht⟩:=lV.1 (sU i hl);have:=vo i hl t ht;split at this<;>omega
  .obtain⟨t,ht⟩:=lV.1 (sU i hl);have:=vo i hl t ht;unfold vB at hf;rw[ht] at hf;rw[if_pos hf] at this;exact this
  .have:=((tX f t).1 (h4 t ht)).2;rw[<-PQ] at this;simp only[fM,bI,bR] at this;exact adF _ af
 .intro h;have hs:=wm h.tb;have afw:=hcN λi hi hl=>((h.nm i hl).2.1 hi).2.2.1
  have Ar:∀z,f.vR z<=12:=λz=>by
   rw[afw];exact PS _ λj h1 hj hz=>by rw[<-hz];exact((h.nm j hj).2.1 h1).2.2.2
  have Xo:∀j,1<=j->j<f.ad.length->bO (f.ad.getD (j-1) cR).ag (f.ad.getD j cR).ag=true:=λj h1 hj=>((h.nm j hj).2.1 h1).1
  refine⟨⟨h.tl,h.t0,h.tf,λt ht=>(tX f t).2 ⟨h.tb t ht,?_⟩⟩,λe=>h.n0 (by rw[e];rfl),h.nr,λi hl=>?_,Ar _⟩
  .obtain⟨j,hj,hid⟩:=h.al t ht;rw[<-PQ];have h1:=YS hj hid;have hti:=JW hs ht;have h9:cL f.ad f.ad.length (f.ae.getD t fO).id<=9:=ET _ λj hj hid=>by rw[<-hid];exact(h.nm j hj).2.2.1
   have hf:(f.ae.getD t fO).aN=true->cL f.ad f.ad.length (f.ae.getD t fO).id<=1:=λvu=>ET _ λj hj hid=>by
    have:=(h.nm j hj).2.2.2 (by unfold vB;rw[hid,hti];exact vu);rw[<-hid];exact this
   simp only[fM,bI,bR];cases vu:(f.ae.getD t fO).aN with
   |true=>have:=hf vu;rw[if_pos rfl];omega
   |false=>rw[if_neg iB];omega
  .by_cases hi:i=0
   .exact .inl hi
   .right
    obtain⟨g1,⟨k,g2,g3,g4⟩,g5,g6⟩:=(h.nm i hl).2.1 af;have g7:=rB g5;obtain⟨g8,g9⟩:=(YP (hP' i hl)).2 g5;refine(M6 f i).2 ⟨k,?_,g1,g2,g8,g9,(h.nm i hl).1,by rw[PT] at g4;exact g4,Ar _⟩;rw[g7];(refine lE (d:=cR) af (by simpa using g3) λj hj e=>?_);rw[bR] at e;exact adE Xo hj af (e.trans g3.symm)
theorem afx (hP:∀x∈f.ad,uy x.ag):Ul f=f.ok:=by rw[pd,zI,RP hP]
def lH (q:gD)(k:Int):Bool:=match pc q k with
 |none=>false
 |some t=>(q.getD t fO).aN
def ia (p:List bE)(z:aC):Int:=match vT p z with
 |none=>-1
 |some i=>(p.getD i cR).id
def inJ (p:List bE)(k:Int)(x:bE):Bool:=decide ((aw x.ag).2≠[])&&decide (ia p (aw x.ag).1=k)
def YT (p:List bE)(k:Int):Nat:=p.countP (inJ p k)
def xb (p:List bE)(k:Int):Nat:=p.countP λx=>decide (x.id=k)
def Ci (q:gD):Nat->Nat->Int
 |0,_=>-1
 |n+1,k=>if(pc q (k:Int)).isNone then(k:Int) else Ci q n (k+1)
def xc (p:List bE)(q:gD)(z:aC)(cq:Bool):Int:=
 if z=[47] then 3 else if ia p (Ev.eE z)<0 then 2 else if lH q (ia p (Ev.eE z))=false then 4 else if 0<=ia p z then 3 else
 if cq=true\/12<=YT p (ia p (Ev.eE z)) then 6 else 0
def mM (p:List bE)(q:gD)(o:Op):Int:=
 if o.kind=1\/o.kind=2 then xc p q o.ag (decide (Ci q 16 0<0)) else
 if ia p o.ag<0 then 2 else
 if o.kind=3\/o.kind=4 then(if lH q (ia p o.ag)=true then 4 else if 192<o.at_+o.a8.length then 6 else 0) else
 if o.kind=5 then(if ia p o.ag=0\/(lH q (ia p o.ag)=true/\0<YT p (ia p o.ag)) then 5 else 0) else
 if o.kind=6 then(if lH q (ia p o.ag)=true then 4 else xc p q o.to (decide (9<=xb p (ia p o.ag)))) else
 if ia p o.ag=0 then 5 else if 0<=ia p o.to then 3 else if under o.to o.ag=true then 5 else if ia p (Ev.eE o.to)<0 then 2 else if lH q (ia p (Ev.eE o.to))=false then 4 else
 if ia p (Ev.eE o.to)≠ia p (Ev.eE o.ag)/\12<=YT p (ia p (Ev.eE o.to)) then 6 else 0
def o7 (x z:aC):Option aC:=if z.length<=x.length/\x.take z.length=z then(if x.drop z.length=[]\/(x.drop z.length).getD 0 0=47 then some (x.drop z.length) else none) else none
def AW (z to:aC)(x:bE):bE:=match o7 x.ag z with
 |some r=>⟨to++r,x.id⟩
 |none=>x
def Ia (p:List bE)(q:gD)(z:aC)(k:Int):List bE×gD:=
 (p.filter λx=>!decide (x.ag=z),if xb (p.filter λx=>!decide (x.ag=z)) k=0 then q.filter λx=>!decide (x.id=k) else q)
def Vp (q:gD)(k:Int)(g:aC->aC):gD:=match pc q k with
 |none=>q
 |some t=>q.set t ⟨(q.getD t fO).id,(q.getD t fO).aN,g (q.getD t fO).a8⟩
def YU (t:aC)(n:Int):aC:=t++Ev.yY [0] (max 0 (n-t.length)).toNat
def wrJ (a:Int)(x t:aC):aC:=(YU t (a+x.length)).take a.toNat++x++(YU t (a+x.length)).drop (a.toNat+x.length)
def ctJ (a:Int)(t:aC):aC:=(YU t a).take a.toNat
def AX (p:List bE)(q:gD)(o:Op):List bE×gD:=
 if o.kind=1\/o.kind=2 then(p++[⟨o.ag,Ci q 16 0⟩],q++[⟨Ci q 16 0,decide (o.kind=2),[]⟩]) else
 if o.kind=3 then(p,if o.a8=[] then q else Vp q (ia p o.ag) (wrJ o.at_ o.a8)) else
 if o.kind=4 then(p,Vp q (ia p o.ag) (ctJ o.at_)) else
 if o.kind=5 then Ia p q o.ag (ia p o.ag) else
 if o.kind=6 then(p++[⟨o.to,ia p o.ag⟩],q) else(p.map (AW o.ag o.to),q)
def RQ (p:List bE)(q:gD)(o:Op):Flat:=⟨Ev.jV (AX p q o).1,Ev.jW (AX p q o).2⟩
variable {l:gD}
theorem ya:∀(a b:List bE),l5 a->l5 b->(∀x,x∈a↔x∈b)->a=b
 |[],[],_,_,_=>rfl
 |[],y::b,_,_,h=>by have:=(h y).2 ga;cases this
 |x::a,[],_,_,h=>by have:=(h x).1 ga;cases this
 |x::a,y::b,ha,hb,h=>by
  obtain⟨ha1,ha2⟩:=jP.1 ha;obtain⟨z7,Vg⟩:=jP.1 hb;have Vk:x=y:=by
   rcases bH.1 ((h x).1 ga) with e|e
   .exact e
   .rcases bH.1 ((h y).2 ga) with e2|e2
    .exact e2.symm
    .have h1:=z7 x e;have h2:=ha1 y e2;have:=eT _ _ _ h1 h2;rw[kb] at this;cases this
  subst Vk
  congr 1
  refine ya a b ha2 Vg λz=>⟨λhz=>?_,λhz=>?_⟩
  .rcases bH.1 ((h z).1 (iV _ hz)) with e|e
   .subst e;have:=ha1 z hz;rw[kb] at this;cases this
   .exact e
  .rcases bH.1 ((h z).2 (iV _ hz)) with e|e
   .subst e;have:=z7 z hz;rw[kb] at this;cases this
   .exact e
theorem yb:∀(a b:gD),ik a->ik b->(∀x,x∈a↔x∈b)->a=b
 |[],[],_,_,_=>rfl
 |[],y::b,_,_,h=>by have:=(h y).2 ga;cases this
 |x::a,[],_,_,h=>by have:=(h x).1 ga;cases this
 |x::a,y::b,ha,hb,h=>by
  obtain⟨ha1,ha2⟩:=jP.1 ha;obtain⟨z7,Vg⟩:=jP.1 hb;have Vk:x=y:=by
   rcases bH.1 ((h x).1 ga) with e|e
   .exact e
   .rcases bH.1 ((h y).2 ga) with e2|e2
    .exact e2.symm
    .have h1:=z7 x e;have h2:=ha1 y e2;omega
  subst Vk
  congr 1
  refine yb a b ha2 Vg λz=>⟨λhz=>?_,λhz=>?_⟩
  .rcases bH.1 ((h z).1 (iV _ hz)) with e|e
   .subst e;have:=ha1 z hz;omega
   .exact e
  .rcases bH.1 ((h z).2 (iV _ hz)) with e|e
   .subst e;have:=z7 z hz;omega
   .exact e
theorem EU (x:bE):∀(l:List bE)(y:bE),y∈Ev.wH x l↔y=x\/y∈l
 |[],y=>by simp[Ev.wH]
 |z::l,y=>by
  unfold Ev.wH;split
  .simp
  .rw[bH,EU x l,bH];constructor
   .rintro(h|h|h)
    .exact .inr (.inl h)
    .exact .inl h
    .exact .inr (.inr h)
   .rintro(h|h|h)
    .exact .inr (.inl h)
    .exact .inl h
    .exact .inr (.inr h)
theorem EV (x:bS):∀(l:gD)(y:bS),y∈Ev.wI x l↔y=x\/y∈l
 |[],y=>by simp[Ev.wI]
 |z::l,y=>by
  unfold Ev.wI;split
  .simp
  .rw[bH,EV x l,bH];constructor
   .rintro(h|h|h)
    .exact .inr (.inl h)
    .exact .inl h
    .exact .inr (.inr h)
   .rintro(h|h|h)
    .exact .inr (.inl h)
    .exact .inl h
    .exact .inr (.inr h)
theorem Ib (x:bE):∀(l:List bE),l5 l->(∀y∈l,y.ag≠x.ag)->l5 (Ev.wH x l)
 |[],_,_=>QA _ _
 |z::l,h,hn=>by
  obtain⟨h1,h2⟩:=jP.1 h;unfold Ev.wH;split
  .rename_i dz;exact jP.2 ⟨λy hy=>by
    rcases bH.1 hy with rfl|hy
    .exact dz
    .exact eT _ _ _ dz (h1 y hy),h⟩
  .rename_i dz;have hzx:bO z.ag x.ag=true:=by
    refine' zbi
   refine jP.2 ⟨λy hy=>?_,Ib x l h2 λy hy=>hn y (iV _ hy)⟩;rcases(EU x l y).1 hy with rfl|hy
   .exact hzx
   .exact h1 y hy
theorem Ic (x:bS):∀(l:gD),ik l->(∀y∈l,y.id≠x.id)->ik (Ev.wI x l)
 |[],_,_=>QA _ _
 |z::l,h,hn=>by
  obtain⟨h1,h2⟩:=jP.1 h;unfold Ev.wI;split
  .rename_i dz;exact jP.2 ⟨λy hy=>by
    rcases bH.1 hy with rfl|hy
    .exact dz
    .have:=h1 y hy;omega,h⟩
  .rename_i dz;have gh:=hn z ga;refine jP.2 ⟨λy hy=>?_,Ic x l h2 λy hy=>hn y (iV _ hy)⟩;rcases(EV x l y).1 hy with rfl|hy
   .omega
   .exact h1 y hy
theorem ki:∀(l:List bE)(y:bE),y∈Ev.jV l↔y∈l
 |[],y=>Iff.rfl
 |x::l,y=>by
  show y∈Ev.wH x (Ev.jV l)↔_;rw[EU,ki l,bH]
theorem kj:∀(l:gD)(y:bS),y∈Ev.jW l↔y∈l
 |[],y=>Iff.rfl
 |x::l,y=>by
  show y∈Ev.wI x (Ev.jW l)↔_;rw[EV,kj l,bH]
theorem tY:∀(l:List bE),(l.map bE.ag).Nodup->l5 (Ev.jV l)
 |[],_=>Vy
 |x::l,h=>by
  rw[xg,yB] at h;exact Ib x _ (tY l h.2) λy hy e=>h.1 (lp.2 ⟨y,(ki l y).1 hy,e⟩)
theorem tZ:∀(l:gD),(l.map bS.id).Nodup->ik (Ev.jW l)
 |[],_=>Vy
 |x::l,h=>by
  rw[xg,yB] at h;exact Ic x _ (tZ l h.2) λy hy e=>h.1 (lp.2 ⟨y,(kj l y).1 hy,e⟩)
theorem l5.nodup {l:List bE}(h:l5 l):(l.map bE.ag).Nodup:=by rw[CX,CY];exact h.imp λ{a b} h=>nk h
theorem ik.nodup (h:ik l):(l.map bS.id).Nodup:=by rw[CX,CY];exact h.imp λ{a b} h e=>by omega
theorem jr:∀(l:List bE)(e x:bE),x∈Flat.tI l e↔x=e\/x∈l
 |[],e,x=>by simp[Flat.tI]
 |y::l,e,x=>by
  unfold Flat.tI;split
  .simp
  .rw[bH,jr l,bH];constructor
   .rintro(h|h|h)
    .exact .inr (.inl h)
    .exact .inl h
    .exact .inr (.inr h)
   .rintro(h|h|h)
    .exact .inr (.inl h)
    .exact .inl h
    .exact .inr (.inr h)
theorem AY:∀(l:List bE)(e:bE),l5 l->(∀y∈l,y.ag≠e.ag)->l5 (Flat.tI l e)
 |[],_,_,_=>QA _ _
 |z::l,x,h,hn=>by
  obtain⟨h1,h2⟩:=jP.1 h;unfold Flat.tI;split
  .rename_i dz;exact jP.2 ⟨λy hy=>by
    rcases bH.1 hy with rfl|hy
    .exact dz
    .exact eT _ _ _ dz (h1 y hy),h⟩
  .rename_i dz;have hzx:bO z.ag x.ag=true:=by
    refine' zbi
   refine jP.2 ⟨λy hy=>?_,AY l x h2 λy hy=>hn y (iV _ hy)⟩;rcases(jr l x y).1 hy with rfl|hy
   .exact hzx
   .exact h1 y hy
theorem km:∀(l:gD)(e x:bS),x∈Flat.wG l e↔x=e\/x∈l
 |[],e,x=>by simp[Flat.wG]
 |y::l,e,x=>by
  unfold Flat.wG;split
  .rw[bH,km l,bH];constructor
   .rintro(h|h|h)
    .exact .inr (.inl h)
    .exact .inl h
    .exact .inr (.inr h)
   .rintro(h|h|h)
    .exact .inr (.inl h)
    .exact .inl h
    .exact .inr (.inr h)
  .simp
theorem AZ:∀(l:gD)(e:bS),ik l->(∀y∈l,y.id≠e.id)->ik (Flat.wG l e)
 |[],_,_,_=>QA _ _
 |z::l,x,h,hn=>by
  obtain⟨h1,h2⟩:=jP.1 h;have gh:=hn z ga;unfold Flat.wG;split
  .rename_i dz;refine jP.2 ⟨λy hy=>?_,AZ l x h2 λy hy=>hn y (iV _ hy)⟩;rcases(km l x y).1 hy with rfl|hy
   .omega
   .exact h1 y hy
  .rename_i dz;exact jP.2 ⟨λy hy=>by
    rcases bH.1 hy with rfl|hy
    .omega
    .have:=h1 y hy;omega,h⟩
theorem oA {α β:Type}(g:α->β){l:List α}{e:α}(h:(l.map g).Nodup)(hn:∀y∈l,g y≠g e):((l++[e]).map g).Nodup:=by rw[Qw,uP];refine⟨h,ay,λa ha b hb=>?_⟩;obtain⟨y,hy,rfl⟩:=lp.1 ha;rw[xg,CS,fJ] at hb;subst hb;exact hn y hy
theorem PU {l:List bE}{e:bE}(h:l5 l)(hn:∀y∈l,y.ag≠e.ag):Ev.jV (l++[e])=Flat.tI l e:=
 ya _ _ (tY _ (oA bE.ag h.nodup hn)) (AY l e h hn) λx=>by
  rw[ki,jr,eW,fJ,or_comm]
theorem PV {e:bS}(h:ik l)(hn:∀y∈l,y.id≠e.id):Ev.jW (l++[e])=Flat.wG l e:=
 yb _ _ (tZ _ (oA bS.id h.nodup hn)) (AZ l e h hn) λx=>by
  rw[kj,km,eW,fJ,or_comm]
end Go.Pl
namespace Go.Pl
open Go Go.Ev Go.Lg Go.Proofs
variable {E:iq}{X:fY}{Γ:qN}{l:Kn}{L R:dy}{K:KO}
abbrev qb (a:aS)(c:Nat)(p:List bE)(a':aS)(c':Nat)(q:gD):aY:=[.slice a p.length c,.slice a' q.length c']
theorem WO.aeV {E:iq}{X:fY}{Γ:qN}{l:Kn}{L:dy}{K:KO}{x:Operand}{t:TypeId}{b off m n sz:Nat}{cs r:aY}[ht:wJ E t m](hx:Ev l x (.pointer (some ⟨b,off,none⟩)))(hh:Rd Γ (iJ b) n sz cs)(hv:ie m (Go.Ev.gg off cs)=some r)(k:∀n,K (.agg ⟨r⟩) L n n (λi=>i∈aj (iJ b)) Z):WO E X Γ l (.load t x) L K:=λtm s h1 h2=>by
 refine' zba
 .cases hc
 .cases hc
 .cases hc
  refine fy.pure (v:=.agg ⟨r⟩) (s':=s.aU b) (λcall=>?_) ⟨L,(λi=>i∈aj (iJ b)),Z,h2.aU (hm b (by simp[aj])),cH h3 (by simp[aj]),by rw[bQ];exact k _⟩;show(Fv (aO tm x) λb o=>lM E s t b o)=_;rw[hx.eval h1];have:=wZ h5 hv;rw[mS] at this;exact vU h4 this
theorem WO.XL {E:iq}{X:fY}{Γ:qN}{l:Kn}{L:dy}{K:KO}{x:Operand}{t:TypeId}{b off n sz:Nat}{cs:aY}{v:Value}[ht:np E t](hx:Ev l x (.pointer (some ⟨b,off,none⟩)))(hh:Rd Γ (iJ b) n sz cs)(hv:cs[off]?=some v)(k:∀n,K v L n n (λi=>i∈aj (iJ b)) Z):WO E X Γ l (.load t x) L K:=λtm s h1 h2=>by
 refine' zba
 .cases hc
 .cases hc
 .cases hc
  refine fy.pure (v:=v) (s':=s.aU b) (λcall=>?_) ⟨L,(λi=>i∈aj (iJ b)),Z,h2.aU (hm b (by simp[aj])),cH h3 (by simp[aj]),by rw[bQ];exact k _⟩;show(Fv (aO tm x) λb o=>lM E s t b o)=_;rw[hx.eval h1];have:=Bz h5 hv;rw[mS] at this;exact tK h4 this
theorem WO.nilCheck {x:Operand}{a:Addr}(hx:Ev l x (.pointer (some a)))(k:∀n,K (.pointer (some a)) L n n Z Z):WO E X Γ l (.nilCheck x) L K:=WO.val (λtm s call hl=>by
 show GH E (aO tm x) s=_;rw[hx.eval hl];rfl) k
variable {g:FuncId}{xs:List Operand}{ts:Array TypeId}{vs:aY}{v:SA}{f f':Fs}{r:Value}
abbrev fsC (v:SA)(f:Fs):aY:=[.slice v.r 64 v.rc,.slice v.f 64 v.fc,.slice v.l 64 v.lc,iv f.st.fH,.slice v.g f.st.cP.length v.gc,iv f.st.oQ,.slice v.d f.st.eg.length v.dc,.bool f.st.same,iv f.t.cG.row,iv f.t.cG.di,iv f.t.cG.size,iv f.t.cG.sum,iv f.t.cG.level,iv f.t.depth,iv f.t.many,.bool f.cq]
abbrev kh (b:Nat)(v:SA)(f:Fs):dy:=.box b (fsC v f) 152 false::eK v f.st
abbrev mO (E:iq)(X:fY)(g:FuncId)(vs:aY)(s:St)(b:Nat)(v:SA)(f f':Fs)(r:Value):Prop:=fA E X g vs s (kh b v f) [] λR L=>∃v':SA,R=r/\L=kh b v' f'
section
variable {b:Nat}
theorem WO.aiS (hx:jY l xs vs)(h:∀s,mO E X g vs s b v f f' r)(hp:nM (kh b v f) L R)(k:∀m m' v',iY L m->m<=m'->K r (kh b v' f'++R) m m' (mV [] (kh b v f) m m') (mW (kh b v f) m m')):WC E X Γ l g xs ts L K:=
 WO.call (Lm:=kh b v f) (R:=R) hx hp.cT (λs hi b hb=>by cases hb) (λs _=>h s) (by rintro r L' m m' ho hm ⟨v',rfl,rfl⟩;exact k m m' v' ho hm)
theorem mY {rs:List ResultVar}{x:Ex}{v':SA}{ws:aY}(hx:x= .normal\/x= .ret)(hr:qO E l L rs ws)(hL:cx (kh b v' f') L)(hv:gK ws=r):
  wK E rs (λR L=>∃v':SA,R=r/\L=kh b v' f') x l L:=⟨hx,ws,_,hr,hL,v',hv,rfl⟩
end
theorem sJ (s:St)(b:Nat)(v:SA)(f:Fs)(h:dv 80000 f.st)(ht:dZ f.t)(k:Nat)(hk:k<16)(n:iE):mO bf bw 150 [bk b,iv k,nv n] s b v f (f.put k n) (.tuple ⟨[]⟩):=by
 unfold Fs.put;rw[uM];refine aX f150 ?_;dsimp only[kh,eK];cases hf:f.cq with
 |true=>
  rw[if_pos rfl];repeat' (first|refine' aZ|refine' ac9|refine' av|fail)
  refine' acR;rfl
 |false=>
  rw[if_neg bT];repeat' (first|refine' aZ|refine' ac9|refine' av|fail)
  refine' acR;rfl
variable {s:St}
structure lI (s:St)(b:Nat)(v:SA)(f:Fs):Prop where
 b:bM s (iJ b) 1 16 (fsC v f)
 st:cS s v f.st
structure L9 (Γ:qN)(L:dy)(b:Nat)(v:SA)(f:Fs):Prop where
 b:kr Γ L (iJ b) 1 16 (fsC v f)
 st:ru Γ L v f.st
abbrev ua (b:Nat)(v:SA):List Nat:=b::iH v
section
variable {b:Nat}
theorem L9.row (h:L9 Γ L b v f)(hi:Inv Γ s L):lI s b v f/\∀i∈ua b v,Ca Γ s i:=by
 refine⟨⟨(h.b.row hi).1,(h.st.row hi).1⟩,λi hb=>?_⟩;rcases bH.1 hb with rfl|hb
 .exact(h.b.row hi).2 _ (by simp[aj])
 .exact(h.st.row hi).2 i hb
theorem WO.JO (hx:jY l xs vs)(hh:L9 Γ L b v f)(h:∀s,lI s b v f->l7 E X g vs s (ua b v) r)(k:∀m m',iY L m->m<=m'->K r L m m' (mV (ua b v) [] m m') (mW [] m m')):WC E X Γ l g xs ts L K:=
 WO.nu hx (λs hi=>⟨(hh.row hi).2,h s (hh.row hi).1⟩) k
theorem WO.RR {α:Type}{sz:Nat}{enc:aq α sz}{e:TypeId}{p:List α}(hx:jY l xs vs)(hh:L9 Γ L b v f)(h:∀s,lI s b v f->eu E X g vs s (ua b v) e p)(k:∀m m' a c,iY L m->m<=m'->K (.slice a p.length c) (.aQ (.slice a p.length c) e sz (ai (sz:=sz) p)::L) m m' (mV (ua b v) [] m m') (mW [] m m')):WC E X Γ l g xs ts L K:=
 WO.Lw hx (λs hi=>⟨(hh.row hi).2,h s (hh.row hi).1⟩) k
theorem EW.bx (h:lI s b v f):Rd ⟨s,([]:dy).flatMap It.cr,ua b v⟩ (iJ b) 1 16 (fsC v f):=Rd.of h.b λ_ hb=>by simp[aj] at hb;subst hb;exact ga
theorem EW.rw (h:lI s b v f):Rd ⟨s,([]:dy).flatMap It.cr,ua b v⟩ v.r 64 1 (ai f.st.ej):=Rd.of h.st.r λ_ hb=>iV _ (HS hb)
theorem EW.rf (h:lI s b v f):Rd ⟨s,([]:dy).flatMap It.cr,ua b v⟩ v.f 64 1 (ai f.st.bd):=Rd.of h.st.f λ_ hb=>iV _ (HT hb)
theorem EW.la (h:lI s b v f):Rd ⟨s,([]:dy).flatMap It.cr,ua b v⟩ v.l 64 1 (ai f.st.dm):=Rd.of h.st.l λ_ hb=>iV _ (HU hb)
end
theorem tU (s:St)(b:Nat)(v:SA)(f:Fs)(h:dv 100000 f.st)(ht:dZ f.t)(k:Int)(hk: -1000<=k/\k<=1000)(hr:lI s b v f):bL 155 [bk b,iv k] s (ua b v) (nv (f.node k)):=by
 have Og:=EW.bx hr;have tO:=EW.rw hr;have uB:=EW.rf hr;have uF:=EW.la hr;refine aX f155 ?_;repeat' (first|refine' aZ|refine' ac8|refine' av|fail)
 refine' ax;rfl
theorem lJ (s:St)(b:Nat)(v:SA)(f:Fs)(h:dv 100000 f.st)(ht:dZ f.t)(k:Int)(hk: -1000<=k/\k<=1000)(hr:lI s b v f):eu bf bw 149 [bk b,iv k] s (ua b v) 198 (f.bG k):=by have Og:=EW.bx hr;have tO:=EW.rw hr;have uB:=EW.rf hr;have uF:=EW.la hr;unfold Fs.bG;refine aX f149 ?_;(repeat' (first|refine' aZ|refine' X1|((with_reducible apply WO.tS);exact aD;(first|exact λs hr=>l9 s _ _ aP _ hr|exact λs hr=>l9 s _ _ aP ⟨_,_,_,⟨⟨_,_,_,_,_⟩,_,_⟩⟩ hr);exact ez;intro _ _ abO abP _ _)|refine' av|fail));refine' jo;rfl
variable {st:ar}
theorem WO.RS {a:aS}{n sz:Nat}{cs:aY}(hx:jY l xs vs)(h:∀s,cS s v st->bM s a n sz cs->l7 E X g vs s (iH v++aj a) r)(hh:ru Γ L v st)(h2:kr Γ L a n sz cs)(k:∀m m',iY L m->m<=m'->K r L m m' (mV (iH v++aj a) [] m m') (mW [] m m')):WC E X Γ l g xs ts L K:=
 WO.nu hx (λs hi=>⟨λi hb=>by
   rcases eW.1 hb with hb|hb
   .exact(hh.row hi).2 i hb
   .exact(h2.row hi).2 i hb,h s (hh.row hi).1 (h2.row hi).1⟩) k
theorem BS {st:ar}{n:iE}{l:List bg}(h:bN st n=some l):l.length<=12/\∀e∈l,0<=e.id/\e.id<=15:=by refine' zaj;unfold bC at gd;simp only[bI,fT,bR,fM] at gd;exact⟨gd.2,λe he=>by have:=(gd.1.1 e he).2;omega⟩
theorem EX (s:St)(v:SA)(st:ar)(h:dv 100000 st)(t:cB)(ht:dZ t)(a:aS)(c:Nat)(p:List aC)(hp:p.length<=1000)(hr:cS s v st)(h2:bM s a p.length 1 (ai p)):
  bL 201 [fI v st,tv t,.slice a p.length c] s (iH v++aj a) (iv (oR (λi=>bN st ((ji st t i).getD bA)) p 0)):=by
 have tO:Rd ⟨s,([]:dy).flatMap It.cr,iH v++aj a⟩ v.r 64 1 (ai st.ej):=Rd.of hr.r λ_ hb=>cA _ (HS hb)
 have uB:Rd ⟨s,([]:dy).flatMap It.cr,iH v++aj a⟩ v.f 64 1 (ai st.bd):=Rd.of hr.f λ_ hb=>cA _ (HT hb)
 have uF:Rd ⟨s,([]:dy).flatMap It.cr,iH v++aj a⟩ v.l 64 1 (ai st.dm):=Rd.of hr.l λ_ hb=>cA _ (HU hb)
 have hdp:Rd ⟨s,([]:dy).flatMap It.cr,iH v++aj a⟩ a p.length 1 (ai p):=Rd.of h2 λ_ hb=>dt _ hb
 generalize hE:(λi=>bN st ((ji st t i).getD bA))=E at *
 have hEa:∀i,E i=bN st ((ji st t i).getD bA):=λi=>by rw[<-hE]
 refine aX f201 ?_;refine' cM
 refine W.bK (λk l L=>∃(i:Nat)(w:Int)(b3 b4:Nat),Le [(2,.slice a p.length c),(3,bk b3),(4,bk b4),(7,iv w),(8,iv i)] l/\cx [.box b3 (rS v st) 71 false,.box b4 (hU t) 75 false] L/\k=p.length-i/\i<=p.length/\(0<=w/\w<=15)/\oR E p 0=oR E (p.drop i) w)
  (λl L=>Le [(7,iv (oR E p 0))] l/\cx [] L) p.length ⟨0,0,_,_,bp,au,rfl,af,af,rfl⟩ ?_ ?_
 .rintro k l L ⟨i,w,b3,b4,jA,hL,rfl,h1,hw,h3⟩;refine W.le ?_ jA hL;clear jA hL;by_cases hi:i<p.length
  .rw[drop_cons hi,oR,hEa] at h3;cases he:bN st ((ji st t w).getD bA) with
   |none=>
    rw[he] at h3;simp only at h3;rw[h3];have aii:∀s,cS s v st->jF bf bw 166 [fI v st,nv ((ji st t w).getD bA)] s (iH v) 198 ([]:List bg) false:=λs hr=>by
     have:=l9 s v st h ((ji st t w).getD bA) hr;rwa [he] at this
    refine' Yp;(all_goals try exact pE);refine' ax;rfl
   |some es=>
    rw[he] at h3;simp only at h3;have aii:∀s,cS s v st->jF bf bw 166 [fI v st,nv ((ji st t w).getD bA)] s (iH v) 198 es true:=λs hr=>by
     have:=l9 s v st h ((ji st t w).getD bA) hr;rwa [he] at this
    obtain⟨tw,hid⟩:=BS he;cases pD:ey es (p.getD i aq.ah) with
    |none=>
     (have hav:Yt es (p.getD i aq.ah)= -1:=by unfold Yt;rw[pD];rfl);rw[pD] at h3;simp only at h3;rw[h3];refine' Yp;(all_goals try exact pE);refine' ax;rfl
    |some q=>
     have hav:Yt es (p.getD i aq.ah)=(q:Int):=by unfold Yt;rw[pD];rfl
     have hq:q<es.length:=by
      unfold ey at pD;exact(qe.1 pD).1
     rw[pD] at h3;simp only at h3;refine' Yp;(all_goals try exact pE);have hqd:=hid _ (aL hq aq.ah);refine⟨_,?_,i+1,_,_,_,bp,au,rfl,af,?_,?_⟩
     .omega
     .rw[hav];exact hqd
     .rw[hav,h3];rfl
  .have fb:i=p.length:=by omega
   subst fb;rw[kG,oR] at h3;refine' cM;(all_goals try exact pE);exact⟨by rw[h3];exact bp,au⟩
 .rintro l L ⟨jA,hL⟩;refine ak ?_;refine W.le ?_ jA hL;clear jA hL;refine' cM
  refine' ax;rfl
theorem M7 {z:aC}(hp:aT z=true):(aI z).length<=4:=by
 unfold aT at hp;split at hp
 .rename_i h;unfold aI;rw[if_pos h];simp
 .split at hp
  .cases hp
  .simp only[bI,bR] at hp;exact hp.2
theorem RT (st:ar)(g:Int->iE):∀(l:List aC)(w:Int),0<=w/\w<=15-> -1<=oR (λi=>bN st (g i)) l w/\oR (λi=>bN st (g i)) l w<=15
 |[],w,h=>by rw[oR];omega
 |s::l,w,h=>by
  rw[oR];cases he:bN st (g w) with
  |none=>simp only;omega
  |some es=>
   simp only;cases pD:ey es s with
   |none=>simp only;omega
   |some q=>
    simp only;have hq:q<es.length:=by
     unfold ey at pD;exact(qe.1 pD).1
    exact RT st g l _ ((BS he).2 _ (aL hq _))
theorem qc (s:St)(b:Nat)(v:SA)(f:Fs)(h:dv 100000 f.st)(ht:dZ f.t)(z:aC)(hz:z.length<=90000)(hp:aT z=true)(hr:lI s b v f):bL 154 [bk b,sv z] s (ua b v) (iv (f.db z)):=by have Og:=EW.bx hr;have tO:=EW.rw hr;have uB:=EW.rf hr;have uF:=EW.la hr;obtain⟨z6,aiK⟩:=CH hp;have h4:=M7 hp;refine aX f154 ?_;(repeat' (first|refine' aZ|refine' TJ|((with_reducible apply WO.RS);exact aD;exact λs hr h2=>EX s _ _ aP _ aP _ _ _ af hr h2;exact ez;exact cD;intros)|refine' av|fail));refine' ax;rfl
end Go.Pl
