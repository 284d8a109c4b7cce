/- Lemmas of the proof. No conditions. -/
import Derived.Test.YtajgfdfbnhchcaaGreatDoorAc2
set_option maxRecDepth 100000
set_option maxHeartbeats 4000000
set_option linter.unusedVariables false
set_option linter.unusedSimpArgs false
open Go.Proofs.Tryz
namespace Go.Pl
section
variable {α:Type}{P:α->Bool}
theorem Jl:∀(l:List α),l.Pairwise (λa b=>P b=true->P a=true)->∀(h:Nat)(d:α),h<l.length->(P (l.getD h d)=true↔h<l.countP P)
 |[],_,h,_,hl=>by simp at hl
 |x::l,hp,h,d,hl=>by
  obtain⟨h1,h2⟩:=jS.1 hp;rw[iC];by_cases hx:P x=true
  .rw[if_pos hx];cases h with
   |zero=>simp[hx]
   |succ h=>
    have:=Jl l h2 h d (by simpa using hl);rw[AY,this];omega
  .have hz:l.countP P=0:=uz.2 λy hy yA=>hx (h1 y hy yA)
   rw[if_neg hx,hz];have:P ((x::l).getD h d)≠true:=λe=>by
    cases h with
    |zero=>exact hx e
    |succ h=>
     rw[AY,aR,bd (by simpa using hl)] at e;exact hx (h1 _ (qS _) e)
   exact⟨λe=>absurd e this,λe=>absurd e (by simp)⟩
theorem mF {l:List α}{i:Nat}{d:α}(hi:i<l.length)(h1:P (l.getD i d)=true)(h2:∀j,j<i->P (l.getD j d)≠true):l.findIdx? P=some i:=by
 rw[oC];rw[aR,bd hi] at h1;refine⟨hi,h1,λj hj=>?_⟩;have:=h2 j hj;rw[aR,bd ag] at this;exact this
theorem zi {l:List α}(d:α)(h:∀j,j<l.length->P (l.getD j d)≠true):l.findIdx? P=none:=by
 rw[CH];intro x hx;obtain⟨j,hj,rfl⟩:=iZ hx;have:=h j hj;rw[aR,bd hj] at this;simpa using this
end
def gi (q:eG):Prop:=q.Pairwise λx y=>x.id<y.id
def kE (p:List a6):Prop:=p.Pairwise λx y=>bL x.af y.af=true
def BY (q:eG)(k:Int):Nat:=q.countP λx=>decide (x.id<k)
def BZ (p:List a6)(z:aA):Nat:=p.countP λx=>bL x.af z
def kM (q:eG)(k:Int):Option Nat:=q.findIdx? λx=>decide (x.id=k)
def sT (p:List a6)(z:aA):Option Nat:=p.findIdx? λx=>decide (x.af=z)
theorem Cs {q:eG}(hs:gi q)(k:Int){h:Nat}(d:bC)(hl:h<q.length):(q.getD h d).id<k↔h<BY q k:=by
 have:=Jl (P:=λx:bC=>decide (x.id<k)) q (hs.imp λkK hb=>by simp at hb⊢;omega) h d hl
 rwa [bQ] at this
theorem Ct {p:List a6}(hs:kE p)(z:aA){h:Nat}(d:a6)(hl:h<p.length):bL (p.getD h d).af z=true↔h<BZ p z:=
 Jl (P:=λx:a6=>bL x.af z) p (hs.imp λkK hb=>eU _ _ _ kK hb) h d hl
theorem aeF (q:eG)(k:Int):BY q k<=q.length:=F3
theorem aeG (p:List a6)(z:aA):BZ p z<=p.length:=F3
theorem qv {α:Type}{R:α->α->Prop}{l:List α}(h:l.Pairwise R)(d:α){i j:Nat}(mR:i<j)(hj:j<l.length):R (l.getD i d) (l.getD j d):=by
 rw[aR,bd ag,aR,bd hj];exact tV.1 h i j ag hj mR
theorem aeH {q:eG}(hs:gi q)(k:Int)(d:bC):kM q k=if BY q k<q.length/\(q.getD (BY q k) d).id=k then some (BY q k) else none:=by
 split
 .rename_i h;refine mF (d:=d) h.1 (by simpa using h.2) λj hj=>?_
  have:=(Cs hs k d (h:=j) ag).2 hj;rw[ne_eq,bQ];omega
 .rename_i h;refine zi d λj hj he=>?_
  rw[bQ] at he;rcases CC j (BY q k) with h1|h1|h1
  .have:=(Cs hs k d hj).2 h1;omega
  .exact h ⟨ag,by rw[<-h1];exact he⟩
  .have h2:=qv hs d h1 hj;have h3:¬(q.getD (BY q k) d).id<k:=λe=>Gf _ ((Cs hs k d ag).1 e)
   omega
theorem aeI {p:List a6}(hs:kE p)(z:aA)(d:a6):sT p z=if BZ p z<p.length/\(p.getD (BZ p z) d).af=z then some (BZ p z) else none:=by
 split
 .rename_i h;refine mF (d:=d) h.1 (by simpa using h.2) λj hj=>?_
  have:=(Ct hs z d (h:=j) ag).2 hj;rw[ne_eq,bQ];exact np this
 .rename_i h;refine zi d λj hj he=>?_
  rw[bQ] at he;rcases CC j (BZ p z) with h1|h1|h1
  .exact np ((Ct hs z d hj).2 h1) he
  .exact h ⟨ag,by rw[<-h1];exact he⟩
  .have h2:bL _ _=true:=qv hs d h1 hj;have h3:¬bL (p.getD (BZ p z) d).af z=true:=λe=>Gf _ ((Ct hs z d ag).1 e)
   rw[he] at h2;exact h3 h2
def L5 (a b:Int):Int:=if a<b then -1 else if b<a then 1 else 0
theorem aa9 {a b:Int}:L5 a b<0↔a<b:=by unfold L5;split<;>(try split)<;>omega
theorem aba {a b:Int}:L5 a b=0↔a=b:=by unfold L5;split<;>(try split)<;>omega
theorem abb {a b:aA}:Ev.Ap a b<0↔bL a b=true:=by
 unfold Ev.Ap;cases h:bL a b<;>cases h2:bL b a<;>simp
theorem abc {a b:aA}:Ev.Ap a b=0↔a=b:=by
 unfold Ev.Ap;cases h:bL a b with
 |true=>simp;exact np h
 |false=>
  cases h2:bL b a with
  |true=>simp;exact λe=>np h2 e.symm
  |false=>simp;exact lI a b h h2
end Go.Pl
namespace Go.Pl
open Go Go.Ev Go.Lg Go.Proofs
section
variable {E:dA}{X:dM}{Γ:ij}{l:Kn}{L R:bE}{K:KO}{x y:Operand}{t t2:TypeId}{n:Int}
theorem Tp {n:Int}(h:0<=n/\n<=1000000):IntKind.wrap .u64 n=n:=by
 refine' zaO
theorem WO.acS [h1:xq E t .i64][h2:xq E t2 .u64](hx:Ev l x (iv n))(hn:0<=n/\n<=1000000)(h:∀i,K (.int .u64 n) L i i Z Z):WO E X Γ l (.convert t t2 x) L K:=WO.conv (h1:=h1) (h2:=h2) (k:=.i64) hx (Tp hn) h
theorem WO.acT [h1:xq E t .u64][h2:xq E t2 .i64](hx:Ev l x (.int .u64 n))(hn:0<=n/\n<=1000000)(h:∀i,K (iv n) L i i Z Z):WO E X Γ l (.convert t t2 x) L K:=WO.conv (h1:=h1) (h2:=h2) (k:=.u64) hx (qh ⟨ag,ag⟩) h
theorem WO.aid {m:Nat}(hx:Ev l x (.int .u64 n))(hy:Ev l y (.int .u64 1))(hq:n/ 2=(m:Int))(hn:0<=n)(h:∀i,K (.int .u64 (m:Int)) L i i Z Z):WO E X Γ l (.binOp .shr t x y t2) L K:=WO.bin hx hy (λcc=>by
 obtain⟨k,rfl⟩:=wB hn;show some (Value.int .u64 (.ofNat (Nat.shiftRight k (CN 1 (Gm .u64)))))=_;have:Nat.shiftRight k (CN 1 (Gm .u64))=m:=by
  show k>>> 1=m;rw[Nat.shiftRight_eq_div_pow];omega
 rw[this];rfl) h
end
theorem XI (s:St)(n:Int):bP 101 [iv n] s [] (.bool false):=by
 refine aU f101 ?_;(refine' cU)
 all_goals(refine' ax)
 all_goals(first|rfl|simp[gB])
theorem Tq (s:St)(a b:Int):bP 66 [iv a,iv b] s [] (iv (L5 a b)):=by
 refine aU f66 ?_;(repeat' (first|refine' a7|((with_reducible apply WO.bI);exact aE;(first|exact λs=>XI s _);intro _ _ _ _)|refine' aw|fail))
 all_goals try refine cM
 all_goals(refine' ax)
 all_goals(simp only[gB];unfold L5)
 all_goals first|rfl|(rw[if_pos (by assumption)])|(rw[if_neg ag,if_pos ag])|(rw[if_neg ag,if_neg ag])
theorem Hn (s:St)(x:bC)(k:Int):bP 65 [.agg ⟨ak.cells x⟩,iv k] s [] (iv (L5 x.id k)):=by
 refine aU f65 ?_;(repeat' (first|refine' a7|((with_reducible apply WO.bI);exact aE;(first|exact λs=>Tq s _ _);intro _ _ _ _)|refine' aw|fail))
 all_goals(refine' ax)
 all_goals rfl
theorem Tr (s:St)(a b:aA):bP 81 [sv a,sv b] s [] (iv (Ev.Ap a b)):=λh1 h2 h3=>sr.adN (fn:=f81) cV (s':=s) (v:=iv (Ev.Ap a b)) (λk=>rfl) ⟨[],⟨λ_ _ _=>rfl,cA _,λx hx=>(by cases hx),λx hx=>(by cases hx),CE,λb hb=>.inl hb,λb hb=>.inl hb,λb hb=>.inl hb,λb hb=>.inl hb⟩,rfl,rfl⟩
theorem O1 (s:St)(a b:aA):bP 44 [sv a,sv b] s [] (iv (Ev.Ap a b)):=by
 refine aU f44 ?_;(repeat' (first|refine' a7|((with_reducible apply WO.bI);exact aE;(first|exact λs=>Tr s _ _);intro _ _ _ _)|refine' aw|fail))
 all_goals(refine' ax)
 all_goals rfl
theorem L6 (s:St)(x:a6)(z:aA):bP 43 [.agg ⟨ak.cells x⟩,sv z] s [] (iv (Ev.Ap x.af z)):=by
 refine aU f43 ?_;(repeat' (first|refine' a7|((with_reducible apply WO.bI);exact aE;(first|exact λs=>O1 s _ _);intro _ _ _ _)|refine' aw|fail))
 all_goals(refine' ax)
 all_goals rfl
theorem aeb (s:St)(a:aK)(c:Nat)(q:eG)(hs:gi q)(hq:q.length<=1000)(k:Int)(hr:bO s a q.length 3 (ai q)):bP 64 [.slice a q.length c,iv k,.func (.func 65) ⟨[]⟩ ⟨[]⟩] s (aj a) (.tuple ⟨[iv (BY q k:Int),.bool (decide (BY q k<q.length/\(q.getD (BY q k) ak.ah).id=k))]⟩):=by
 have qI:=Rd.of (A:=aj a) hr λ_ hb=>hb
 have hle:=aeF q k;refine aU f64 ?_;(refine' cU)
 refine W.bN (λm l L=>∃(i j:Nat),Le [(0,.slice a q.length c),(1,iv k),(2,.func (.func 65) ⟨[]⟩ ⟨[]⟩),(8,iv (q.length:Int)),(9,iv (i:Int)),(10,iv (j:Int))] l/\cz [] L/\m=j-i/\i<=BY q k/\BY q k<=j/\j<=q.length)
  (λl L=>Le [(0,.slice a q.length c),(1,iv k),(2,.func (.func 65) ⟨[]⟩ ⟨[]⟩),(8,iv (q.length:Int)),(9,iv (BY q k:Int))] l/\cz [] L) _ ⟨0,q.length,bk,au,rfl,ag,hle,cA _⟩ ?_ ?_
 .rintro m l L ⟨i,j,hl,hL,rfl,h1,h2,h3⟩;refine W.le ?_ hl hL;clear hl hL;by_cases mR:i<j
  .obtain⟨h,ZA,h4,h5⟩:∃h:Nat,((i:Int)+(j:Int))/ 2=(h:Int)/\i<=h/\h<j:=⟨(i+j)/ 2,ag,ag,ag⟩;have Cu:=Cs hs k ak.ah (h:=h) ag;have vy:=aa9 (a:=(q.getD h ak.ah).id) (b:=k);(repeat' (first|refine' a7|refine' wo|((with_reducible apply WO.bI);exact aE;(first|exact λs=>Hn s _ _);intro _ _ _ _)|((with_reducible apply WO.acS);exact gP;exact mO;intro _)|((with_reducible apply WO.acT);exact gP;exact mO;intro _)|((with_reducible apply WO.aid);exact gP;exact gP;assumption;exact mO;intro _)|refine' aw|fail))
   all_goals try refine cM
   .exact⟨_,ag,h+1,j,bk,au,rfl,ag,ag,ag⟩
   .exact⟨_,ag,i,h,bk,au,rfl,ag,ag,ag⟩
  .have hi:i=BY q k:=by omega
   subst hi;(refine' cU)
   all_goals try refine cM
   all_goals exact⟨bk,au⟩
 .rintro l L ⟨hl,hL⟩;refine aq ?_;refine W.le ?_ hl hL;clear hl hL;have vy:=aba (a:=(q.getD (BY q k) ak.ah).id) (b:=k);(repeat' (first|refine' a7|refine' wo|((with_reducible apply WO.bI);exact aE;(first|exact λs=>Hn s _ _);intro _ _ _ _)|refine' aw|fail))
  ·(refine' ax)
   have h1:BY q k<q.length:=by omega
   show Value.tuple ⟨[iv (BY q k:Int),.bool (decide (L5 (q.getD (BY q k) ak.ah).id k=0))]⟩=_;refine fI (λb=>Value.tuple ⟨[_,.bool b]⟩) ?_;rw[Gg];exact⟨λh=>⟨h1,vy.1 h⟩,λh=>vy.2 h.2⟩
  ·(refine' ax)
   have h1:¬BY q k<q.length:=by omega
   exact fI (λb=>Value.tuple ⟨[_,.bool b]⟩) (gS (λh=>h1 h.1)).symm
theorem aec (s:St)(a:aK)(c:Nat)(q:List a6)(hs:kE q)(hq:q.length<=1000)(k:aA)(hr:bO s a q.length 2 (ai q)):bP 42 [.slice a q.length c,sv k,.func (.func 43) ⟨[]⟩ ⟨[]⟩] s (aj a) (.tuple ⟨[iv (BZ q k:Int),.bool (decide (BZ q k<q.length/\(q.getD (BZ q k) ak.ah).af=k))]⟩):=by
 have qI:=Rd.of (A:=aj a) hr λ_ hb=>hb
 have hle:=aeG q k;refine aU f42 ?_;(refine' cU)
 refine W.bN (λm l L=>∃(i j:Nat),Le [(0,.slice a q.length c),(1,sv k),(2,.func (.func 43) ⟨[]⟩ ⟨[]⟩),(8,iv (q.length:Int)),(9,iv (i:Int)),(10,iv (j:Int))] l/\cz [] L/\m=j-i/\i<=BZ q k/\BZ q k<=j/\j<=q.length)
  (λl L=>Le [(0,.slice a q.length c),(1,sv k),(2,.func (.func 43) ⟨[]⟩ ⟨[]⟩),(8,iv (q.length:Int)),(9,iv (BZ q k:Int))] l/\cz [] L) _ ⟨0,q.length,bk,au,rfl,ag,hle,cA _⟩ ?_ ?_
 .rintro m l L ⟨i,j,hl,hL,rfl,h1,h2,h3⟩;refine W.le ?_ hl hL;clear hl hL;by_cases mR:i<j
  .obtain⟨h,ZA,h4,h5⟩:∃h:Nat,((i:Int)+(j:Int))/ 2=(h:Int)/\i<=h/\h<j:=⟨(i+j)/ 2,ag,ag,ag⟩;have Cu:=(abb (a:=(q.getD h ak.ah).af) (b:=k)).trans (Ct hs k ak.ah (h:=h) ag);(repeat' (first|refine' a7|refine' wo|((with_reducible apply WO.bI);exact aE;(first|exact λs=>L6 s _ _);intro _ _ _ _)|((with_reducible apply WO.acS);exact gP;exact mO;intro _)|((with_reducible apply WO.acT);exact gP;exact mO;intro _)|((with_reducible apply WO.aid);exact gP;exact gP;assumption;exact mO;intro _)|refine' aw|fail))
   all_goals try refine cM
   .exact⟨_,ag,h+1,j,bk,au,rfl,ag,ag,ag⟩
   .exact⟨_,ag,i,h,bk,au,rfl,ag,ag,ag⟩
  .have hi:i=BZ q k:=by omega
   subst hi;(refine' cU)
   all_goals try refine cM
   all_goals exact⟨bk,au⟩
 .rintro l L ⟨hl,hL⟩;refine aq ?_;refine W.le ?_ hl hL;clear hl hL;have vy:=abc (a:=(q.getD (BZ q k) ak.ah).af) (b:=k);(repeat' (first|refine' a7|refine' wo|((with_reducible apply WO.bI);exact aE;(first|exact λs=>L6 s _ _);intro _ _ _ _)|refine' aw|fail))
  ·(refine' ax)
   have h1:BZ q k<q.length:=by omega
   show Value.tuple ⟨[iv (BZ q k:Int),.bool (decide (Ev.Ap (q.getD (BZ q k) ak.ah).af k=0))]⟩=_;refine fI (λb=>Value.tuple ⟨[_,.bool b]⟩) ?_;rw[Gg];exact⟨λh=>⟨h1,vy.1 h⟩,λh=>vy.2 h.2⟩
  ·(refine' ax)
   have h1:¬BZ q k<q.length:=by omega
   exact fI (λb=>Value.tuple ⟨[_,.bool b]⟩) (gS (λh=>h1 h.1)).symm
theorem SS (s:St)(a b c:Int):bP 29 [iv a,iv b,iv c] s [] (.bool (fR a b c)):=by
 refine aU f29 ?_;(refine' cU)
 all_goals(refine' ax)
 .show Value.bool (decide (a<=c))= .bool (fR a b c);unfold fR;simp[um]
 .show Value.bool false= .bool (fR a b c);unfold fR;simp;omega
def oI:Option Nat->Int
 |none=>-1
 |some k=>(k:Int)
def dQ:aA->Option Nat
 |[]=>none
 |c::s=>match dQ s with
  |some i=>some (i+1)
  |none=>if c=47 then some 0 else none
theorem va:∀z:aA,(∀j,j<z.length->z.getD j 0≠47)->dQ z=none
 |[],_=>rfl
 |c::z,h=>by
  unfold dQ;rw[va z λj hj=>by have:=h (j+1) (by simpa using hj);simpa using this];have:=h 0 (by simp);exact if_neg (by simpa using this)
theorem Bs:∀(z:aA)(i:Nat),i<z.length->z.getD i 0=47->(∀j,i<j->j<z.length->z.getD j 0≠47)->dQ z=some i
 |[],i,h,_,_=>by simp at h
 |c::z,0,_,h1,h2=>by
  unfold dQ;rw[va z λj hj=>by have:=h2 (j+1) ag (by simpa using hj);simpa using this];exact if_pos (by simpa using h1)
 |c::z,i+1,h,h1,h2=>by
  unfold dQ;rw[Bs z i (by simpa using h) (by simpa using h1) λj hj Sf=>by have:=h2 (j+1) ag (by simpa using Sf);simpa using this]
theorem pO:∀(z:aA)(i:Nat),dQ z=some i->i<z.length
 |[],i,h=>by cases h
 |c::z,i,h=>by
  unfold dQ at h;split at h
  .rename_i j hj;have:=pO z j hj;cases h
   simpa using this
  .split at h
   .cases h;simp
   .cases h
theorem L7 (s:St)(z:aA)(hz:z.length<=100000):bP 102 [sv z,.int .u8 47] s [] (iv (oI (dQ z))):=by
 refine aU f102 ?_;(refine' cU)
 refine W.bN (λm l L=>∃(i:Int),Le [(0,sv z),(1,.int .u8 47),(5,iv i)] l/\cz [] L/\m=(i+1).toNat/\ -1<=i/\i<z.length/\∀j:Nat,i<j->j<z.length->z.getD j 0≠47)
  (λl L=>Le [] l/\cz [] L/\dQ z=none) _ ⟨(z.length:Int)-1,bk,au,rfl,ag,ag,λj h1 h2=>by omega⟩ ?_ ?_
 .rintro m l L ⟨i,hl,hL,rfl,h1,h2,h3⟩;refine W.le ?_ hl hL;clear hl hL;(refine' cU)
  .have e:dQ z=some i.toNat:=Bs z i.toNat ag (w6.1 (by show _=47;omega)) λj hj Sf=>h3 j ag Sf
   (refine' ax)
   show iv i=_;rw[e];show iv i=iv ((i.toNat:Nat):Int);rw[yi ag]
  .refine⟨_,ag,i-1,bk,au,rfl,ag,ag,λj hj Sf=>?_⟩;by_cases wK:(j:Int)=i
   .have:i.toNat=j:=by omega
    rw[this] at j3;intro he;rw[he] at j3;exact j3 rfl
   .exact h3 j ag Sf
  .exact⟨bk,au,va z λj hj=>h3 j ag hj⟩
 .rintro l L ⟨hl,hL,h3⟩;refine aq ?_;refine W.le ?_ hl hL;clear hl hL;rw[h3];(refine' cU)
  all_goals(refine' ax)
  all_goals rfl
theorem O2 (s:St)(z:aA)(hz:z.length<=100000):bP 67 [sv z,.int .u8 47] s [] (iv (oI (dQ z))):=by
 refine aU f67 ?_;(repeat' (first|refine' a7|((with_reducible apply WO.bI);exact aE;(first|exact λs=>L7 s _ ag);intro _ _ _ _)|refine' aw|fail))
 all_goals(refine' ax)
 all_goals rfl
def av (z:aA):aA×aA:=match dQ z with
 |none=>([],[])
 |some i=>(z.take (max i 1),z.drop (i+1))
theorem Wx (s:St)(z:aA)(hz:z.length<=100000):bP 31 [sv z] s [] (.tuple ⟨[sv (av z).1,sv (av z).2]⟩):=by
 have SV:∀s,bP 67 [sv z,.int .u8 47] s [] (iv (oI (dQ z))):=λs=>O2 s z hz
 unfold av;cases h:dQ z with
 |none=>
  rw[h] at SV;have SV:∀s,bP 67 [sv z,.int .u8 47] s [] (iv (-1)):=SV;refine aU f31 ?_;(repeat' (first|refine' a7|((with_reducible apply WO.bI);exact aE;(first|exact λs=>SV s);intro _ _ _ _)|refine' aw|fail))
  all_goals try refine cM
  all_goals(refine' ax)
  all_goals rfl
 |some i=>
  rw[h] at SV;have SV:∀s,bP 67 [sv z,.int .u8 47] s [] (iv (i:Int)):=SV;have du:=pO z i h;refine aU f31 ?_;(repeat' (first|refine' a7|((with_reducible apply WO.bI);exact aE;(first|exact λs=>SV s);intro _ _ _ _)|refine' aw|fail))
  all_goals try refine cM
  all_goals(refine' ax)
  all_goals(show Value.tuple ⟨[sv (z.take (max (i:Int) 1).toNat),sv (z.drop ((i:Int)+1).toNat)]⟩=_;rw[show(max (i:Int) 1).toNat=max i 1 by omega,show((i:Int)+1).toNat=i+1 by omega])
end Go.Pl
namespace Go.Pl
open Go.Lg
abbrev cu:a6:=ak.ah (α:=a6)
abbrev ec:bC:=ak.ah (α:=bC)
structure Acc where
 li:List (Int×Int)
 nE:List (aA×Int)
 fo:List (aA×Bool)
def tB (q:eG)(i:Nat):Bool:=fR (q.getD i ec).id 0 15&&!(decide (0<i)&&decide ((q.getD i ec).id<=(q.getD (i-1) ec).id))&&!((q.getD i ec).aD&&decide ((q.getD i ec).aW≠[]))&&!decide (192<(q.getD i ec).aW.length)
def vb (x:a6)(fo:Bool)(A:Acc):Option Acc:=
 if 9<(dr (ew A.li x.id ((dr A.li x.id).getD 0+1)) x.id).getD 0\/(fo=true/\1<(dr (ew A.li x.id ((dr A.li x.id).getD 0+1)) x.id).getD 0) then none else some ⟨ew A.li x.id ((dr A.li x.id).getD 0+1),A.nE,ew A.fo x.af fo⟩
def iIn (x:a6)(A:Acc):Option Acc:=
 if(dr A.fo (av x.af).1).getD false=false\/bG (av x.af).2=false then none else
 if 12<(dr (ew A.nE (av x.af).1 ((dr A.nE (av x.af).1).getD 0+1)) (av x.af).1).getD 0 then none else some ⟨A.li,ew A.nE (av x.af).1 ((dr A.nE (av x.af).1).getD 0+1),A.fo⟩
def iu (p:List a6)(q:eG)(i:Nat)(A:Acc):Option Acc:=match kM q (p.getD i cu).id with
 |none=>none
 |some t=>
  if 0<i/\bL (p.getD (i-1) cu).af (p.getD i cu).af=false then none else
  match if 0<i then iIn (p.getD i cu) A else some A with
  |none=>none
  |some A=>vb (p.getD i cu) (q.getD t ec).aD A
def XJ (p:List a6)(q:eG):Nat->Nat->Acc->Option Acc
 |0,_,A=>some A
 |n+1,i,A=>match iu p q i A with
  |none=>none
  |some A=>XJ p q n (i+1) A
def Q2 (f:Flat):Bool:=fR f.ae.length 1 16&&decide (f.ad.length≠0)&&decide (f.ad.getD 0 cu=⟨[47],0⟩)&&(List.range f.ae.length).all (tB f.ae)&&decide ((f.ae.getD 0 ec).id=0)&&(f.ae.getD 0 ec).aD&&match XJ f.ad f.ae f.ad.length 0 ⟨[],[],[]⟩ with
 |none=>false
 |some A=>decide (A.li.length=f.ae.length)
theorem vM {q:eG}(h:∀i,i<q.length->tB q i=true):gi q:=by
 have h1:∀i,i+1<q.length->(q.getD i ec).id<(q.getD (i+1) ec).id:=λi hi=>by
  have:=h (i+1) hi;unfold tB at this;simp at this;have:=this.1.1.2;simp;omega
 have h2:∀n i,i+n+1<q.length->(q.getD i ec).id<(q.getD (i+n+1) ec).id:=λn=>by
  induction n with
  |zero=>exact h1
  |succ n ih=>exact λi hi=>Int.lt_trans (ih i ag) (h1 (i+n+1) hi)
 refine tV.2 λi j hi hj mR=>?_
 have:=h2 (j-i-1) i ag;rw[show i+(j-i-1)+1=j by omega,aR,bd hi,aR,bd hj] at this;exact this
theorem fV (z:aA):∀c∈(av z).2,c∈z:=λc hc=>by
 unfold av at hc;split at hc
 .cases hc
 .exact List.mem_of_mem_drop hc
section
variable {κ ν:Type}[DecidableEq κ]
theorem zj:∀(m:List (κ×ν))(k:κ),(dr m k).isSome=true↔k∈m.map Prod.fst
 |[],k=>by simp[dr]
 |p::m,k=>by
  unfold dr;rw[vp,bR];by_cases h:k=p.1
  .rw[if_pos h];simp[h]
  .rw[if_neg h,zj m k];simp[h]
theorem Ho:∀(m:List (κ×ν))(k:κ)(v:ν),(ew m k v).map Prod.fst=if(dr m k).isSome then m.map Prod.fst else m.map Prod.fst++[k]
 |[],k,v=>rfl
 |p::m,k,v=>by
  unfold ew dr;by_cases h:k=p.1
  .rw[if_pos h,if_pos h];simp[h]
  .rw[if_neg h,if_neg h,vp,Ho m k v];split<;>simp
theorem O3 (m:List (κ×ν))(k:κ)(v:ν)(h:(m.map Prod.fst).Nodup):((ew m k v).map Prod.fst).Nodup:=by
 rw[Ho];split
 .exact h
 .rename_i hk;rw[qP];refine⟨h,by simp,λa ha b hb e=>?_⟩;rw[gR] at hb;subst hb;subst e;exact hk ((zj m a).2 ha)
end
def tH (p:List a6)(q:eG)(k:Nat):Bool:=match kM q (p.getD k cu).id with
 |none=>false
 |some t=>(q.getD t ec).aD
def cN (p:List a6)(i:Nat)(z:aA):Nat:=(List.range i).countP λj=>decide (1<=j)&&decide ((av (p.getD j cu).af).1=z)
def cL (p:List a6)(i:Nat)(n:Int):Nat:=(List.range i).countP λj=>decide ((p.getD j cu).id=n)
theorem tI (p:List a6)(i:Nat)(n:Int):cL p (i+1) n=cL p i n+if(p.getD i cu).id=n then 1 else 0:=by
 unfold cL;rw[AZ,A1,List.countP_singleton];simp
theorem zk (p:List a6)(i:Nat)(z:aA):cN p (i+1) z=cN p i z+if 1<=i/\(av (p.getD i cu).af).1=z then 1 else 0:=by
 unfold cN;rw[AZ,A1,List.countP_singleton];simp
def XK (p:List a6)(q:eG)(i:Nat):Prop:=
 (kM q (p.getD i cu).id).isSome=true/\(1<=i->bL (p.getD (i-1) cu).af (p.getD i cu).af=true/\(∃k,k<i/\(p.getD k cu).af=(av (p.getD i cu).af).1/\tH p q k=true)/\bG (av (p.getD i cu).af).2=true/\cN p (i+1) (av (p.getD i cu).af).1<=12)/\cL p (i+1) (p.getD i cu).id<=9/\(tH p q i=true->cL p (i+1) (p.getD i cu).id<=1)
structure zl (p:List a6)(q:eG)(i:Nat)(A:Acc):Prop where
 li:∀n,(dr A.li n).getD 0=(cL p i n:Int)
 lk:∀n,n∈A.li.map Prod.fst↔∃j,j<i/\(p.getD j cu).id=n
 ln:(A.li.map Prod.fst).Nodup
 nE:∀z,(dr A.nE z).getD 0=(cN p i z:Int)
 fo:∀z,(dr A.fo z).getD false=true↔∃k,k<i/\(p.getD k cu).af=z/\tH p q k=true
 so:∀j,1<=j->j<i->bL (p.getD (j-1) cu).af (p.getD j cu).af=true
theorem XL {p:List a6}{i:Nat}(h:∀j,1<=j->j<i->bL (p.getD (j-1) cu).af (p.getD j cu).af=true):∀(n a:Nat),a+n+1<i->bL (p.getD a cu).af (p.getD (a+n+1) cu).af=true
 |0,a,hl=>h (a+1) ag hl
 |n+1,a,hl=>eU _ _ _ (XL h n a ag) (h (a+n+2) ag hl)
theorem acU {p:List a6}{i:Nat}(h:∀j,1<=j->j<i->bL (p.getD (j-1) cu).af (p.getD j cu).af=true){a b:Nat}(kK:a<b)(hb:b<i):(p.getD a cu).af≠(p.getD b cu).af:=by
 have:=XL h (b-a-1) a ag;rw[show a+(b-a-1)+1=b by omega] at this;exact np this
theorem O4 {p:List a6}{q:eG}{i:Nat}{A:Acc}{t:Nat}(ht:kM q (p.getD i cu).id=some t)(hli:∀n,(dr A.li n).getD 0=(cL p i n:Int)):
  vb (p.getD i cu) (q.getD t ec).aD A=if cL p (i+1) (p.getD i cu).id<=9/\(tH p q i=true->cL p (i+1) (p.getD i cu).id<=1) then some ⟨ew A.li (p.getD i cu).id (cL p (i+1) (p.getD i cu).id:Int),A.nE,ew A.fo (p.getD i cu).af (tH p q i)⟩ else none:=by
 have hfb:tH p q i=(q.getD t ec).aD:=by unfold tH;rw[ht]
 have hc:(dr A.li (p.getD i cu).id).getD 0+1=(cL p (i+1) (p.getD i cu).id:Int):=by rw[hli,tI,if_pos rfl];omega
 unfold vb;rw[hc,n4,if_pos rfl,<-hfb];show(if 9<(cL p (i+1) (p.getD i cu).id:Int)\/_ then _ else _)=_;by_cases h:cL p (i+1) (p.getD i cu).id<=9/\(tH p q i=true->cL p (i+1) (p.getD i cu).id<=1)
 .rw[if_pos h,if_neg];rintro(h1|⟨h1,h2⟩)
  .have:=h.1;omega
  .have h2:(1:Int)<(cL p (i+1) (p.getD i cu).id:Int):=h2;have:=h.2 h1;omega
 .rw[if_neg h,if_pos];refine lT λhn=>h ⟨?_,λhf=>?_⟩
  .refine lT λh9=>hn (.inl ag)
  .refine lT λh9=>hn (.inr ⟨hf,?_⟩)
   show(1:Int)<(cL p (i+1) (p.getD i cu).id:Int);omega
theorem Hp {p:List a6}{q:eG}{i:Nat}{A:Acc}{nE:List (aA×Int)}(h:zl p q i A)(ak8:∀z,(dr nE z).getD 0=(cN p (i+1) z:Int))(WE:1<=i->bL (p.getD (i-1) cu).af (p.getD i cu).af=true):
  zl p q (i+1) ⟨ew A.li (p.getD i cu).id (cL p (i+1) (p.getD i cu).id:Int),nE,ew A.fo (p.getD i cu).af (tH p q i)⟩:=by
 have aie:∀j,1<=j->j<i+1->bL (p.getD (j-1) cu).af (p.getD j cu).af=true:=λj h1 h2=>by
  by_cases hj:j=i
  .subst hj;exact WE h1
  .exact h.so j h1 ag
 refine⟨λn=>?_,λn=>?_,O3 _ _ _ h.ln,ak8,λz=>?_,aie⟩
 .show(dr (ew A.li _ _) n).getD 0=_;rw[n4];by_cases hn:n=(p.getD i cu).id
  .rw[if_pos hn,hn];rfl
  .rw[if_neg hn,h.li,tI,if_neg (λe=>hn e.symm)];rfl
 .show n∈(ew A.li _ _).map Prod.fst↔_;rw[<-zj,n4];by_cases hn:n=(p.getD i cu).id
  .rw[if_pos hn];exact⟨λ_=>⟨i,ag,hn.symm⟩,λ_=>rfl⟩
  .rw[if_neg hn,zj,h.lk];constructor
   .rintro⟨j,h1,h2⟩;exact⟨j,ag,h2⟩
   .rintro⟨j,h1,h2⟩;by_cases hj:j=i
    .subst hj;exact absurd h2.symm hn
    .exact⟨j,ag,h2⟩
 .show(dr (ew A.fo _ _) z).getD false=true↔_;rw[n4];by_cases hz:z=(p.getD i cu).af
  .rw[if_pos hz];constructor
   .intro hf;exact⟨i,ag,hz.symm,hf⟩
   .rintro⟨k,h1,h2,h3⟩;by_cases hk:k=i
    .subst hk;exact h3
    .exact absurd (h2.trans hz) (acU aie (show k<i by omega) ag)
  .rw[if_neg hz,h.fo];constructor
   .rintro⟨k,h1,h2⟩;exact⟨k,ag,h2⟩
   .rintro⟨k,h1,h2,h3⟩;by_cases hk:k=i
    .subst hk;exact absurd h2.symm hz
    .exact⟨k,ag,h2,h3⟩
theorem L8 {p:List a6}{q:eG}{i:Nat}{A:Acc}(h:zl p q i A):
  (XK p q i->∃A',iu p q i A=some A'/\zl p q (i+1) A')/\(¬XK p q i->iu p q i A=none):=by
 unfold iu;cases ht:kM q (p.getD i cu).id with
 |none=>exact⟨λhc=>(by have:=hc.1;rw[ht] at this;cases this),λ_=>rfl⟩
 |some t=>
  dsimp only;have L9:=λ(nE:List (aA×Int))=>O4 (A:=⟨A.li,nE,A.fo⟩) ht h.li
  by_cases hi:0<i
  .by_cases du:bL (p.getD (i-1) cu).af (p.getD i cu).af=true
   .rw[if_neg (λe=>by rw[du] at e;cases e.2),if_pos hi];unfold iIn;have hc:(dr A.nE (av (p.getD i cu).af).1).getD 0+1=(cN p (i+1) (av (p.getD i cu).af).1:Int):=by rw[h.nE,zk,if_pos ⟨hi,rfl⟩];omega
    rw[hc];by_cases h1:(dr A.fo (av (p.getD i cu).af).1).getD false=false\/bG (av (p.getD i cu).af).2=false
    .rw[if_pos h1];refine⟨λhn=>?_,λ_=>rfl⟩;obtain⟨_,hk,qE,_⟩:=hn.2.1 hi;rcases h1 with h1|h1
     .rw[(h.fo _).2 hk] at h1;cases h1
     .rw[qE] at h1;cases h1
    .rw[if_neg h1,n4,if_pos rfl];have hk:=(h.fo (av (p.getD i cu).af).1).1 (by cases hb:(dr A.fo (av (p.getD i cu).af).1).getD false with|true=>rfl|false=>exact absurd (.inl hb) h1);have qE:bG (av (p.getD i cu).af).2=true:=by cases hb:bG (av (p.getD i cu).af).2 with|true=>rfl|false=>exact absurd (.inr hb) h1
     simp only[pV];by_cases Ai:cN p (i+1) (av (p.getD i cu).af).1<=12
     .rw[if_neg ag];dsimp only;rw[L9];by_cases hl:cL p (i+1) (p.getD i cu).id<=9/\(tH p q i=true->cL p (i+1) (p.getD i cu).id<=1)
      .rw[if_pos hl];refine⟨λ_=>⟨_,rfl,Hp (A:=A) h (λz=>?_) λ_=>du⟩,λhn=>absurd ⟨by rw[ht];rfl,λ_=>⟨du,hk,qE,Ai⟩,hl⟩ hn⟩;rw[n4];by_cases hz:z=(av (p.getD i cu).af).1
       .rw[if_pos hz,hz];rfl
       .rw[if_neg hz,h.nE,zk,if_neg (λe=>hz e.2.symm)];rfl
      .rw[if_neg hl];exact⟨λhn=>absurd hn.2.2 hl,λ_=>rfl⟩
     .rw[if_pos ag];exact⟨λhn=>absurd (hn.2.1 hi).2.2.2 Ai,λ_=>rfl⟩
   .rw[if_pos ⟨hi,by simpa using du⟩];exact⟨λhn=>absurd (hn.2.1 hi).1 du,λ_=>rfl⟩
  .rw[if_neg (λe=>hi e.1),if_neg hi];dsimp only;rw[L9];by_cases hl:cL p (i+1) (p.getD i cu).id<=9/\(tH p q i=true->cL p (i+1) (p.getD i cu).id<=1)
   .rw[if_pos hl];refine⟨λ_=>⟨_,rfl,Hp h (λz=>?_) λe=>absurd e hi⟩,λhn=>absurd ⟨by rw[ht];rfl,λe=>absurd e hi,hl⟩ hn⟩;rw[h.nE,zk,if_neg (λe=>hi e.1)];rfl
   .rw[if_neg hl];exact⟨λhn=>absurd hn.2.2 hl,λ_=>rfl⟩
theorem XM {p:List a6}{q:eG}:∀(n i:Nat)(A:Acc),zl p q i A->
  ((∀j,i<=j->j<i+n->XK p q j)->∃A',XJ p q n i A=some A'/\zl p q (i+n) A')/\((∃j,i<=j/\j<i+n/\¬XK p q j)->XJ p q n i A=none)
 |0,i,A,h=>⟨λ_=>⟨A,rfl,h⟩,λ⟨j,h1,h2,_⟩=>by omega⟩
 |n+1,i,A,h=>by
  have hs:=L8 h;unfold XJ;by_cases hc:XK p q i
  .obtain⟨A',h1,h2⟩:=hs.1 hc;rw[h1];have ih:=XM n (i+1) A' h2;refine⟨λbS=>?_,λ⟨j,h3,h4,h5⟩=>ih.2 ⟨j,?_,ag,h5⟩⟩
   .obtain⟨A'',h3,h4⟩:=ih.1 λj h3 h4=>bS j ag ag
    exact⟨A'',h3,by rw[show i+(n+1)=i+1+n by omega];exact h4⟩
   .by_cases hj:j=i
    .subst hj;exact absurd hc h5
    .omega
  .rw[hs.2 hc];exact⟨λbS=>absurd (bS i (cA _) ag) hc,λ_=>rfl⟩
theorem XN (p:List a6)(q:eG):zl p q 0 ⟨[],[],[]⟩:=
 ⟨λn=>rfl,λn=>⟨λh=>(by cases h),λ⟨j,h,_⟩=>ag⟩,CE,λz=>rfl,λz=>⟨λh=>(by cases h),λ⟨j,h,_⟩=>ag⟩,λj h1 h2=>by omega⟩
section
variable {s:aA}{j i B t:Nat}{n:Int}{q:eG}{f:Flat}
def sE (z:aA):Prop:=z.take 2=[47,47]->z.length=2
theorem Ei:∀(s:aA)(i a:Nat),tq i a s=match dQ s with
  |none=>a
  |some j=>i+j
 |[],i,a=>rfl
 |c::s,i,a=>by
  unfold tq dQ;rw[Ei s];cases dQ s with
  |some j=>show i+1+j=i+(j+1);omega
  |none=>
   by_cases h:c=47
   .rw[if_pos h,if_pos h];rfl
   .rw[if_neg h,if_neg h]
theorem vN:∀(z:aA)(i:Nat),dQ z=some i->z.getD i 0=47
 |[],i,h=>by cases h
 |c::z,i,h=>by
  unfold dQ at h;split at h
  .rename_i j hj;cases h
   rw[AY];exact vN z j hj
  .split at h
   .rename_i hc;cases h;simpa using hc
   .cases h
theorem AI:∀(z:aA),dQ z=none->∀c∈z,c≠47
 |[],_,c,hc=>by cases hc
 |x::z,h,c,hc=>by
  unfold dQ at h;split at h
  .cases h
  .rename_i hz;split at h
   .cases h
   .rename_i hx;rcases bR.1 hc with rfl|hc
    .exact hx
    .exact AI z hz c hc
theorem Ma (h:dQ s=some j):aP s=av s:=by
 have hl:=pO s j h;have hs:tt s=j:=by unfold tt;rw[Ei,h];simp
 have OV:=vN s j h;unfold aP av;rw[hs,h];by_cases hj:j=0
 .subst hj;rw[if_pos rfl];cases s with
  |nil=>simp at hl
  |cons c s=>
   have:c=47:=by simpa using OV
   subst this;simp
 .rw[if_neg hj];simp[Nat.max_eq_left (show 1<=j by omega)]
def Hq (r:aA×aA):aA:=if r.1=[47] then 47::r.2 else r.1++47::r.2
theorem XO (hn:sE s):(Hq (aP s)=s/\bG (aP s).2=true)↔bG (av s).2=true:=by
 cases h:dQ s with
 |none=>
  have ha:av s=([],[]):=by unfold av;rw[h]
  rw[ha];refine⟨λ⟨h1,_⟩=>?_,λh1=>by cases h1⟩;exfalso;have hm:(47:UInt8)∈s:=by
   rw[<-h1];unfold Hq;split<;>simp
  exact AI s h 47 hm rfl
 |some j=>
  rw[Ma h];have hl:=pO s j h;have OV:=vN s j h;have ni:s.take j++47::s.drop (j+1)=s:=by
   rw[aR,bd hl] at OV;have OV:s[j]=47:=OV;rw[<-OV,<-wA hl,yd]
  refine⟨λh1=>h1.2,λh1=>⟨?_,h1⟩⟩;by_cases hj:j=0
  .subst hj;have ha:av s=([47],s.drop 1):=by
    unfold av;rw[h];cases s with
    |nil=>simp at hl
    |cons c s=>
     have:c=47:=by simpa using OV
     subst this;rfl
   rw[ha];unfold Hq;rw[if_pos rfl];simpa using ni
  .have ha:av s=(s.take j,s.drop (j+1)):=by
    unfold av;rw[h];show(s.take (max j 1),_)=_;rw[Nat.max_eq_left (show 1<=j by omega)]
   rw[ha] at h1⊢;unfold Hq;dsimp only at h1⊢;by_cases hb:s.take j=[47]
   .exfalso;have hj1:j=1:=by
     have:=fI List.length hb;rw[cZ] at this;simp at this;omega
    subst hj1;have h2:s.take 2=[47,47]:=by
     rw[<-ni,hb];rfl
    have c8:=hn h2;have:s.drop (1+1)=[]:=ye ag;rw[this] at h1;cases h1
   .rw[if_neg hb];exact ni
theorem pF (h:bG (av s).2=true):aP s=av s:=by
 cases hl:dQ s with
 |none=>unfold av at h;rw[hl] at h;cases h
 |some j=>exact Ma hl
theorem pP {α:Type}(P:α->Bool)(d:α):∀l:List α,(List.range l.length).countP (λj=>P (l.getD j d))=l.countP P
 |[]=>rfl
 |x::l=>by
  rw[cY,List.range_succ_eq_map,iC,List.countP_map,iC,<-pP P d l];rfl
theorem XP {α:Type}(P:α->Bool)(d:α)(l:List α):(List.range l.length).countP (λj=>decide (1<=j)&&P (l.getD j d))=l.tail.countP P:=by
 cases l with
 |nil=>rfl
 |cons x l=>
  rw[cY,List.range_succ_eq_map,iC,List.countP_map,List.tail_cons,<-pP P d l];simp[Function.comp_def]
theorem O5 (f:Flat)(n:Int):cL f.ad f.ad.length n=f.many n:=pP (λx:a6=>decide (x.id=n)) cu f.ad
theorem XQ (p:List a6)(z:aA):cN p p.length z=p.tail.countP λx=>decide ((av x.af).1=z):=XP (λx:a6=>decide ((av x.af).1=z)) cu p
theorem Cv (p:List a6)(n:Int)(h:i<=j):cL p i n<=cL p j n:=by
 induction j with
 |zero=>rw[show i=0 by omega];exact cA _
 |succ j ih=>
  by_cases hi:i=j+1
  .rw[hi];exact cA _
  .have:=ih ag;rw[tI];omega
theorem Q3 (p:List a6)(z:aA)(h:i<=j):cN p i z<=cN p j z:=by
 induction j with
 |zero=>rw[show i=0 by omega];exact cA _
 |succ j ih=>
  by_cases hi:i=j+1
  .rw[hi];exact cA _
  .have:=ih ag;rw[zk];omega
theorem Ej {p:List a6}:∀i,(∀j,j<i->(p.getD j cu).id=n->cL p (j+1) n<=B)->cL p i n<=B
 |0,_=>iJ _
 |i+1,h=>by
  by_cases hi:(p.getD i cu).id=n
  .exact h i ag hi
  .rw[tI,if_neg hi];exact Ej i λj hj=>h j ag
theorem O6 {p:List a6}{z:aA}:∀i,(∀j,1<=j->j<i->(av (p.getD j cu).af).1=z->cN p (j+1) z<=B)->cN p i z<=B
 |0,_=>iJ _
 |i+1,h=>by
  by_cases hi:1<=i/\(av (p.getD i cu).af).1=z
  .exact h i hi.1 ag hi.2
  .rw[zk,if_neg hi];exact O6 i λj h1 hj=>h j h1 ag
theorem XR {p:List a6}(hj:j<i)(h:(p.getD j cu).id=n):1<=cL p i n:=by
 have h1:=Cv p n (show j+1<=i by omega);rw[tI,if_pos h] at h1;omega
theorem acV {p:List a6}:∀i,1<=cL p i n->∃j,j<i/\(p.getD j cu).id=n
 |0,h=>absurd h (by unfold cL;simp)
 |i+1,h=>by
  by_cases hi:(p.getD i cu).id=n
  .exact⟨i,ag,hi⟩
  .rw[tI,if_neg hi] at h;obtain⟨j,h1,h2⟩:=acV i h;exact⟨j,ag,h2⟩
structure ic (f:Flat):Prop where
 tl:fR f.ae.length 1 16=true
 t0:(f.ae.getD 0 ec).id=0
 tf:(f.ae.getD 0 ec).aD=true
 tb:∀i,i<f.ae.length->tB f.ae i=true
 n0:f.ad.length≠0
 nr:f.ad.getD 0 cu=⟨[47],0⟩
 nm:∀i,i<f.ad.length->XK f.ad f.ae i
 al:∀i,i<f.ae.length->∃j,j<f.ad.length/\(f.ad.getD j cu).id=(f.ae.getD i ec).id
theorem pQ {α:Type}[BEq α][LawfulBEq α]:∀(xs l:List α),xs.Nodup->(∀x∈xs,x∈l)->xs.length<=l.length
 |[],l,_,_=>iJ _
 |x::xs,l,h,hs=>by
  have hx:=hs x iV;have hn:=uA.1 h;have:=pQ xs (l.erase x) hn.2 λy hy=>(P6 (show y≠x from λe=>hn.1 (by rw[<-e];exact hy))).2 (hs y (lu _ hy))
  have hp:=Gh hx;rw[P7 hx] at this;rw[cY];omega
theorem dG {α:Type}{l:List α}(d:α)(h:i<l.length):l.getD i d∈l:=by
 rw[aR,bd h];exact qS h
theorem rK (h:kM q n=some t):t<q.length/\(q.getD t ec).id=n:=by
 obtain⟨h1,h2,_⟩:=oC.1 h;refine⟨h1,?_⟩;rw[aR,bd h1];simpa using h2
theorem Ek (hs:gi q)(h:t<q.length):kM q (q.getD t ec).id=some t:=by
 refine mF (d:=ec) h (by simp) λj hj e=>?_
 have:=qv hs ec hj h;rw[bQ] at e;omega
theorem Q4 {A:Acc}(hA:zl f.ad f.ae f.ad.length A)(hs:gi f.ae)(hn:∀i,i<f.ad.length->(kM f.ae (f.ad.getD i cu).id).isSome=true):
  A.li.length=f.ae.length↔∀i,i<f.ae.length->∃j,j<f.ad.length/\(f.ad.getD j cu).id=(f.ae.getD i ec).id:=by
 have jg:∀n∈A.li.map Prod.fst,n∈f.ae.map bC.id:=λn hm=>by
  obtain⟨j,hj,rfl⟩:=(hA.lk n).1 hm;obtain⟨t,ht⟩:=ju.1 (hn j hj);obtain⟨h1,h2⟩:=rK ht;exact kO.2 ⟨_,dG ec h1,h2⟩
 have BS:(f.ae.map bC.id).Nodup:=by
  rw[A3,A4];exact hs.imp λ{a b} h e=>by omega
 have hle:=pQ _ _ hA.ln jg;rw[ux,ux] at hle;constructor
 .intro he i hi;refine lT λqE=>?_
  have hm:(f.ae.getD i ec).id∈f.ae.map bC.id:=kO.2 ⟨_,dG ec hi,rfl⟩;have h2:∀n∈A.li.map Prod.fst,n∈(f.ae.map bC.id).erase (f.ae.getD i ec).id:=λn GC=>by
   refine(P6 λe=>qE ?_).2 (jg n GC);obtain⟨j,hj,h3⟩:=(hA.lk n).1 GC;exact⟨j,hj,h3.trans e⟩
  have h3:=pQ _ _ hA.ln h2;rw[P7 hm,ux,ux] at h3;omega
 .intro bS;have h2:=pQ (f.ae.map bC.id) (A.li.map Prod.fst) BS λn GC=>by
   obtain⟨x,hx,rfl⟩:=kO.1 GC;obtain⟨i,hi,rfl⟩:=iZ hx;obtain⟨j,hj,h3⟩:=bS i hi;refine(hA.lk _).2 ⟨j,hj,h3.trans ?_⟩;rw[aR,bd hi];rfl
  rw[ux,ux] at h2;omega
theorem zm (f:Flat):Q2 f=true↔ic f:=by
 unfold Q2;simp only[bU,bQ,gQ,lS];have hg:=XM f.ad.length 0 ⟨[],[],[]⟩ (XN f.ad f.ae);rw[nF] at hg;constructor
 .rintro⟨⟨⟨⟨⟨⟨h1,h2⟩,h3⟩,h4⟩,h5⟩,h6⟩,h7⟩;have bS:∀j,j<f.ad.length->XK f.ad f.ae j:=λj hj=>lT λhn=>by
   rw[hg.2 ⟨j,ag,hj,hn⟩] at h7;cases h7
  obtain⟨A,hA1,hA2⟩:=hg.1 λj _ hj=>bS j hj
  rw[hA1] at h7;have h7:A.li.length=f.ae.length:=by simpa using h7
  exact⟨h1,h5,h6,h4,h2,h3,bS,(Q4 hA2 (vM h4) λi hi=>(bS i hi).1).1 h7⟩
 .intro h;obtain⟨A,hA1,hA2⟩:=hg.1 λj _ hj=>h.nm j hj
  rw[hA1];refine⟨⟨⟨⟨⟨⟨h.tl,h.n0⟩,h.nr⟩,h.tb⟩,h.t0⟩,h.tf⟩,?_⟩;simpa using(Q4 hA2 (vM h.tb) λi hi=>(h.nm i hi).1).2 h.al
theorem Jm (f:Flat)(k:Nat):tH f.ad f.ae k=f.ig (f.ad.getD k ⟨[],0⟩).id:=by
 unfold tH Flat.ig;show(match f.cH (f.ad.getD k ⟨[],0⟩).id with|none=>false|some t=>(f.ae.getD t ⟨0,false,[]⟩).aD)=_;cases f.cH (f.ad.getD k ⟨[],0⟩).id<;>rfl
theorem tJ (f:Flat)(i:Nat):f.tu i=true↔tB f.ae i=true/\fR (f.many (f.ae.getD i ec).id) 1 (if(f.ae.getD i ec).aD then 1 else 9)=true:=by
 unfold Flat.tu tB;show(!(!fR (f.ae.getD i ec).id 0 15||(decide (0<i)&&decide ((f.ae.getD i ec).id<=(f.ae.getD (i-1) ec).id))||((f.ae.getD i ec).aD&&decide ((f.ae.getD i ec).aW≠[]))||decide (192<(f.ae.getD i ec).aW.length)||!fR (f.many (f.ae.getD i ec).id) 1 (if(f.ae.getD i ec).aD then 1 else 9)))=true↔_;generalize fR (f.ae.getD i ec).id 0 15=a;generalize(decide (0<i)&&decide ((f.ae.getD i ec).id<=(f.ae.getD (i-1) ec).id))=b;generalize((f.ae.getD i ec).aD&&decide ((f.ae.getD i ec).aW≠[]))=c;generalize decide (192<(f.ae.getD i ec).aW.length)=d;generalize fR (f.many (f.ae.getD i ec).id) 1 (if(f.ae.getD i ec).aD then 1 else 9)=e;cases a<;>cases b<;>cases c<;>cases d<;>cases e<;>simp
theorem Mb (f:Flat)(i:Nat):f.uS i=true↔∃k,f.dq (aP (f.ad.getD i cu).af).1=some k/\bL (f.ad.getD (i-1) cu).af (f.ad.getD i cu).af=true/\k<i/\Hq (aP (f.ad.getD i cu).af)=(f.ad.getD i cu).af/\bG (aP (f.ad.getD i cu).af).2=true/\(f.cH (f.ad.getD i cu).id).isSome=true/\f.ig (f.ad.getD k cu).id=true/\f.nD (f.ad.getD i cu).af<=12:=by
 have e:f.uS i=(match f.dq (aP (f.ad.getD i cu).af).1 with
  |none=>false
  |some k=>bL (f.ad.getD (i-1) cu).af (f.ad.getD i cu).af&&decide (k<i)&&decide (Hq (aP (f.ad.getD i cu).af)=(f.ad.getD i cu).af)&&bG (aP (f.ad.getD i cu).af).2&&(f.cH (f.ad.getD i cu).id).isSome&&f.ig (f.ad.getD k cu).id&&decide (f.nD (f.ad.getD i cu).af<=12)):=rfl
 rw[e];cases f.dq (aP (f.ad.getD i cu).af).1 with
 |none=>simp
 |some k=>simp[and_assoc]
theorem Jn (hP:∀x∈f.ad,sE x.af):f.ok=true↔ic f:=by
 have hP':∀i,i<f.ad.length->sE (f.ad.getD i cu).af:=λi hi=>hP _ (dG cu hi)
 have fF:f.ok=true↔(fR f.ae.length 1 16=true/\(f.ae.getD 0 ec).id=0/\(f.ae.getD 0 ec).aD=true/\∀i,i<f.ae.length->f.tu i=true)/\f.ad≠[]/\f.ad.getD 0 cu=⟨[47],0⟩/\(∀i,i<f.ad.length->i=0\/f.uS i=true)/\f.nD [47]<=12:=by
  have e:f.ok=((fR f.ae.length 1 16&&decide ((f.ae.getD 0 ec).id=0)&&(f.ae.getD 0 ec).aD&&(List.range f.ae.length).all f.tu)&&decide (f.ad≠[])&&decide (f.ad.getD 0 cu=⟨[47],0⟩)&&(List.range f.ad.length).all (λi=>decide (i=0)||f.uS i)&&decide (f.nD [47]<=12)):=rfl;rw[e];simp only[bU,mS,bQ,gQ,lS,and_assoc]
 rw[fF];have hcN:(∀i,1<=i->i<f.ad.length->bG (av (f.ad.getD i cu).af).2=true)->∀z,f.nD z=cN f.ad f.ad.length z:=λh z=>by
  rw[XQ];unfold Flat.nD;refine Gi λx hx=>?_
  have fK:f.ad≠[]:=λe=>by rw[e] at hx;cases hx
  obtain⟨j,hj,rfl⟩:=iZ hx;rw[List.length_tail] at hj;have:=pF (h (j+1) ag ag);rw[aR,bd ag] at this;have e:f.ad.tail[j]=f.ad[j+1]:=List.getElem_tail _;rw[e];have this:aP f.ad[j+1].af=av f.ad[j+1].af:=this;rw[this]
 constructor
 .rintro⟨⟨h1,h2,h3,h4⟩,h5,h6,h7,h8⟩;have htb:∀i,i<f.ae.length->tB f.ae i=true:=λi hi=>((tJ f i).1 (h4 i hi)).1
  have hs:=vM htb;have c8:0<f.ad.length:=oD.2 h5;have acW:0<f.ae.length:=by unfold fR at h1;simp at h1;omega
  have Fj:∀i,1<=i->i<f.ad.length->∃k,f.dq (aP (f.ad.getD i cu).af).1=some k/\bL (f.ad.getD (i-1) cu).af (f.ad.getD i cu).af=true/\k<i/\bG (av (f.ad.getD i cu).af).2=true/\aP (f.ad.getD i cu).af=av (f.ad.getD i cu).af/\(f.cH (f.ad.getD i cu).id).isSome=true/\f.ig (f.ad.getD k cu).id=true/\f.nD (f.ad.getD i cu).af<=12:=λi hi hl=>by
   obtain⟨k,g1,g2,g3,g4,g5,g6,g7,g8⟩:=(Mb f i).1 ((h7 i hl).resolve_left ag);have g9:=(XO (hP' i hl)).1 ⟨g4,g5⟩;exact⟨k,g1,g2,g3,g9,pF g9,g6,g7,g8⟩
  have aeJ:=hcN λi hi hl=>(Fj i hi hl).choose_spec.2.2.2.1
  have ku:∀i,i<f.ad.length->(kM f.ae (f.ad.getD i cu).id).isSome=true:=λi hl=>by
   by_cases hi:i=0
   .subst hi;rw[h6];show(kM f.ae 0).isSome=true;rw[<-h2,Ek hs acW];rfl
   .exact(Fj i ag hl).choose_spec.2.2.2.2.2.1
  have vc:∀i,i<f.ad.length->∀t,kM f.ae (f.ad.getD i cu).id=some t->cL f.ad (i+1) (f.ad.getD i cu).id<=if(f.ae.getD t ec).aD then 1 else 9:=λi hl t ht=>by
   obtain⟨g1,g2⟩:=rK ht;have:=((tJ f t).1 (h4 t g1)).2;rw[g2,<-O5] at this;have hm:=Cv f.ad (f.ad.getD i cu).id (show i+1<=f.ad.length by omega);simp only[fR,bU,bQ] at this;split<;>rename_i tE
   .rw[if_pos tE] at this;omega
   .rw[if_neg tE] at this;omega
  refine⟨h1,h2,h3,htb,ag,h6,λi hl=>⟨ku i hl,λhi=>?_,?_,λhf=>?_⟩,λt ht=>?_⟩
  .obtain⟨k,g1,g2,g3,g4,g5,g6,g7,g8⟩:=Fj i hi hl;obtain⟨q1,q2,_⟩:=oC.1 g1;have q3:(f.ad.getD k cu).af=(av (f.ad.getD i cu).af).1:=by
    rw[aR,bd q1,<-g5];simpa using q2
   refine⟨g2,⟨k,g3,q3,by rw[Jm];exact g7⟩,g4,?_⟩;refine ik (Q3 f.ad _ (show i+1<=f.ad.length by omega)) ?_;rw[<-aeJ,<-q3];by_cases hk:k=0
   .subst hk;rw[h6];exact h8
   .exact(Fj k ag ag).choose_spec.2.2.2.2.2.2.2
  .obtain⟨t,ht⟩:=ju.1 (ku i hl);have:=vc i hl t ht;split at this<;>omega
  .obtain⟨t,ht⟩:=ju.1 (ku i hl);have:=vc i hl t ht;unfold tH at hf;rw[ht] at hf;rw[if_pos hf] at this;exact this
  .have:=((tJ f t).1 (h4 t ht)).2;rw[<-O5] at this;simp only[fR,bU,bQ] at this;exact acV _ ag
 .intro h;have hs:=vM h.tb;have aeJ:=hcN λi hi hl=>((h.nm i hl).2.1 hi).2.2.1
  have Ai:∀z,f.nD z<=12:=λz=>by
   rw[aeJ];exact O6 _ λj h1 hj hz=>by rw[<-hz];exact((h.nm j hj).2.1 h1).2.2.2
  have WE:∀j,1<=j->j<f.ad.length->bL (f.ad.getD (j-1) cu).af (f.ad.getD j cu).af=true:=λj h1 hj=>((h.nm j hj).2.1 h1).1
  refine⟨⟨h.tl,h.t0,h.tf,λt ht=>(tJ f t).2 ⟨h.tb t ht,?_⟩⟩,λe=>h.n0 (by rw[e];rfl),h.nr,λi hl=>?_,Ai _⟩
  .obtain⟨j,hj,hid⟩:=h.al t ht;rw[<-O5];have h1:=XR hj hid;have hti:=Ek hs ht;have h9:cL f.ad f.ad.length (f.ae.getD t ec).id<=9:=Ej _ λj hj hid=>by rw[<-hid];exact(h.nm j hj).2.2.1
   have hf:(f.ae.getD t ec).aD=true->cL f.ad f.ad.length (f.ae.getD t ec).id<=1:=λtE=>Ej _ λj hj hid=>by
    have:=(h.nm j hj).2.2.2 (by unfold tH;rw[hid,hti];exact tE);rw[<-hid];exact this
   simp only[fR,bU,bQ];cases tE:(f.ae.getD t ec).aD with
   |true=>have:=hf tE;rw[if_pos rfl];omega
   |false=>rw[if_neg jT];omega
  .by_cases hi:i=0
   .exact .inl hi
   .right
    obtain⟨g1,⟨k,g2,g3,g4⟩,g5,g6⟩:=(h.nm i hl).2.1 ag;have g7:=pF g5;obtain⟨g8,g9⟩:=(XO (hP' i hl)).2 g5;refine(Mb f i).2 ⟨k,?_,g1,g2,g8,g9,(h.nm i hl).1,by rw[Jm] at g4;exact g4,Ai _⟩;rw[g7];refine mF (d:=cu) ag (by simpa using g3) λj hj e=>?_
    rw[bQ] at e;exact acU WE hj ag (e.trans g3.symm)
theorem aeK (hP:∀x∈f.ad,sE x.af):Q2 f=f.ok:=by
 rw[oZ,zm,Jn hP]
end
def gC (q:eG)(k:Int):Bool:=match kM q k with
 |none=>false
 |some t=>(q.getD t ec).aD
def dy (p:List a6)(z:aA):Int:=match sT p z with
 |none=>-1
 |some i=>(p.getD i cu).id
def inJ (p:List a6)(k:Int)(x:a6):Bool:=decide ((av x.af).2≠[])&&decide (dy p (av x.af).1=k)
def NJ (p:List a6)(k:Int):Nat:=p.countP (inJ p k)
def rQ (p:List a6)(k:Int):Nat:=p.countP λx=>decide (x.id=k)
def zU (q:eG):Nat->Nat->Int
 |0,_=>-1
 |n+1,k=>if(kM q (k:Int)).isNone then(k:Int) else zU q n (k+1)
def uw (p:List a6)(q:eG)(z:aA)(cC:Bool):Int:=
 if z=[47] then 3 else if dy p (Ev.db z)<0 then 2 else if gC q (dy p (Ev.db z))=false then 4 else if 0<=dy p z then 3 else
 if cC=true\/12<=NJ p (dy p (Ev.db z)) then 6 else 0
def jB (p:List a6)(q:eG)(o:Op):Int:=
 if o.kind=1\/o.kind=2 then uw p q o.af (decide (zU q 16 0<0)) else
 if dy p o.af<0 then 2 else
 if o.kind=3\/o.kind=4 then(if gC q (dy p o.af)=true then 4 else if 192<o.at_+o.aW.length then 6 else 0) else
 if o.kind=5 then(if dy p o.af=0\/(gC q (dy p o.af)=true/\0<NJ p (dy p o.af)) then 5 else 0) else
 if o.kind=6 then(if gC q (dy p o.af)=true then 4 else uw p q o.to (decide (9<=rQ p (dy p o.af)))) else
 if dy p o.af=0 then 5 else if 0<=dy p o.to then 3 else if under o.to o.af=true then 5 else if dy p (Ev.db o.to)<0 then 2 else if gC q (dy p (Ev.db o.to))=false then 4 else
 if dy p (Ev.db o.to)≠dy p (Ev.db o.af)/\12<=NJ p (dy p (Ev.db o.to)) then 6 else 0
def od (x z:aA):Option aA:=if z.length<=x.length/\x.take z.length=z then(if x.drop z.length=[]\/(x.drop z.length).getD 0 0=47 then some (x.drop z.length) else none) else none
def xJ (z to:aA)(x:a6):a6:=match od x.af z with
 |some r=>⟨to++r,x.id⟩
 |none=>x
def wQ (p:List a6)(q:eG)(z:aA)(k:Int):List a6×eG:=
 (p.filter λx=>!decide (x.af=z),if rQ (p.filter λx=>!decide (x.af=z)) k=0 then q.filter λx=>!decide (x.id=k) else q)
def uf (q:eG)(k:Int)(g:aA->aA):eG:=match kM q k with
 |none=>q
 |some t=>q.set t ⟨(q.getD t ec).id,(q.getD t ec).aD,g (q.getD t ec).aW⟩
def XS (t:aA)(n:Int):aA:=t++Ev.yL [0] (max 0 (n-t.length)).toNat
def wrJ (a:Int)(x t:aA):aA:=(XS t (a+x.length)).take a.toNat++x++(XS t (a+x.length)).drop (a.toNat+x.length)
def ctJ (a:Int)(t:aA):aA:=(XS t a).take a.toNat
def rR (p:List a6)(q:eG)(o:Op):List a6×eG:=
 if o.kind=1\/o.kind=2 then(p++[⟨o.af,zU q 16 0⟩],q++[⟨zU q 16 0,decide (o.kind=2),[]⟩]) else
 if o.kind=3 then(p,if o.aW=[] then q else uf q (dy p o.af) (wrJ o.at_ o.aW)) else
 if o.kind=4 then(p,uf q (dy p o.af) (ctJ o.at_)) else
 if o.kind=5 then wQ p q o.af (dy p o.af) else
 if o.kind=6 then(p++[⟨o.to,dy p o.af⟩],q) else(p.map (xJ o.af o.to),q)
def NK (p:List a6)(q:eG)(o:Op):Flat:=⟨Ev.gT (rR p q o).1,Ev.gZ (rR p q o).2⟩
section
variable {l:eG}
theorem qw:∀(a b:List a6),kE a->kE b->(∀x,x∈a↔x∈b)->a=b
 |[],[],_,_,_=>rfl
 |[],y::b,_,_,h=>by have:=(h y).2 iV;cases this
 |x::a,[],_,_,h=>by have:=(h x).1 iV;cases this
 |x::a,y::b,ha,hb,h=>by
  obtain⟨ha1,ha2⟩:=jS.1 ha;obtain⟨BQ,KN⟩:=jS.1 hb;have UM:x=y:=by
   rcases bR.1 ((h x).1 iV) with e|e
   .exact e
   .rcases bR.1 ((h y).2 iV) with e2|e2
    .exact e2.symm
    .have h1:=BQ x e;have h2:=ha1 y e2;have:=eU _ _ _ h1 h2;rw[kh] at this;cases this
  subst UM
  congr 1
  refine qw a b ha2 KN λz=>⟨λhz=>?_,λhz=>?_⟩
  .rcases bR.1 ((h z).1 (lu _ hz)) with e|e
   .subst e;have:=ha1 z hz;rw[kh] at this;cases this
   .exact e
  .rcases bR.1 ((h z).2 (lu _ hz)) with e|e
   .subst e;have:=BQ z hz;rw[kh] at this;cases this
   .exact e
theorem tK:∀(a b:eG),gi a->gi b->(∀x,x∈a↔x∈b)->a=b
 |[],[],_,_,_=>rfl
 |[],y::b,_,_,h=>by have:=(h y).2 iV;cases this
 |x::a,[],_,_,h=>by have:=(h x).1 iV;cases this
 |x::a,y::b,ha,hb,h=>by
  obtain⟨ha1,ha2⟩:=jS.1 ha;obtain⟨BQ,KN⟩:=jS.1 hb;have UM:x=y:=by
   rcases bR.1 ((h x).1 iV) with e|e
   .exact e
   .rcases bR.1 ((h y).2 iV) with e2|e2
    .exact e2.symm
    .have h1:=BQ x e;have h2:=ha1 y e2;omega
  subst UM
  congr 1
  refine tK a b ha2 KN λz=>⟨λhz=>?_,λhz=>?_⟩
  .rcases bR.1 ((h z).1 (lu _ hz)) with e|e
   .subst e;have:=ha1 z hz;omega
   .exact e
  .rcases bR.1 ((h z).2 (lu _ hz)) with e|e
   .subst e;have:=BQ z hz;omega
   .exact e
theorem El (x:a6):∀(l:List a6)(y:a6),y∈Ev.wj x l↔y=x\/y∈l
 |[],y=>by simp[Ev.wj]
 |z::l,y=>by
  unfold Ev.wj;split
  .simp
  .rw[bR,El x l,bR];constructor
   .rintro(h|h|h)
    .exact .inr (.inl h)
    .exact .inl h
    .exact .inr (.inr h)
   .rintro(h|h|h)
    .exact .inr (.inl h)
    .exact .inl h
    .exact .inr (.inr h)
theorem Em (x:bC):∀(l:eG)(y:bC),y∈Ev.wk x l↔y=x\/y∈l
 |[],y=>by simp[Ev.wk]
 |z::l,y=>by
  unfold Ev.wk;split
  .simp
  .rw[bR,Em x l,bR];constructor
   .rintro(h|h|h)
    .exact .inr (.inl h)
    .exact .inl h
    .exact .inr (.inr h)
   .rintro(h|h|h)
    .exact .inr (.inl h)
    .exact .inl h
    .exact .inr (.inr h)
theorem Hr (x:a6):∀(l:List a6),kE l->(∀y∈l,y.af≠x.af)->kE (Ev.wj x l)
 |[],_,_=>P8 _ _
 |z::l,h,hn=>by
  obtain⟨h1,h2⟩:=jS.1 h;unfold Ev.wj;split
  .rename_i du;exact jS.2 ⟨λy hy=>by
    rcases bR.1 hy with rfl|hy
    .exact du
    .exact eU _ _ _ du (h1 y hy),h⟩
  .rename_i du;have hzx:bL z.af x.af=true:=by
    refine' zba
   refine jS.2 ⟨λy hy=>?_,Hr x l h2 λy hy=>hn y (lu _ hy)⟩;rcases(El x l y).1 hy with rfl|hy
   .exact hzx
   .exact h1 y hy
theorem Hs (x:bC):∀(l:eG),gi l->(∀y∈l,y.id≠x.id)->gi (Ev.wk x l)
 |[],_,_=>P8 _ _
 |z::l,h,hn=>by
  obtain⟨h1,h2⟩:=jS.1 h;unfold Ev.wk;split
  .rename_i du;exact jS.2 ⟨λy hy=>by
    rcases bR.1 hy with rfl|hy
    .exact du
    .have:=h1 y hy;omega,h⟩
  .rename_i du;have fK:=hn z iV;refine jS.2 ⟨λy hy=>?_,Hs x l h2 λy hy=>hn y (lu _ hy)⟩;rcases(Em x l y).1 hy with rfl|hy
   .omega
   .exact h1 y hy
theorem iA:∀(l:List a6)(y:a6),y∈Ev.gT l↔y∈l
 |[],y=>Iff.rfl
 |x::l,y=>by
  show y∈Ev.wj x (Ev.gT l)↔_;rw[El,iA l,bR]
theorem jo:∀(l:eG)(y:bC),y∈Ev.gZ l↔y∈l
 |[],y=>Iff.rfl
 |x::l,y=>by
  show y∈Ev.wk x (Ev.gZ l)↔_;rw[Em,jo l,bR]
theorem og:∀(l:List a6),(l.map a6.af).Nodup->kE (Ev.gT l)
 |[],_=>P9
 |x::l,h=>by
  rw[vp,uA] at h;exact Hr x _ (og l h.2) λy hy e=>h.1 (kO.2 ⟨y,(iA l y).1 hy,e⟩)
theorem qy:∀(l:eG),(l.map bC.id).Nodup->gi (Ev.gZ l)
 |[],_=>P9
 |x::l,h=>by
  rw[vp,uA] at h;exact Hs x _ (qy l h.2) λy hy e=>h.1 (kO.2 ⟨y,(jo l y).1 hy,e⟩)
theorem kE.nodup {l:List a6}(h:kE l):(l.map a6.af).Nodup:=by
 rw[A3,A4];exact h.imp λ{a b} h=>np h
theorem gi.nodup (h:gi l):(l.map bC.id).Nodup:=by
 rw[A3,A4];exact h.imp λ{a b} h e=>by omega
theorem vd {l:List a6}(h:kE l):Ev.gT l=l:=qw _ _ (og l h.nodup) h λx=>iA l x
theorem nq (h:gi l):Ev.gZ l=l:=tK _ _ (qy l h.nodup) h λx=>jo l x
theorem gW:∀(l:List a6)(e x:a6),x∈Flat.gb l e↔x=e\/x∈l
 |[],e,x=>by simp[Flat.gb]
 |y::l,e,x=>by
  unfold Flat.gb;split
  .simp
  .rw[bR,gW l,bR];constructor
   .rintro(h|h|h)
    .exact .inr (.inl h)
    .exact .inl h
    .exact .inr (.inr h)
   .rintro(h|h|h)
    .exact .inr (.inl h)
    .exact .inl h
    .exact .inr (.inr h)
theorem vO:∀(l:List a6)(e:a6),kE l->(∀y∈l,y.af≠e.af)->kE (Flat.gb l e)
 |[],_,_,_=>P8 _ _
 |z::l,x,h,hn=>by
  obtain⟨h1,h2⟩:=jS.1 h;unfold Flat.gb;split
  .rename_i du;exact jS.2 ⟨λy hy=>by
    rcases bR.1 hy with rfl|hy
    .exact du
    .exact eU _ _ _ du (h1 y hy),h⟩
  .rename_i du;have hzx:bL z.af x.af=true:=by
    refine' zba
   refine jS.2 ⟨λy hy=>?_,vO l x h2 λy hy=>hn y (lu _ hy)⟩;rcases(gW l x y).1 hy with rfl|hy
   .exact hzx
   .exact h1 y hy
theorem ki:∀(l:eG)(e x:bC),x∈Flat.oN l e↔x=e\/x∈l
 |[],e,x=>by simp[Flat.oN]
 |y::l,e,x=>by
  unfold Flat.oN;split
  .rw[bR,ki l,bR];constructor
   .rintro(h|h|h)
    .exact .inr (.inl h)
    .exact .inl h
    .exact .inr (.inr h)
   .rintro(h|h|h)
    .exact .inr (.inl h)
    .exact .inl h
    .exact .inr (.inr h)
  .simp
theorem AJ:∀(l:eG)(e:bC),gi l->(∀y∈l,y.id≠e.id)->gi (Flat.oN l e)
 |[],_,_,_=>P8 _ _
 |z::l,x,h,hn=>by
  obtain⟨h1,h2⟩:=jS.1 h;have fK:=hn z iV;unfold Flat.oN;split
  .rename_i du;refine jS.2 ⟨λy hy=>?_,AJ l x h2 λy hy=>hn y (lu _ hy)⟩;rcases(ki l x y).1 hy with rfl|hy
   .omega
   .exact h1 y hy
  .rename_i du;exact jS.2 ⟨λy hy=>by
    rcases bR.1 hy with rfl|hy
    .omega
    .have:=h1 y hy;omega,h⟩
theorem oh {α β:Type}(g:α->β){l:List α}{e:α}(h:(l.map g).Nodup)(hn:∀y∈l,g y≠g e):((l++[e]).map g).Nodup:=by
 rw[J7,qP];refine⟨h,by simp,λa ha b hb=>?_⟩;obtain⟨y,hy,rfl⟩:=kO.1 ha;rw[vp,Ga,gR] at hb;subst hb;exact hn y hy
theorem xK {l:List a6}{e:a6}(h:kE l)(hn:∀y∈l,y.af≠e.af):Ev.gT (l++[e])=Flat.gb l e:=
 qw _ _ (og _ (oh a6.af h.nodup hn)) (vO l e h hn) λx=>by
  rw[iA,gW,eX,gR,or_comm]
theorem En {e:bC}(h:gi l)(hn:∀y∈l,y.id≠e.id):Ev.gZ (l++[e])=Flat.oN l e:=
 tK _ _ (qy _ (oh bC.id h.nodup hn)) (AJ l e h hn) λx=>by
  rw[jo,ki,eX,gR,or_comm]
theorem Q5:∀(l cO:List a6),kE cO->((cO++l).map a6.af).Nodup->kE (l.foldl Flat.gb cO)/\∀x,x∈l.foldl Flat.gb cO↔x∈cO++l
 |[],cO,h,_=>⟨h,λx=>by simp⟩
 |e::l,cO,h,hn=>by
  have fK:∀y∈cO,y.af≠e.af:=λy hy he=>by
   rw[J7,vp,qP] at hn;exact hn.2.2 _ (kO.2 ⟨y,hy,rfl⟩) _ iV he
  have hs:=vO cO e h fK;have BS:((Flat.gb cO e++l).map a6.af).Nodup:=by
   rw[J7,qP];rw[J7,vp,qP,uA] at hn;refine⟨hs.nodup,hn.2.1.2,λa ha b hb=>?_⟩;obtain⟨y,hy,rfl⟩:=kO.1 ha;rcases(gW _ _ _).1 hy with rfl|hy
   .intro e;subst e;exact hn.2.1.1 hb
   .exact hn.2.2 _ (kO.2 ⟨y,hy,rfl⟩) _ (lu _ hb)
  obtain⟨h1,h2⟩:=Q5 l (Flat.gb cO e) hs BS;refine⟨h1,λx=>(h2 x).trans ?_⟩;rw[eX,gW,eX,bR];constructor
  .rintro((h|h)|h)
   .exact .inr (.inl h)
   .exact .inl h
   .exact .inr (.inr h)
  .rintro(h|h|h)
   .exact .inl (.inr h)
   .exact .inl (.inl h)
   .exact .inr h
theorem O7 {l:List a6}(h:(l.map a6.af).Nodup):Ev.gT l=l.foldl Flat.gb []:=by
 obtain⟨h1,h2⟩:=Q5 l [] P9 (by simpa using h);exact qw _ _ (og l h) h1 λx=>by rw[iA,h2];simp
end
end Go.Pl
namespace Go.Pl
open Go Go.Ev Go.Lg Go.Proofs
abbrev iw (a:aK)(c:Nat)(p:List a6)(a':aK)(c':Nat)(q:eG):aQ:=[.slice a p.length c,.slice a' q.length c']
theorem WO.ad7 {E:dA}{X:dM}{Γ:ij}{l:Kn}{L:bE}{K:KO}{x:Operand}{t:TypeId}{b off m n sz:Nat}{cs r:aQ}[ht:wm E t m](hx:Ev l x (.pointer (some ⟨b,off,none⟩)))(hh:Rd Γ (jP b) n sz cs)(hv:iS m (Go.Ev.dY off cs)=some r)(k:∀n,K (.agg ⟨r⟩) L n n (λi=>i∈aj (jP b)) Z):WO E X Γ l (.load t x) L K:=λtm s h1 h2=>by
 refine' za2
 .cases hc
 .cases hc
 .cases hc
  refine fS.pure (v:=.agg ⟨r⟩) (s':=s.aV b) (λcall=>?_) ⟨L,(λi=>i∈aj (jP b)),Z,h2.aV (hm b (by simp[aj])),cX h3 (by simp[aj]),by rw[cw];exact k _⟩;show(Fa (aM tm x) λb o=>mq E s t b o)=_;rw[hx.eval h1];have:=wL h5 hv;rw[nF] at this;exact vD h4 this
theorem WO.Wt {E:dA}{X:dM}{Γ:ij}{l:Kn}{L:bE}{K:KO}{x:Operand}{t:TypeId}{b off n sz:Nat}{cs:aQ}{v:Value}[ht:nN E t](hx:Ev l x (.pointer (some ⟨b,off,none⟩)))(hh:Rd Γ (jP b) n sz cs)(hv:cs[off]?=some v)(k:∀n,K v L n n (λi=>i∈aj (jP b)) Z):WO E X Γ l (.load t x) L K:=λtm s h1 h2=>by
 refine' za2
 .cases hc
 .cases hc
 .cases hc
  refine fS.pure (v:=v) (s':=s.aV b) (λcall=>?_) ⟨L,(λi=>i∈aj (jP b)),Z,h2.aV (hm b (by simp[aj])),cX h3 (by simp[aj]),by rw[cw];exact k _⟩;show(Fa (aM tm x) λb o=>mq E s t b o)=_;rw[hx.eval h1];have:=Bf h5 hv;rw[nF] at this;exact tz h4 this
section
variable {E:dA}{X:dM}{Γ:ij}{l:Kn}{L R:bE}{K:KO}
theorem WO.nilCheck {x:Operand}{a:Addr}(hx:Ev l x (.pointer (some a)))(k:∀n,K (.pointer (some a)) L n n Z Z):WO E X Γ l (.nilCheck x) L K:=WO.val (λtm s call hl=>by
 show Gp E (aM tm x) s=_;rw[hx.eval hl];rfl) k
end
structure iQ (s:St)(b:Nat)(a:aK)(c:Nat)(p:List a6)(a':aK)(c':Nat)(q:eG):Prop where
 b:bO s (jP b) 1 2 (iw a c p a' c' q)
 n:bO s a p.length 2 (ai p)
 t:bO s a' q.length 3 (ai q)
structure uZ (Γ:ij)(L:bE)(b:Nat)(a:aK)(c:Nat)(p:List a6)(a':aK)(c':Nat)(q:eG):Prop where
 b:jY Γ L (jP b) 1 2 (iw a c p a' c' q)
 n:jY Γ L a p.length 2 (ai p)
 t:jY Γ L a' q.length 3 (ai q)
abbrev qN (b:Nat)(a a':aK):List Nat:=b::(aj a++aj a')
section
variable {E:dA}{X:dM}{Γ:ij}{l:Kn}{L R:bE}{K:KO}{g:FuncId}{xs:List Operand}{ts:Array TypeId}{vs:aQ}{b:Nat}{a a':aK}{c c':Nat}{p:List a6}{q:eG}{r:Value}{s:St}
theorem uZ.row (h:uZ Γ L b a c p a' c' q)(hi:Inv Γ s L):iQ s b a c p a' c' q/\∀i∈qN b a a',Fi Γ s i:=by
 refine⟨⟨(h.b.row hi).1,(h.n.row hi).1,(h.t.row hi).1⟩,λi hb=>?_⟩;rcases bR.1 hb with rfl|hb
 .exact(h.b.row hi).2 _ (by simp[aj])
 .rcases eX.1 hb with hb|hb
  .exact(h.n.row hi).2 i hb
  .exact(h.t.row hi).2 i hb
theorem WO.rH (hx:kL l xs vs)(h:∀s,iQ s b a c p a' c' q->qj E X g vs s (qN b a a') r)(hh:uZ Γ L b a c p a' c' q)(k:∀m m',kq L m->m<=m'->K r L m m' (λi=>i∈qN b a a'\/i∈([]:bE).flatMap It.aY\/(m<=i/\i<m')) (λi=>i∈([]:bE).flatMap It.aY\/(m<=i/\i<m'))):WO E X Γ l (.call ⟨.value (.func g),⟨xs⟩,ts⟩) L K:=
 WO.ub hx (λs hi=>⟨(hh.row hi).2,h s (hh.row hi).1⟩) k
theorem Ht.x (h:iQ s b a c p a' c' q):Rd ⟨s,([]:bE).flatMap It.aY,qN b a a'⟩ (jP b) 1 2 (iw a c p a' c' q):=Rd.of h.b λi hb=>by rw[show i=b by simpa[aj] using hb];exact iV
theorem Ht.n (h:iQ s b a c p a' c' q):Rd ⟨s,([]:bE).flatMap It.aY,qN b a a'⟩ a p.length 2 (ai p):=Rd.of h.n λ_ hb=>lu _ (cP _ hb)
theorem Ht.t (h:iQ s b a c p a' c' q):Rd ⟨s,([]:bE).flatMap It.aY,qN b a a'⟩ a' q.length 3 (ai q):=Rd.of h.t λ_ hb=>lu _ (dz _ hb)
end
def thV (a:aK):Option Nat->Value
 |none=>.pointer none
 |some i=>de a i 3 0
theorem fT (s:St)(b:Nat)(a:aK)(c:Nat)(p:List a6)(a':aK)(c':Nat)(q:eG)(hs:gi q)(hq:q.length<=1000)(k:Int)(hr:iQ s b a c p a' c' q):bP 30 [bc b,iv k] s (qN b a a') (thV a' (kM q k)):=by
 have NL:=Ht.x hr;have qI:=Ht.t hr;rw[aeH hs k ak.ah];by_cases hk:BY q k<q.length/\(q.getD (BY q k) ak.ah).id=k
 .rw[if_pos hk];have hd:(!(decide (BY q k<q.length/\(q.getD (BY q k) ak.ah).id=k)))=false:=by rw[dt hk];rfl
  have x8:=hk.1;refine aU f30 ?_;(repeat' (first|refine' a7|refine' ahg|refine' aw|fail))
  all_goals refine' zaD
  all_goals rfl
 .rw[if_neg hk];have hd:(!(decide (BY q k<q.length/\(q.getD (BY q k) ak.ah).id=k)))=true:=by rw[gS hk];rfl
  refine aU f30 ?_;(repeat' (first|refine' a7|refine' ahg|refine' aw|fail))
  all_goals refine' zaD
  all_goals rfl
def ldI (p:List a6)(z:aA):Int:=match sT p z with
 |none=>-1
 |some i=>(p.getD i ak.ah).id
theorem Q6 (s:St)(b:Nat)(a:aK)(c:Nat)(p:List a6)(a':aK)(c':Nat)(q:eG)(hs:kE p)(hq:p.length<=1000)(z:aA)(hr:iQ s b a c p a' c' q):bP 21 [bc b,sv z] s (qN b a a') (iv (ldI p z)):=by
 have NL:=Ht.x hr;have qI:=Ht.n hr;unfold ldI;rw[aeI hs z ak.ah];by_cases hk:BZ p z<p.length/\(p.getD (BZ p z) ak.ah).af=z
 .rw[if_pos hk];have hd:(!(decide (BZ p z<p.length/\(p.getD (BZ p z) ak.ah).af=z)))=false:=by rw[dt hk];rfl
  have x8:=hk.1;refine aU f21 ?_;(repeat' (first|refine' a7|refine' ahh|refine' aw|fail))
  all_goals refine' zaD
  all_goals rfl
 .rw[if_neg hk];have hd:(!(decide (BZ p z<p.length/\(p.getD (BZ p z) ak.ah).af=z)))=true:=by rw[gS hk];rfl
  refine aU f21 ?_;(repeat' (first|refine' a7|refine' ahh|refine' aw|fail))
  all_goals refine' zaD
  all_goals rfl
end Go.Pl
namespace Go.Lg
open Go Go.Ev
section
variable {E:dA}{X:dM}{Γ:ij}{l:Kn}{L L' R:bE}{K:KO}{x y o:Operand}{t:TypeId}{s:St}{b p:Nat}{z:List UInt8}
theorem WO.aeL [ht:yP E t](hx:Ev l x (sv z))(h:∀b,kq L b->K (.pointer (some ⟨b,0,none⟩)) (.lp b (.lM z 0)::L) b (b+1) (λi=>i=b) (λi=>i=b)):WO E X Γ l (.range t x) L K:=
 WO.news (mk:=λb=>.pointer (some ⟨b,0,none⟩)) (ob:=λ_=>.lM z 0) (it:=λb=>.lp b (.lM z 0)) (λtm s call hl _=>by
   show Ij E s t (aM tm x)=_;rw[hx.eval hl];unfold Ij;rw[ht.h];rfl) (λs b h=>h) (λb=>rfl) h
theorem WO.aeM (hx:Ev l x (.pointer (some ⟨b,0,none⟩)))(hu:yQ (.lp b (.lM z p)) (.lp b (.lM z (p+1))) L L')(hp:p<z.length)(hc:(z.getD p 0).toNat<128)(h:∀n,K (.tuple ⟨[.bool true,iv (p:Int),.int .i32 ((z.getD p 0).toNat:Int)]⟩) L' n n (λi=>i=b) (λi=>i=b)):WO E X Γ l (.next x true) L K:=λtm s hl hi=>by
 obtain⟨R,p1,p2⟩:=hu.cR;have hm:It.lp b (.lM z p)∈L:=p1.mem_iff.2 (by simp);have lF:=hi.may hm (b:=b) (by simp[It.aY]);have hg:s.heap.get b=some (.lM z p):=hi.it _ hm;have hn:jb z p=some (z.getD p 0):=by
  rw[dR,bd hp,aR,bd hp];rfl
 refine fS.pure (v:=.tuple ⟨[.bool true,iv (p:Int),.int .i32 ((z.getD p 0).toNat:Int)]⟩) (s':=s.put b (some (.lM z (p+1)))) (λcall=>?_) ⟨L',(λi=>i=b),(λi=>i=b),hi.put hu rfl rfl (by show T.get (St.heap _) b=_;simp),jZ lF.1 rfl rfl,by rw[dZ];exact h _⟩;show Ks s (aM tm x) true=_;rw[hx.eval hl];show ob (s.look b) _=_;unfold St.look;rw[hg];show eg true (Gn s b z p)=_;rw[eD];unfold Gn;rw[hn];show eg (Nat.ble (Nat.succ (z.getD p 0).toNat) 128) _=_;rw[il (show Nat.succ (z.getD p 0).toNat<=128 by omega)];rfl
theorem WO.aeN (hx:Ev l x (.pointer (some ⟨b,0,none⟩)))(hm:It.lp b (.lM z p)∈L)(hp:z.length<=p)(h:∀n,K (.tuple ⟨[.bool false]⟩) L n n (λi=>i=b) Z):WO E X Γ l (.next x true) L K:=λtm s hl hi=>by
 have lF:=hi.may hm (b:=b) (by simp[It.aY]);have hg:s.heap.get b=some (.lM z p):=hi.it _ hm;refine fS.pure (v:=.tuple ⟨[.bool false]⟩) (s':=s.aV b) (λcall=>?_) ⟨L,(λi=>i=b),Z,hi.aV lF,cX lF.1 rfl,by rw[cw];exact h _⟩;show Ks s (aM tm x) true=_;rw[hx.eval hl];show ob (s.look b) _=_;unfold St.look;rw[hg];show eg true (Gn s b z p)=_;rw[eD];unfold Gn;rw[show jb z p=none by rw[dR,rT hp]];rfl
end
section
variable {E:dA}{X:dM}{Γ:ij}{l:Kn}{L:bE}{K:KO}{x y:Operand}{t t2:TypeId}{a:aK}{n sz i j:Nat}{α:Type}{enc:ak α sz}{p:List α}
theorem WO.aaE [ht:adZ E t](hx:Ev l x (de a i sz j))(hy:Ev l y (.pointer none))(hh:jY Γ L a n sz (ai (sz:=sz) p))(hi:i<p.length)(k:∀n,K (.bool false) L n n Z Z):WO E X Γ l (.binOp .eql t x y t2) L K:=λtm s hl h2=>by
 obtain⟨b,o,_,_,_,rfl,_⟩:=(hh.row h2).1.at_ hi;exact WO.Wd (p:=some ⟨b,o+(i*sz+j),none⟩) (ht:=ht) hx hy k tm s hl h2
theorem WO.aaD (hx:Ev l x (de a i sz j))(hh:jY Γ L a n sz (ai (sz:=sz) p))(hi:i<p.length)(k:∀n,K (de a i sz j) L n n Z Z):WO E X Γ l (.nilCheck x) L K:=λtm s hl h2=>by
 obtain⟨b,o,_,_,_,rfl,_⟩:=(hh.row h2).1.at_ hi;refine fS.pure (v:=de (some ⟨b,o,none⟩) i sz j) (s':=s) (λcall=>?_) ⟨L,Z,Z,h2,kJ.id,k _⟩;show Gp E (aM tm x) s=_;rw[hx.eval hl];rfl
end
section
variable {E:dA}{X:dM}{Γ:ij}{l:Kn}{L:bE}{K:KO}{x y:Operand}{t t2:TypeId}{p q:List UInt8}
theorem WO.ak1 (hx:Ev l x (sv p))(hy:Ev l y (sv q))(h:∀n,K (.bool (!(Op.bytesLess q p))) L n n Z Z):WO E X Γ l (.binOp .leq t x y t2) L K:=WO.bin hx hy (λcc=>by
 show some (Value.bool (bo (ot p q) true (gp p q)))=_;rw[s8,eR,<-qk p q];have:∀a b:Bool,bo a true b=(a||b):=by intro a b;cases a<;>rfl
 rw[this,Bool.not_not]
 congr 3
 rw[oZ];simp) h
end
end Go.Lg
namespace Go.Pl
open Go Go.Ev Go.Lg Go.Proofs
theorem aaR (s:St)(a:aK)(c:Nat)(n:Int):bP 261 [.slice a 0 c,iv n] s [] (.bool false):=by
 refine aU f261 ?_;(repeat(first|refine' xz|refine' aw|fail))
 refine W.bN (λk l L=>Le [(0,.slice a 0 c),(1,iv n),(5,iv 0)] l/\cz [] L/\k=0) (λl L=>True) 0 ⟨bk,au,rfl⟩ ?_ ?_
 .rintro k l L ⟨hl,hL,rfl⟩;refine W.le ?_ hl hL;(refine' cU)
  all_goals first|trivial|(exfalso;simp_all;done)
 .rintro l L _;refine aq ?_;refine W.le ?_ (Le.nil _) (cz.nil _);(refine' cU)
  (refine' ax);rfl
def Hu (o:Option Nat):Int:=(o.map Int.ofNat).getD (-1)
theorem xL {p:Nat->Bool}{n i:Nat}(h:0<n):nM p n i=if p i then some i else nM p (n-1) (i+1):=by
 obtain⟨m,rfl⟩:∃m,n=m+1:=⟨n-1,ag⟩;rfl
theorem pR (s:St)(v:SA)(st:ar)(h64:st.aX.length=64)(a:aK)(c:Nat)(hr:cK s v st):bP 240 [.agg ⟨[.slice v.f 64 v.fc,.slice v.l 64 v.lc]⟩,iv 8,.slice a 0 c] s (iH v) (iv (Hu (De st))):=by
 have uj:=Rd.off hr;refine aU f240 ?_;(repeat' (first|refine' a7|refine' zc3|refine' aw|fail))
 refine W.bN (λk l L=>∃(i:Nat),Le [(3,bc bx),(1,iv 8),(2,.slice a 0 c),(7,iv 56),(8,iv i)] l/\cz [.box bx [.slice v.f 64 v.fc,.slice v.l 64 v.lc] 78 false] L/\k=56-i/\i<=56/\nM (λi=>decide (st.aX.getD i 0=0)) 56 8=nM (λi=>decide (st.aX.getD i 0=0)) (56-i) (8+i))
  (λl L=>De st=none) 56 ⟨0,bk,au,ag,ag,rfl⟩ ?_ ?_
 .rintro k l L ⟨i,hl,hL,rfl,h1,h2⟩;refine W.le ?_ hl hL;clear hl hL;have hm:((8:Int)-8+(i:Int)).tmod 56=if i<56 then(i:Int) else((8:Int)-8+(i:Int)).tmod 56:=by
   split
   .rw[Int.tmod_eq_emod_of_nonneg ag,Int.emod_eq_of_lt ag ag];omega
   .rfl
  by_cases hi:i<56
  .rw[if_pos hi] at hm;have e:=xL (p:=λi=>decide (st.aX.getD i 0=0)) (n:=56-i) (i:=8+i) ag;have hx:8+(8-Nat.succ 7+i)% 56=8+i:=by omega
   (refine' ah3)
   ·(refine' ax)
    rw[hx] at um;rw[show De st=some (8+i) from h2.trans (e.trans (if_pos (dt um)))];simp only[gB,Hu,hm];congr 1
   .refine⟨_,?_,i+1,?_,au,rfl,ag,?_⟩
    .omega
    .exact bk
    .rw[hx] at um;rw[h2,e,if_neg (by rw[bQ];exact um)]
     congr 1
   all_goals(exfalso;omega)
  .have fE:i=56:=by omega
   subst fE;(refine' ah3)
   all_goals first|(exfalso;omega;done)|exact h2
 .rintro l L h1;refine aq ?_;refine W.le ?_ (Le.nil _) (cz.nil _);(refine' cU)
  (refine' ax);rw[h1];rfl
theorem Hv (s:St)(v:SA)(st:ar)(h:dv 100000 st)(z:aA)(hr:cK s v st):bP 239 [fD v st,sv z] s (iH v) (iv (Hu (VS st z))):=by
 have tL:=Rd.Eg hr;have uj:=Rd.off hr;have uq:=Rd.Cr hr;have KF:=h.lr;have Cj:=h.lf;have hll:=h.ll;refine aU f239 ?_;(repeat(first|refine' xz|refine' aw|fail))
 refine W.bN (λk l L=>∃(i:Nat),Le [(2,bc bx),(1,sv z),(5,iv i)] l/\cz [.box bx (rP v st) 81 false] L/\k=64-i/\8<=i/\i<=64/\VS st z=nM (yI st z) (64-i) i)
  (λl L=>VS st z=none) 56 ⟨8,bk,au,ag,ag,ag,rfl⟩ ?_ ?_
 .rintro k l L ⟨i,hl,hL,rfl,h0,h1,h2⟩;refine W.le ?_ hl hL;clear hl hL;by_cases hi:i<64
  .have e:=xL (p:=yI st z) (n:=64-i) (i:=i) ag;have hn:yI st z i=false->nM (yI st z) (64-i) i=nM (yI st z) (64-(i+1)) (i+1):=λhf=>by rw[e,hf];rfl
   have Cu:yI st z i=(decide (st.er.getD i ak.ah=z)&&decide (st.dm.getD i ak.ah<st.fC)&&decide (st.aX.getD i ak.ah<st.fC)):=rfl;(refine' cU)
   ·(refine' ax)
    have ht:yI st z i=true:=by rw[Cu];simp_all
    rw[h2,e,if_pos ht];rfl
   rotate_left 3
   .exfalso;omega
   all_goals
    refine⟨_,?_,i+1,bk,au,rfl,ag,ag,?_⟩
    .omega
    .rw[h2,hn (by rw[Cu];first|(rw[hc];simp;done)|(rw[hg];simp;done))]
  .have fE:i=64:=by omega
   subst fE;(refine' cU)
   all_goals first|(exfalso;omega;done)|exact h2
 .rintro l L h1;refine aq ?_;refine W.le ?_ (Le.nil _) (cz.nil _);(refine' cU)
  (refine' ax);rw[h1];rfl
def acX (o:Option aA):Value:=.tuple ⟨[sv (o.getD []),.bool o.isSome]⟩
theorem GY (s:St)(v:SA)(st:ar)(h:dv 100000 st)(p:jt)(hp:bw p=true)(hr:cK s v st):bP 175 [fD v st,pv p] s (iH v) (acX (jW st p)):=by
 have tL:=Rd.Eg hr;have KF:=h.lr;have hw:(st.er.getD p.row.toNat ak.ah).length<=3000:=h.row p.row.toNat;cases hh:aI p with
 |true=>
  refine aU f175 ?_;(refine' BV)
  (refine' ax);unfold jW;rw[if_pos hh];rfl
 |false=>
  have hrg:=zh hp hh;refine aU f175 ?_;(repeat' (first|refine' a7|refine' GW|refine' aed|refine' aw|fail))
  all_goals(refine' ax)
  all_goals(unfold jW;rw[if_neg (by rw[hh];simp)])
  .rw[if_neg (by simp_all [gk])];rfl
  .rw[if_pos (by simp_all [gk])];rfl
theorem Oz (s:St)(n:Int)(hn:0<=n/\n<=1000):fa a8 bj 211 [iv n] s [] 83 (c9 n.toNat):=by
 refine aU f211 ?_;(refine' cU)
 all_goals(refine' lN);rfl
theorem Hw {st:ar}(h:dv 100000 st)(p:jt):((jW st p).getD []).length<=3000:=by
 unfold jW;split
 .simp
 .split
  .exact h.row _
  .simp
theorem Dw (s:St)(v:SA)(st:ar)(h:dv 100000 st)(p:jt)(level:Int)(hr:cK s v st):kr a8 bj 247 [fD v st,pv p,iv level] s (iH v) 83 ((below st p level).getD []) (below st p level).isSome:=by
 have tL:=Rd.Eg hr;have uj:=Rd.off hr;have uq:=Rd.Cr hr;have Vl:=Hw h p;cases hh:aI p with
 |true=>
  refine aU f247 ?_;(repeat' (first|refine' a7|refine' GW|refine' aee|refine' aw|fail))
  rw[Pg.oc hh];(refine' fp)<;>rfl
 |false=>
  have hb0:(bw p=false\/p.level≠level\/st.fC<p.dg)->below st p level=none:=λhc=>by
   unfold below;rw[if_neg (by rw[hh];simp),if_pos (by simp;rcases hc with hc|hc|hc<;>simp[hc])]
  by_cases J3:bw p=true
  .refine aU f247 ?_;have BQ:p.level=level->p.dg<=st.fC->below st p level=match jW st p with
     |none=>none
     |some s=>match kn s with
      |none=>none
      |some l=>if l.any (λq=>decide (p.dg<q.dg)) then none else some l:=λh1 h2=>by
    unfold below;rw[if_neg (by rw[hh];simp),if_neg (by simp[J3,h1];omega)];rfl
   (repeat' (first|refine' a7|refine' GW|refine' SK|refine' Ax|((with_reducible apply WO.yS);exact aE;(first|exact λs=>Ta s _ ag);intro _ _ vP vQ _ _)|refine' aw|fail))
   .rw[hb0 (.inr (.inr j3))];(refine' fp)<;>rfl
   .have hn:jW st p=none:=by cases hx:jW st p<;>simp_all
    rw[BQ um (by assumption),hn];(refine' fp)<;>rfl
   .obtain⟨z,hz⟩:=ju.1 (show(jW st p).isSome=true by simp_all);have KN:=BQ (by assumption) (by assumption);rw[hz] at KN⊢;simp only[pV] at *
    generalize hq:(kn z).getD []=q at *
    have hql:q.length<=4:=by
     cases hf:kn z with
     |none=>rw[hf] at hq;subst hq;simp
     |some l=>rw[hf] at hq;have:=(Pg.Bq hf).1;simp at hq;subst hq;omega
    refine W.bN (λk l L=>∃(i:Nat),Le [(4,bc bx),(10,.slice vP q.length vQ),(11,.bool (kn z).isSome),(12,iv i)] l/\cz [.aN (.slice vP q.length vQ) 83 5 (ai q),.box bx (rF p) 83 false] L/\k=q.length-i/\i<=q.length/\∀j,j<i->¬p.dg<(q.getD j ak.ah).dg)
     (λl L=>Le [(10,.slice vP q.length vQ),(11,.bool (kn z).isSome)] l/\cz [.aN (.slice vP q.length vQ) 83 5 (ai q)] L/\∀j,j<q.length->¬p.dg<(q.getD j ak.ah).dg) q.length ⟨0,bk,au,ag,ag,λj hj=>by omega⟩ ?_ ?_
    .rintro k l L ⟨i,hl,hL,rfl,h1,h2⟩;refine W.le ?_ hl hL;clear hl hL;(refine' cU)
     .have hn:below st p level=none:=by
       rw[KN];cases hf:kn z with
       |none=>rfl
       |some w=>
        rw[hf] at hq;have hq:w=q:=by simpa using hq
        subst hq;simp only;rw[if_pos];rw[Gb];exact⟨_,aJ (show i<w.length by omega) ak.ah,by simpa using j3⟩
      rw[hn];(refine' fp)<;>rfl
     .refine⟨_,?_,i+1,bk,au,rfl,ag,λj hj=>?_⟩
      .omega
      .by_cases wK:j=i
       .subst wK;omega
       .exact h2 j ag
     .exact⟨bk,au,λj hj=>h2 j ag⟩
    .rintro l L ⟨hl,hL,h1⟩;refine aq ?_;refine W.le ?_ hl hL;clear hl hL;have:below st p level=kn z:=by
      rw[KN];cases hf:kn z with
      |none=>rfl
      |some w=>
       rw[hf] at hq;have hq:w=q:=by simpa using hq
       subst hq;simp only;rw[if_neg];intro hc;obtain⟨x,hx,Sk⟩:=Gb.1 hc;obtain⟨j,hj,rfl⟩:=iZ hx;have:=h1 j hj;rw[pC _ hj] at this;exact this (by simpa using Sk)
     rw[this];(refine' cU)
     (refine' fp)
     .exact hq
     .rfl
   .first
     |(exfalso;simp_all;done)
     |(rw[hb0 (.inr (.inl um))];(refine' fp)<;>rfl)
   all_goals first
     |(exfalso;simp_all;done)
     |(rw[hb0 (.inr (.inl um))];(refine' fp)<;>rfl)
  .have aif:bw p=false:=by simpa using J3
   have hpn:(!bw p)=true:=by rw[aif];rfl
   refine aU f247 ?_;(repeat' (first|refine' a7|refine' GW|refine' SK|refine' aw|fail))
   rw[hb0 (.inl aif)];(refine' fp)<;>rfl
section
variable {st:ar}{q:cW}{n:Int}
theorem Mc {n:Nat}(h:down st (n+1:Nat) q=none):gO.go st (n+1) q=none:=by
 rw[gO.go,h]
theorem Ts {p:jt}(hp:p∈q)(h:below st p n=none):down st n q=none:=by
 cases hd:down st n q with
 |none=>rfl
 |some r=>have:=Pg.zf hd p hp;rw[h] at this;cases this
theorem Tt {q r:cW}{i:Nat}(hi:i<q.length)(h:down st n (q.take i)=some r){k:cW}(hk:below st (q.getD i ak.ah) n=some k):down st n (q.take (i+1))=some (r++k):=by
 rw[fA q ak.ah hi];have:=Pg.pN hk (Pg.L4 st n);rw[ix] at this;exact Pg.D8 h this
theorem uY (s:St)(v:SA)(st:ar)(h:dv 100000 st)(t:bX)(ht:eb t)(hr:cK s v st):kr a8 bj 207 [fD v st,tv t] s (iH v) 83 ((gO st t).getD []) (gO st t).isSome:=by
 have tL:=Rd.Eg hr;have uj:=Rd.off hr;have uq:=Rd.Cr hr;have hdp:=ht.dp;refine aU f207 ?_;(repeat(first|refine' xz|refine' aw|fail))
 have h4:∀n:Nat,n<=2->4^ n<=16:=λn hn=>by
  have:n=0\/n=1\/n=2:=by omega
  rcases this with rfl|rfl|rfl<;>decide
 refine W.bN (λk l L=>∃(n:Nat)(q:cW)(a:aK)(c bs:Nat),Le [(2,bc bs),(6,.slice a q.length c),(7,iv n)] l/\cz [.aN (.slice a q.length c) 83 5 (ai q),.box bs (rP v st) 81 false] L/\k=n/\q.length*4^ n<=16/\gO st t=gO.go st n q/\n<=2)
  (λl L=>∃(q:cW)(a:aK)(c:Nat),Le [(6,.slice a q.length c)] l/\cz [.aN (.slice a q.length c) 83 5 (ai q)] L/\gO st t=some q) t.depth.toNat ⟨t.depth.toNat,[t.cy],some ⟨bl,0,none⟩,1,_,(by rw[yi hdp.1];exact bk),au,rfl,?_,rfl,ag⟩ ?_ ?_
 .have:=h4 t.depth.toNat ag;simpa using this
 .rintro k l L ⟨n,q,a,c,bs,hl,hL,hk,h1,h2,GC⟩;refine W.le ?_ hl hL;clear hl hL;subst hk;cases k with
  |zero=>
   (refine' cU)
   all_goals try exact pq
   exact⟨q,a,c,bk,au,h2⟩
  |succ n=>
   have anr:q.length<=16:=by
    have:1<=4^ (n+1):=Nat.pow_pos ag;exact ik (UW _ this) h1
   have Hx:∀p∈q,below st p ((n+1:Nat):Int)=none->gO st t=none:=λp hp hb=>by
    rw[h2,Mc (Ts hp hb)]
   (refine' cU)
   rotate_left 1
   .exfalso;omega
   refine W.bN (λk l L=>∃(i:Nat)(r:cW)(a2:aK)(c2:Nat),Le [(2,bc bs),(6,.slice a q.length c),(7,iv ((n+1:Nat):Int)),(8,.slice a2 r.length c2),(9,iv i)] l/\cz [.aN (.slice a2 r.length c2) 83 5 (ai r),.aN (.slice a q.length c) 83 5 (ai q),.box bs (rP v st) 81 false] L/\k=q.length-i/\i<=q.length/\down st ((n+1:Nat):Int) (q.take i)=some r)
    (λl L=>∃(r:cW)(a2:aK)(c2:Nat),Le [(2,bc bs),(7,iv ((n+1:Nat):Int)),(8,.slice a2 r.length c2)] l/\cz [.aN (.slice a2 r.length c2) 83 5 (ai r),.box bs (rP v st) 81 false] L/\down st ((n+1:Nat):Int) q=some r) q.length ⟨0,[],_,_,bk,au,ag,ag,rfl⟩ ?_ ?_
   .rintro k l L ⟨i,r,a2,c2,hl,hL,rfl,h3,h4⟩;refine W.le ?_ hl hL;clear hl hL;have Vl:=(Pg.ze h4).1;rw[cZ] at Vl;have O8:((below st (q.getD i ak.ah) ((n+1:Nat):Int)).getD []).length<=4:=by
     cases hb:below st (q.getD i ak.ah) ((n+1:Nat):Int) with
     |none=>simp
     |some w=>have:=(Pg.iP hb).1;simp;omega
    (repeat' (first|refine' a7|refine' aaB|refine' aw|fail))
    .have hn:below st (q.getD i ak.ah) ((n+1:Nat):Int)=none:=by
      cases hb:below st (q.getD i ak.ah) ((n+1:Nat):Int) with
      |none=>rfl
      |some w=>rw[hb] at j3;cases j3
     rw[Hx _ (aJ (show i<q.length by omega) _) hn];(refine' fp)<;>rfl
    .obtain⟨w,hw⟩:=ju.1 j3;rw[hw];refine⟨_,?_,i+1,r++w,_,_,bk,au,rfl,ag,Tt ag h4 hw⟩;omega
    .have hi:i=q.length:=by omega
     subst hi;rw[gX] at h4;exact⟨r,_,_,bk,au,h4⟩
   .rintro l L ⟨r,a2,c2,hl,hL,h3⟩;refine aq ?_;refine W.le ?_ hl hL;clear hl hL;have Vl:=(Pg.ze h3).1;(refine' cU)
    refine⟨_,?_,n,r,_,_,_,?_,au,rfl,?_,?_,ag⟩
    .omega
    .have:((n+1:Nat):Int)-1=(n:Nat):=by omega
     rw[this];exact bk
    .rw[Vl];rw[US] at h1;have:4*q.length*4^ n=q.length*(4^ n*4):=by rw[Ge 4,Nat.mul_assoc,Ge 4]
     omega
    .rw[h2,gO.go,h3]
 .rintro l L ⟨q,a,c,hl,hL,h1⟩;refine aq ?_;refine W.le ?_ hl hL;clear hl hL;rw[h1];(refine' cU)
  (refine' fp)<;>rfl
end
end Go.Pl
