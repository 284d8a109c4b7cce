/- Lemmas of the proof. No conditions. -/
import Derived.Test.YtnealhiolaklpaaGreatDoorAe9
import Derived.Test.YtnealhiolaklpaaGreatDoorAf6
set_option maxRecDepth 100000
set_option maxHeartbeats 4000000
set_option linter.all false
open Bool renaming false->U,true->J
open Option renaming none->O,some->C
open List renaming length->Y
open Go.Value renaming slice->H,bool->M,int->I
open Go.Proofs.Tryz
open Nat (beq ble mul)
open Go.Result (andThen_ok)
open Go.Sem (run_bind)
open Go.Region (binds)
open List (replicate)
open Int (toNat)
open Go.Builtin (firstCells)
open Go.Instr (checkKey)
namespace Go.Pl
open Go Go.Ev Go.Lg Go.Proofs
variable {E:hJ}{X:fb}{Γ:ng}{l:Kn}{L R:cq}{K:KO}{o:Go.Op}{g:FuncId}{xs:List Operand}{ts:Array TypeId}{vs:aV}{b:Nat}{v:SA}{st:ae}{p:List (Option dX)}{r:Bool}{x y:Operand}{t t2 e:TypeId}{a a2:aP}{c c2:Nat}{q:List Int}{k i:Int}{n:Nat}{P:B0}
def Oi (s:St)(v:SA)(st:ae)(hf:Y st.aI=64)(hl:Y st.bW=64)(hr:cr s v st):bM 78 [.agg ⟨[H v.f 64 v.fc,H v.l 64 v.lc]⟩] s (iB v) (M (Pg.V0 st.aI st.bW)):=by
 have B:=Rd.off hr;have D:=Rd.y8 hr;refine a8 f78 ?_;refine' iK;refine W.bu (λk l L=>∃(i d:Nat),Le [(1,bk d),(17,H v.f 64 v.fc),(18,iv ((64:Nat):Int)),(19,iv (i:Int))] l/\cb [.box d [H v.f 64 v.fc,H v.l 64 v.lc] 26 U] L/\k=64-i/\i<=64/\∀j,j<i->Pg.yY st.aI st.bW j) (λl L=>Pg.q6 st.aI st.bW) _ ⟨0,_,bd,ak,rfl,aa,λj F=>by omega⟩ ?_ ?_
 .rintro k l L ⟨i,d,G,Q,rfl,N,z⟩;refine' cP;by_cases hi:i<64
  .by_cases hs:Pg.yY st.aI st.bW i
   ·(have A:∀j,j<i+1->Pg.yY st.aI st.bW j:=λj F=>by by_cases m:j=i;subst m;exact hs;exact z j aa);rw[BY] at hs;generalize u:st.aI.getD i au.ad=x at hs;generalize w:st.bW.getD i au.ad=y at hs;(have S:(!fI x 0 900)=U:=by rw[qN ⟨aa,aa⟩];rfl);(have T:(!fI y x 900)=U:=by rw[qN ⟨aa,aa⟩];rfl);rw[<-u,<-w] at *
    (repeat' first|refine' uH|refine' cY|fail);(all_goals first|exact⟨_,aa,i+1,_,bd,ak,rfl,aa,A⟩|skip);all_goals skip
   rw[Pg.adn (λh=>hs (h i hi))];rw[BY] at hs;(repeat' first|refine' uH|refine' cY|fail);(all_goals first|((refine' aC);rfl)|(exfalso;apply hs;exact⟨aa,aa,aa,λh=>by omega,λh=>by omega⟩)|skip);all_goals skip
  have:i=64:=by omega
  subst this;(repeat' first|refine' uH|refine' cY|fail);all_goals exact z
 rintro l L h;refine aJ ?_;refine W.le ?_ (Le.nil _) (cb.nil _);rw[Pg.SJ h];refine' eR;refine' aC;rfl
def mxI (l:List Int):Nat->Int
 |0=>l.getD 0 0
 |i+1=>max (mxI l i) (l.getD (i+1) 0)
def Q5 (l:List Int)(t:Int):∀i,mxI l i<=t↔∀j,j<=i->l.getD j 0<=t
 |0=>⟨λh j d=>by rwa[Nat.le_zero.1 d],λh=>h 0 (fG _)⟩
 |i+1=>by have ih:=Q5 l t i;show max (mxI l i) (l.getD (i+1) 0)<=t↔_;constructor;intro h j d;by_cases f:j=i+1;subst f;omega;exact ih.1 aa j aa;intro h;have m:=ih.2 λj d=>h j aa;have s:=h (i+1) (fG _);omega
def SS (s:St)(a:aP)(c:Nat)(p:List Int)(j:Y p=64)(hr:bJ s a 64 1 (ab p)):bM 79 [H a 64 c] s (ah a) (iv (mxI p 63)):=by
 have hd:=Rd.of (A:=ah a) hr λ_ hb=>hb;refine a8 f79 ?_;refine' iK;refine W.bu (λk l L=>∃(i:Nat),Le [(0,H a 64 c),(3,iv (mxI p i)),(4,iv ((i:Int)+1))] l/\cb [] L/\k=63-i/\i<=63) (λl L=>Le [(3,iv (mxI p 63))] l/\cb [] L) _ ⟨0,bd,ak,rfl,aa⟩ ?_ ?_
 .rintro k l L ⟨i,hl,d,rfl,f⟩;refine' cP;by_cases hi:i<63
  ·(refine' iK);all_goals exact⟨_,aa,i+1,bd,ak,rfl,aa⟩
  have:i=63:=by omega
  subst this;refine' iK;all_goals exact⟨bd,ak⟩
 rintro l L ⟨hl,d⟩;refine' gh;refine' qcx
def oS (st:ae)(d:Int)(x:fm):Prop:=Pg.uV d x/\st.aI.getD x.row.toNat 0≠0
def ZA (s:St)(v:SA)(st:ae)(hlf:Y st.aI=64)(p:cc)(a:aP)(c:Nat)(hp:Y p<=100000)(d:Int)(m u:Nat)(j:aP)(co:Nat)(q:cc)(hq:Y q<=100000)(hr:bJ s a (Y p) 5 (ab p))(hb:bJ s (ko m) 1 8 (lL v st))(hf:bJ s v.f 64 1 (ab st.aI))(hm:∀i∈ah a++m::ah v.f,i∉[It.box u [H j 64 co] 24 U,It.aU (H j 64 co) 3 1 (ab (Pg.fE q))].flatMap It.bC):
  Ht 80 [H a (Y p) c,iv d,bk m,bk u] s [.box u [H j 64 co] 24 U,.aU (H j 64 co) 3 1 (ab (Pg.fE q))] (ah a++m::ah v.f) λR L=>(R= M J/\(∀x∈p,oS st d x)/\L=[.box u [H j 64 co] 24 U,.aU (H j 64 co) 3 1 (ab (Pg.fE (q++p)))])\/(R= M U/\¬(∀x∈p,oS st d x)/\∃z:List Int,Y z=64/\L=[.box u [H j 64 co] 24 U,.aU (H j 64 co) 3 1 (ab z)]):=by
 have hdp:Rd ⟨s,[It.box u [H j 64 co] 24 U,It.aU (H j 64 co) 3 1 (ab (Pg.fE q))].flatMap It.bC,ah a++m::ah v.f⟩ a (Y p) 5 (ab p):=⟨hr,λ_ h=>im _ h,λi hi=>hm i (im _ hi)⟩;have hdb:Rd ⟨s,[It.box u [H j 64 co] 24 U,It.aU (H j 64 co) 3 1 (ab (Pg.fE q))].flatMap It.bC,ah a++m::ah v.f⟩ (ko m) 1 8 (lL v st):=⟨hb,λi hi=>by rw[show i=m by simpa[ah] using hi];exact dt _ ed,λi hi=>hm i (by rw[show i=m by simpa[ah] using hi];exact dt _ ed)⟩;have hdf:Rd ⟨s,[It.box u [H j 64 co] 24 U,It.aU (H j 64 co) 3 1 (ab (Pg.fE q))].flatMap It.bC,ah a++m::ah v.f⟩ v.f 64 1 (ab st.aI):=⟨hf,λ_ h=>dt _ (dI _ h),λi hi=>hm i (dt _ (dI _ hi))⟩;refine a8 f80 ?_;refine' iK;refine W.bu (λk l L=>∃(i:Nat),Le [(1,iv d),(2,bk m),(3,bk u),(9,H a (Y p) c),(10,iv (Y p:Int)),(11,iv (i:Int))] l/\cb [.box u [H j 64 co] 24 U,.aU (H j 64 co) 3 1 (ab (Pg.fE (q++p.take i)))] L/\k=Y p-i/\i<=Y p/\∀x∈p.take i,oS st d x) (λl L=>cb [.box u [H j 64 co] 24 U,.aU (H j 64 co) 3 1 (ab (Pg.fE (q++p)))] L/\∀x∈p,oS st d x) _ ⟨0,bd,by(rw[B9,fT];exact ak),rfl,aa,aq⟩ ?_ ?_
 .rintro k l L ⟨i,hl,Q,rfl,h1,N⟩;refine' cP;by_cases hi:i<Y p;have F:p.take (i+1)=p.take i++[p.getD i au.ad]:=dS p au.ad hi;have cg:=Pg.qa (q++p.take i);have D:=a7 hi au.ad;have w:¬oS st d (p.getD i au.ad)->¬∀x∈p,oS st d x:=λhn B=>hn (B _ D);cases G:aQ (p.getD i au.ad) with
  |false=>(have Z:(!aQ (p.getD i au.ad))=J:=by rw[G];rfl);(have hq:=w λh=>by have:=h.1.1;rw[G] at this;cases this);refine' zav
  |true=>
   (have Z:(!aQ (p.getD i au.ad))=U:=by rw[G];rfl);cases q2:av (p.getD i au.ad) with
   |true=>(have hq:=w λh=>by have:=h.1.2.1;rw[q2] at this;cases this);refine' zav
   |false=>
    have hrr:=oA G q2;have hxx:(Pg.fE (q++p.take i)).getD (p.getD i au.ad).row.toNat au.ad=(Pg.mz (q++p.take i) (p.getD i au.ad).row.toNat:Int):=Pg.qb _ aa;have S:=Pg.Kc (q++p.take i) (p.getD i au.ad).row.toNat;rw[dB,de] at S;(have V:(Pg.fE (q++p.take i)).set (p.getD i au.ad).row.toNat ((Pg.fE (q++p.take i)).getD (p.getD i au.ad).row.toNat au.ad+1)=Pg.fE (q++p.take (i+1)):=by rw[F,<-iD];exact Pg.zX (q++p.take i) (p.getD i au.ad) aa);have hd0:st.aI.getD (p.getD i au.ad).row.toNat au.ad=st.aI.getD (p.getD i au.ad).row.toNat 0:=rfl;by_cases q3:(p.getD i au.ad).bE<=d/\st.aI.getD (p.getD i au.ad).row.toNat au.ad≠0
    ·(have T:∀x∈p.take (i+1),oS st d x:=λx A=>by rw[F] at A;obtain A|A:=cG.1 A;exact N x A;rw[gI] at A;subst A;exact⟨⟨G,q2,q3.1⟩,q3.2⟩);(repeat' first|(apply ag;exact aj;exact λs=>eW s ⟨_,_,_,_,_⟩;intros)|(apply ag;exact aj;exact λs=>bO s ⟨_,_,_,_,_⟩;intros)|refine' cY|fail);all_goals exact⟨_,aa,i+1,bd,by(rw[<-V];exact ak),rfl,aa,T⟩
    have hq:=w λh=>q3 ⟨h.1.2.2,h.2⟩;(repeat' first|(apply ag;exact aj;exact λs=>eW s ⟨_,_,_,_,_⟩;intros)|(apply ag;exact aj;exact λs=>bO s ⟨_,_,_,_,_⟩;intros)|refine' cY|fail);all_goals exact⟨bK,_,_,bH,ak,.inr ⟨rfl,hq,_,cg,rfl⟩⟩
  have:i=Y p:=by omega
  subst this;rw[lG] at N⊢;refine' iK;all_goals exact⟨ak,N⟩
 rintro l L ⟨Q,h1⟩;refine aJ ?_;refine W.le ?_ (Le.nil _) Q;clear Q;refine' eR;exact⟨bK,_,_,bH,ak,.inl ⟨rfl,h1,rfl⟩⟩
variable {ao:aP}{co b1 b2:Nat}{Bv:Int}
section
variable {p q:cc}
abbrev ql (b2:Nat)(ao:aP)(co:Nat)(z:List Int):cq:=[.box b2 [H ao 64 co] 24 U,.aU (H ao 64 co) 3 1 (ab z)]
abbrev Q6 (a:aP)(b1:Nat)(v:SA):List Nat:=ah a++b1::ah v.f
def Fa (G:iu l xs [H a (Y p) c,iv Bv,bk b1,bk b2])(h:l3 (ql b2 ao co (Pg.fE q)) L R)(h1:ga Γ R a (Y p) 5 (ab p))(h2:ga Γ R (ko b1) 1 8 (lL v st))(j:ga Γ R v.f 64 1 (ab st.aI))(D:Y st.aI=64)(w:Y p<=100000)(B:Y q<=100000)
  (kt:(∀x∈p,oS st Bv x)->∀m d,gk L m->m<=d->K (M J) (ql b2 ao co (Pg.fE (q++p))++R) m d (iI (Q6 a b1 v) (ql b2 ao co (Pg.fE q)) m d) (iJ (ql b2 ao co (Pg.fE q)) m d))
  (kf:¬(∀x∈p,oS st Bv x)->∀(z:List Int) m d,Y z=64->gk L m->m<=d->K (M U) (ql b2 ao co z++R) m d (iI (Q6 a b1 v) (ql b2 ao co (Pg.fE q)) m d) (iJ (ql b2 ao co (Pg.fE q)) m d)):WC aZ aW Γ l 80 xs ts L K:=
 cI (Lm:=ql b2 ao co (Pg.fE q)) (R:=R) (A:=Q6 a b1 v) G h.bX (λs hi=>by
   have hs:=hi.bX h.bX|>.sub ⟨R,.refl _,o7 _ _⟩;intro i hb;obtain hb|hb:=cG.1 hb
   .exact(h1.row hs).2 i hb
   .rcases cA.1 hb with rfl|hb
    .exact(h2.row hs).2 _ (by simp[ah])
    .exact(j.row hs).2 i hb) (λs hi=>by
   (have hs:=hi.bX h.bX|>.sub ⟨R,.refl _,o7 _ _⟩;refine ZA s v st D p a c w Bv b1 b2 ao co q B (h1.row hs).1 (h2.row hs).1 (j.row hs).1 λi hb=>?_);obtain hb|hb:=cG.1 hb
   .exact ga.apart h1 (hi.bX h.bX) i hb
   .rcases cA.1 hb with rfl|hb
    .exact ga.apart h2 (hi.bX h.bX) _ (by simp[ah])
    .exact ga.apart j (hi.bX h.bX) i hb) (by
   rintro Q L' m d F hm (⟨rfl,u,rfl⟩|⟨rfl,u,z,N,rfl⟩)
   .exact kt u m d F hm
   .exact kf u z m d N F hm)
def Bc (B:iu l xs [H a (Y p) c,iv Bv,bk b1,bk b2])(A:l3 (ql b2 ao co (Pg.fE q)) L R)(h1:ga Γ R a (Y p) 5 (ab p))(h2:ga Γ R (ko b1) 1 8 (lL v st))(w:ga Γ R v.f 64 1 (ab st.aI))(u:Y st.aI=64)(j:Y p<=100000)(s:Y q<=100000)(z:∀x∈p,oS st Bv x)
  (kt:∀m d,gk L m->m<=d->K (M J) (ql b2 ao co (Pg.fE (q++p))++R) m d (iI (Q6 a b1 v) (ql b2 ao co (Pg.fE q)) m d) (iJ (ql b2 ao co (Pg.fE q)) m d)):WC aZ aW Γ l 80 xs ts L K:=Fa B A h1 h2 w u j s (λ_=>kt) λh=>absurd z h
def Bd (D:iu l xs [H a (Y p) c,iv Bv,bk b1,bk b2])(B:l3 (ql b2 ao co (Pg.fE q)) L R)(h1:ga Γ R a (Y p) 5 (ab p))(h2:ga Γ R (ko b1) 1 8 (lL v st))(w:ga Γ R v.f 64 1 (ab st.aI))(u:Y st.aI=64)(j:Y p<=100000)(s:Y q<=100000)(A:¬∀x∈p,oS st Bv x)
  (kf:∀(z:List Int) m d,Y z=64->gk L m->m<=d->K (M U) (ql b2 ao co z++R) m d (iI (Q6 a b1 v) (ql b2 ao co (Pg.fE q)) m d) (iJ (ql b2 ao co (Pg.fE q)) m d)):WC aZ aW Γ l 80 xs ts L K:=Fa D B h1 h2 w u j s (λh=>absurd h A) λ_=>kf
def y5 {n:Nat}{z:List Int}(A:iu l xs [H a (Y p) c,iv Bv,bk b1,bk b2])(s:l3 [.box b2 [H ao n co] 24 U,.aU (H ao n co) 3 1 (ab z)] L R)(h1:ga Γ R a (Y p) 5 (ab p))(h2:ga Γ R (ko b1) 1 8 (lL v st))(u:ga Γ R v.f 64 1 (ab st.aI))(hn:n=64)(B:z=replicate 64 0)(j:Y st.aI=64)(h:Y p<=100000)(w:∀x∈p,oS st Bv x)
  (kt:∀m d,gk L m->m<=d->K (M J) (ql b2 ao co (Pg.fE p)++R) m d (iI (Q6 a b1 v) (ql b2 ao co (Pg.fE [])) m d) (iJ (ql b2 ao co (Pg.fE [])) m d)):WC aZ aW Γ l 80 xs ts L K:=by subst hn;subst B;rw[<-Pg.EI] at s;exact Bc (q:=[]) A s h1 h2 u j h (jl _) w kt
def Ks {n:Nat}{z:List Int}(A:iu l xs [H a (Y p) c,iv Bv,bk b1,bk b2])(s:l3 [.box b2 [H ao n co] 24 U,.aU (H ao n co) 3 1 (ab z)] L R)(h1:ga Γ R a (Y p) 5 (ab p))(h2:ga Γ R (ko b1) 1 8 (lL v st))(u:ga Γ R v.f 64 1 (ab st.aI))(hn:n=64)(B:z=replicate 64 0)(j:Y st.aI=64)(h:Y p<=100000)(w:¬∀x∈p,oS st Bv x)
  (kf:∀(z:List Int) m d,Y z=64->gk L m->m<=d->K (M U) (ql b2 ao co z++R) m d (iI (Q6 a b1 v) (ql b2 ao co (Pg.fE [])) m d) (iJ (ql b2 ao co (Pg.fE [])) m d)):WC aZ aW Γ l 80 xs ts L K:=by subst hn;subst B;rw[<-Pg.EI] at s;exact Bd (q:=[]) A s h1 h2 u j h (jl _) w kf
end
def Oj {st:ae}(h:Pg.jO st):(∀x∈st.aS,oS st (st.dm-1) x)/\∀x∈st.bL,oS st st.iz x:=by
 have h0:∀x:fm,aQ x=J->av x=U->0<(Pg.mz st.aS x.row.toNat:Int)+Pg.mz st.bL x.row.toNat->st.aI.getD x.row.toNat 0≠0:=λx f j m=>by have:=oA f j;have:=h.ow x.row.toNat aa;omega
 refine⟨λx d=>⟨h.gn x d,h0 x (h.gn x d).1 (h.gn x d).2.1 ?_⟩,λx d=>⟨h.dd x d,h0 x (h.dd x d).1 (h.dd x d).2.1 ?_⟩⟩;have:=Pg.NQ d;omega;have:=Pg.NQ d;omega
def u2 (st:ae)(i:Nat):Prop:=Y (st.dV.getD i [])<=128/\(st.dV.getD i []=[]↔st.aI.getD i 0=0)
def Fb {st:ae}{i:Nat}:u2 st i↔Y (st.dV.getD i au.ad)<=128/\(st.dV.getD i au.ad=[]↔st.aI.getD i au.ad=0):=Iff.rfl
def Ol (s:St)(v:SA)(st:ae)(h:tE st)(hr:jb s v st):bM 33 [eg v st] s (q7 v) (M (Pg.uW st)):=by
 have Z0:=Rd.gr hr;have hdf:=Rd.gf hr;have hdl:=Rd.gl hr;have hdg:=Rd.gg hr;have hdd:=Rd.gd hr;have hlr:=h.lr;have S:=h.lf;have T:=h.ll;have ma:=h.gl;have ab5:=h.dl;have PW:=h.tx;have D:∀s,cr s v st->bM 78 [.agg ⟨[H v.f 64 v.fc,H v.l 64 v.lc]⟩] s (iB v) (M (Pg.V0 st.aI st.bW)):=λs hr=>Oi s v st S T hr;by_cases m:Pg.q6 st.aI st.bW/\(1<=st.dm/\st.dm<=900)/\(0<=st.iz/\st.iz<=st.dm-1)/\mxI st.bW 63<=st.dm
 .obtain⟨m,Z,h3,G⟩:=m;have p1:(!Pg.V0 st.aI st.bW)=U:=by rw[Pg.SJ m];rfl
  have p2:(!fI st.dm 1 900)=U:=by rw[qN Z];rfl
  have p3:(!fI st.iz 0 (st.dm-1))=U:=by rw[qN h3];rfl
  have Q:∀i,i<64->st.bW.getD i 0<=st.dm:=λi hi=>(Q5 st.bW st.dm 63).1 G i aa;refine a8 f33 ?_;(repeat' first|(apply eV;exact aj;exact λs hr=>D s hr;exact dO;intros)|refine' uH|(apply dG;exact aj;exact λs hr=>SS s _ _ _ aT hr;exact ax;intros)|refine' cY|fail);refine W.bu (λk l L=>∃(i b1:Nat),Le [(1,bk b1),(44,H v.r 64 v.rc),(45,iv ((64:Nat):Int)),(46,iv (i:Int))] l/\cb [.box b1 (lL v st) 29 U] L/\k=64-i/\i<=64/\∀j,j<i->u2 st j) (λl L=>∃(b1:Nat),Le [(1,bk b1)] l/\cb [.box b1 (lL v st) 29 U] L/\∀j,j<64->u2 st j) _ ⟨0,_,bd,ak,rfl,aa,λj F=>by omega⟩ ?_ ?_
  .rintro k l L ⟨i,b1,B,hL,rfl,h4,N⟩;refine' cP;by_cases hi:i<64
   .by_cases hs:u2 st i
    ·(have u:∀j,j<i+1->u2 st j:=λj F=>by by_cases d:j=i;subst d;exact hs;exact N j aa);rw[Fb] at hs;have hle:=h.row i;refine' iK;all_goals first|exact⟨_,aa,i+1,_,bd,ak,rfl,aa,u⟩|(exfalso;rw[tT.2 hs.2,bne_self_eq_false] at hc;cases hc)
    rw[Pg.kc (λg=>hs (g.rw i hi))];rw[Fb] at hs;refine' iK;all_goals first|((refine' aC);rfl)|(exfalso;apply hs;exact⟨aa,tT.1 (bne_eq_false_iff_eq.1 hc)⟩)
   (have:i=64:=by omega);subst this;refine' iK;all_goals exact⟨_,bd,ak,N⟩
  rintro l L ⟨b1,B,hL,h4⟩;refine' gh;by_cases A:∀x∈st.aS,oS st (st.dm-1) x
  .by_cases w:∀x∈st.bL,oS st st.iz x
   ·(repeat' first|refine' Dx|refine' zC|(apply y5;exact aj;exact cK;exact ax;exact ax;exact ax;(first|rfl|(simp;done));(exact rfl);assumption;exact mv;assumption;intros)|(apply Bc;exact aj;exact cK;exact ax;exact ax;exact ax;assumption;exact mv;exact mv;assumption;intros)|refine' cY|fail);(have z:(∀r,r<64->(Pg.mz (st.aS++st.bL) r:Int)<=st.aI.getD r 0)->Pg.jO st:=λu=>⟨m,Z,h3,Q,h4,λx V=>(A x V).1,λx V=>(w x V).1,λr hr=>by have:=u r hr;rw[Pg.l8] at this;omega⟩);refine W.bu (λk l L=>∃(i b1:Nat)(ao:aP)(co:Nat),Le [(1,bk b1),(86,H ao 64 co),(87,iv ((64:Nat):Int)),(88,iv (i:Int))] l/\cb [.box b1 (lL v st) 29 U,.aU (H ao 64 co) 3 1 (ab (Pg.fE (st.aS++st.bL)))] L/\k=64-i/\i<=64/\∀j,j<i->(Pg.mz (st.aS++st.bL) j:Int)<=st.aI.getD j 0) (λl L=>Pg.jO st) _ ⟨0,_,_,_,bd,ak,rfl,aa,λj F=>by omega⟩ ?_ ?_
    .rintro k l L ⟨i,b1,ao,co,B,hL,rfl,N,u⟩;refine' cP;have cg:=Pg.qa (st.aS++st.bL);by_cases hi:i<64
     .have hxx:(Pg.fE (st.aS++st.bL)).getD i au.ad=(Pg.mz (st.aS++st.bL) i:Int):=Pg.qb _ hi;have hd0:st.aI.getD i au.ad=st.aI.getD i 0:=rfl;by_cases hs:(Pg.mz (st.aS++st.bL) i:Int)<=st.aI.getD i 0
      ·(have h7:∀j,j<i+1->(Pg.mz (st.aS++st.bL) j:Int)<=st.aI.getD j 0:=λj F=>by by_cases d:j=i;subst d;exact hs;exact u j aa);refine' iK;all_goals exact⟨_,aa,i+1,_,_,_,bd,ak,rfl,aa,h7⟩
      rw[Pg.kc (λg=>hs (by have:=g.ow i hi;rw[Pg.l8];omega))];refine' iK;all_goals((refine' aC);rfl)
     (have:i=64:=by omega);subst this;refine' iK;all_goals exact z u
    rintro l L hg;refine aJ ?_;refine W.le ?_ (Le.nil _) (cb.nil _);rw[Pg.yZ hg];refine' eR;refine' aC;rfl
   rw[Pg.kc (λg=>w (Oj g).2)];(repeat' first|refine' Dx|refine' zC|(apply y5;exact aj;exact cK;exact ax;exact ax;exact ax;(first|rfl|(simp;done));(exact rfl);assumption;exact mv;assumption;intros)|(apply Bd;exact aj;exact cK;exact ax;exact ax;exact ax;assumption;exact mv;exact mv;assumption;intros)|refine' cY|fail);all_goals((refine' aC);rfl)
  rw[Pg.kc (λg=>A (Oj g).1)];(repeat' first|refine' Dx|refine' zC|(apply Ks;exact aj;exact cK;exact ax;exact ax;exact ax;(first|rfl|(simp;done));(exact rfl);assumption;exact mv;assumption;intros)|refine' cY|fail);all_goals((refine' aC);rfl)
 rw[Pg.kc (λg=>m ⟨g.sp,g.tx,g.kp,(Q5 st.bW st.dm 63).2 λj F=>g.la j aa⟩)];refine a8 f33 ?_;(repeat' first|(apply eV;exact aj;exact λs hr=>D s hr;exact dO;intros)|refine' uH|(apply dG;exact aj;exact λs hr=>SS s _ _ _ aT hr;exact ax;intros)|refine' cY|fail);all_goals first|((refine' aC);rfl)|skip
 all_goals(exfalso;exact m ⟨Pg.SK.1 aT,aT,aT,aa⟩)
section
variable {r:Value}{t:bt}
def sg (j:iu l xs vs)(h:∀s,jb s v st->jA E X g vs s (q7 v) r)(f:A4 Γ L v st)(k:∀m d,gk L m->m<=d->K r L m d (iI (q7 v) [] m d) (iJ [] m d)):WC E X Γ l g xs ts L K:=
 dZ j (λs hi=>⟨(f.row hi).2,h s (f.row hi).1⟩) k
def Vv (D:iu l xs vs)(hd:lN Γ)(h:∀s,fh s b v st->dy s->Zx E X g vs s (mL b v++[5,1]) b v st t)(j:eh Γ L b v st)
  (F:∀m d (P:B0),P.b=b->P.v=v->P.st=st->P.t=t->s4 P->gk L m->m<=d->K (.tuple ⟨[.pointer (C ⟨P.bf,0,O⟩),M (Vt (Pg.fF st t))]⟩) (L++Z7 P) m d (iI (mL b v++[5,1]) [] m d) (iJ [] m d))
  (G:∀m d,¬(dL st t=J/\Pg.gD st t)->gk L m->m<=d->K (.tuple ⟨[.pointer O,M U]⟩) L m d (iI (mL b v++[5,1]) [] m d) (iJ [] m d)):WC E X Γ l g xs ts L K:=
 E5 (cI (Lm:=[]) (R:=L) D (.refl _) (λs hi i hb=>(cG.1 hb).elim ((j.row hi).2 i) (hd.may hi i)) (λs hi=>h s (j.row hi).1 (hd.row hi).1) (by rintro v L' m d u hm (⟨P,f,w,z,A,B,rfl,rfl⟩|⟨f,rfl,rfl⟩);exact⟨_,Cm,F m d P f w z A B u hm⟩;exact⟨_,.refl _,G m d f u hm⟩))
end
def ZB {p:fm}(h:aQ p=J)(d:av p=U):0<=p.row/\p.row<64:=by have:=yE h;unfold aQ at h;rw[d] at h;simp[zq,fI] at h;omega
def Kt {st:ae}(h:tE st)(f:Pg.jO st):cZ 100000 st:=by
 have j:∀x∈st.aI,-(100000:Int)<=x/\x<=100000:=λx z=>by obtain⟨i,hi,rfl⟩:=si z;have d:=f.sp i (by have:=h.lf;omega);unfold Pg.yY at d;rw[eX,c8 hi] at d;simp only[lI] at d;omega
 have w:=f.tx;have s:=f.kp;exact⟨h.lr,h.lf,h.ll,h.rw,j,aa,aa,h.gl,h.dl,λp u=>by obtain⟨d,m,_⟩:=f.gn p u;exact ZB d m⟩
abbrev SU (E:hJ)(X:fb)(f:FuncId)(vs:aV)(s:St)(A:List Nat)(v:SA)(st:ae)(t:bt):Prop:=eJ E X f vs s [] A λR L=>(∃P:B0,P.v=v/\P.st=st/\P.t=t/\Pg.jO st/\s4 P/\R= .tuple ⟨[.pointer (C ⟨P.bf,0,O⟩),M (Vt (Pg.fF st t))]⟩/\L= .box P.b (lL v st) 29 U::Z7 P)\/(¬(Pg.jO st/\dL st t=J/\Pg.gD st t)/\R= .tuple ⟨[.pointer O,M U]⟩/\L=[])
def Om (s:St)(v:SA)(st:ae)(h:tE st)(t:bt)(hr:jb s v st)(hn:dy s):SU aZ aW 14 [eg v st,tv t] s (q7 v++[5,1]) v st t:=by
 refine' zab;have hd:lN ⟨s,([]:cq).flatMap It.bC,q7 v++[5,1]⟩:=lN.of hn aq aq;have j:=λs hr=>Ol s v st h hr;by_cases hg:Pg.jO st
 .rw[Pg.yZ hg] at j;have u:∀s,jb s v st->bM 33 [eg v st] s (q7 v) (M J):=j;clear j;have D:=Kt h hg;have h0:0<=st.dm:=by have:=hg.tx;omega
  have B:=λb s hr hn=>Gh Q4 s b v st D h0 t hr hn;refine a8 f14 ?_;(repeat' first|refine' AG|(apply sg;exact aj;(exact u);(exact⟨cJ.mk ax ax ax,ax,ax⟩);intros)|refine' qgb|fail);with_reducible apply Vv (v:=v) (st:=st) (t:=t)
  exact aj;exact hd;exact B _;exact eh.mk ax (cJ.mk ax ax ax)
  .rintro m N P hb hv F ht A _ _;dsimp only[List.cons_append,List.nil_append];refine' iK;all_goals exact⟨bK,_,.box P.b (lL v st) 29 U::Z7 P,bH,by(rw[hb];exact wj),.inl ⟨P,hv,F,ht,hg,A,rfl,rfl⟩⟩
  rintro m N z _ _;refine' iK;all_goals exact⟨bK,_,[],bH,cb.nil _,.inr ⟨λG=>z G.2,rfl,rfl⟩⟩
 rw[Pg.kc hg] at j;have u:∀s,jb s v st->bM 33 [eg v st] s (q7 v) (M U):=j;refine a8 f14 ?_;(repeat' first|refine' AG|(apply sg;exact aj;(exact u);(exact⟨cJ.mk ax ax ax,ax,ax⟩);intros)|refine' qgb|fail);all_goals exact⟨bK,_,[],bH,cb.nil _,.inr ⟨λG=>hg G.1,rfl,rfl⟩⟩
variable {sz:Nat}
def On [ht:ky E t e sz](j:Ev l x (H a n c))(m:Ev l y (ew))(k:∀n,K (M a.isNone) L n n Z Z):WO E X Γ l (.binOp .eql t x y t2) L K:=fZ j m (λs=>by obtain⟨f,_⟩:=ht.h;show ob (iE E t) (λd=>xQ .eql (V9 E d (H a n c) (ew)))=_;rw[f];cases a<;>rfl) k
def Be:∀p:List aw,p≠[]->pathOf p=47::eQ [47] p:=λp h=>by
 unfold pathOf;rw[af h];have key:∀(x:aw)(l:List aw),((x::l).map λs=>47::s).flatten=47::eQ [47] (x::l):=λx l=>by
  induction l generalizing x with
  |nil=>simp[eQ]
  |cons y l ih=>rw[lF,GI,ih y];show(47::x)++47::eQ [47] (y::l)=47::(x++([47]++eQ [47] (y::l)));simp
 cases p with
 |nil=>exact absurd rfl h
 |cons x l=>exact key x l
def Ku (d:∀s,bM 99 [ew,sv [47]] s [] (sv []))(s:St)(a:aP)(c:Nat)(p:List aw)(h0:p=[]->a=O/\c=0)(h2:Y p<=200)(hn:∀x∈p,Y x<=4)(hr:bJ s a (Y p) 1 (ab p))(hv:tg s a (Y p) c 9 1):bM 43 [H a (Y p) c] s (ah a) (sv (pathOf p)):=by
 by_cases f:p=[]
 .obtain⟨rfl,rfl⟩:=h0 f;subst f;refine a8 f43 ?_;(repeat' first|refine' AG|(apply ag;exact aj;(exact d);intros)|refine' qgy|fail)
 have hl:=zV p f hn;rw[Be p f];exact AT s a c p (wq.2 f) aa aa hr hv
def Q7 (s:St)(a:aP)(c:Nat)(p:List aw)(h0:p=[]->a=O/\c=0)(h2:Y p<=200)(hr:bJ s a (Y p) 1 (ab p)):eD aZ aW 44 [H a (Y p) c] s (ah a) 9 p:=by
 have f:Rd ⟨s,([]:cq).flatMap It.bC,ah a⟩ a (Y p) 1 (ab p):=Rd.of hr λ_ hb=>hb;by_cases d:p=[]
 .obtain⟨rfl,rfl⟩:=h0 d;subst d;refine a8 f44 ?_;refine W.lO (α:=aw) (e:=9) ?_;(repeat' first|refine' AG|(apply On;exact bN;exact bN;intro _)|refine' gL|fail);all_goals first|(exfalso;omega;done)|contradiction|(exfalso;simp at *;done)|skip
  all_goals exact⟨bK,_,_,bH,ak,O,0,rfl,rfl⟩
 obtain⟨b,o,cs,e,w,rfl,_⟩:=hr.bD (wq.2 d);refine a8 f44 ?_;refine W.lO (α:=aw) (e:=9) ?_;(repeat' first|refine' AG|(apply On;exact bN;exact bN;intro _)|((with_reducible apply gb (α:=aw) (xs:=[]));exact nI;exact rfl;exact rfl;intro bl _)|refine' gL|fail);all_goals first|(exfalso;omega;done)|contradiction|(exfalso;simp at *;done)|skip
 all_goals exact⟨bK,_,_,bH,ak,_,_,rfl,rfl⟩
end Go.Pl
namespace Go.Pg
open Go.Pl
variable {n:aw}{G:Gr}{st:ae}
def vB:∀(p a b:aw),bP (p++a) (p++b)=bP a b
 |[],a,b=>rfl
 |c::p,a,b=>by show(if c.toNat<c.toNat then J else if c.toNat<c.toNat then U else bP (p++a) (p++b))=_;rw[af (Aj _),af (Aj _),vB p a b]
def Fc (a:aw)(c:UInt8)(b:aw):bP a (a++c::b)=J:=by have:=vB a [] (c::b);rw[fT] at this;rw[this];rfl
def Tl (r:aw):Prop:=r=[]\/∃a,r=47::a
def Bf:∀(a b r s:aw),(∀c∈a,47<c.toNat)->(∀c∈b,47<c.toNat)->bP a b=J->Tl r->Tl s->bP (a++r) (b++s)=J
 |[],[],r,s,_,_,h,_,_=>by cases h
 |_::_,[],r,s,_,_,h,_,_=>by cases h
 |[],d::b,r,s,_,hb,_,hr,_=>by obtain rfl|⟨j,rfl⟩:=hr;rfl;have f:(47:UInt8).toNat<d.toNat:=hb d aq;show(if(47:UInt8).toNat<d.toNat then J else if d.toNat<(47:UInt8).toNat then U else bP j (b++s))=J;rw[ai f]
 |c::a,d::b,r,s,ha,hb,h,hr,hs=>by have e:(if c.toNat<d.toNat then J else if d.toNat<c.toNat then U else bP a b)=J:=h;show(if c.toNat<d.toNat then J else if d.toNat<c.toNat then U else bP (a++r) (b++s))=J;by_cases f:c.toNat<d.toNat;rw[ai f];rw[af f] at e⊢;by_cases i:d.toNat<c.toNat;rw[ai i] at e;cases e;rw[af i] at e⊢;exact Bf a b r s (λx g=>ha x (by simp[g])) (λx g=>hb x (by simp[g])) e hr hs
def bs (p:aw):aw:=if p=[47] then [] else p
def om (p n:aw):bb p n=bs p++47::n:=by unfold bb bs;split<;>rfl
def aeM (p:aw)(h:n≠[]):bb p n≠[47]:=λhc=>by have:=congrArg List.length hc;rw[om,dB,fS,vJ] at this;have:=wq.2 h;omega
def Kv (p:aw)(h:n≠[]):bs (bb p n)=bb p n:=by show(if bb p n=[47] then [] else bb p n)=_;rw[af (aeM p h)]
def y6 (hn:∀k,∀x∈aY G k,x.name≠[]):∀(f:Nat)(x:cB),bs x.ar=x.ar->∀y∈wl G f x,∃r,y.ar=x.ar++r/\Tl r
 |0,x,_,y,a=>by
  have:y=x:=by simpa[wl] using a
  subst this;exact⟨[],aq,.inl rfl⟩
 |f+1,x,hb,y,a=>by rw[wl] at a;obtain rfl|a:=cA.1 a;exact⟨[],aq,.inl rfl⟩;obtain⟨e,c,a⟩:=kZ.1 a;obtain⟨r,b,d⟩:=y6 hn f ⟨bb x.ar e.name,e.id⟩ (Kv _ (hn _ e c)) y a;refine⟨47::(e.name++r),?_,.inr ⟨_,rfl⟩⟩;rw[b];show bb x.ar e.name++r=_;rw[om,hb,iD];rfl
def ach (h:∀k e,G k=C e->R0 e):∀k,∀x∈aY G k,x.name≠[]:=λk x a hc=>by have:=(gJ (oz h a).2.2).2;rw[hc] at this;simp at this
def Kw (h:∀k e,G k=C e->R0 e){k:Nat}{x:az}(a:x∈aY G k):∀c∈x.name,47<c.toNat:=λc hc=>by have:=(gJ (oz h a).2.2).1 c hc;omega
def B1 (h:∀k e,G k=C e->R0 e):∀(f:Nat)(x:cB),(wl G f x).Pairwise λa b=>bP a.ar b.ar=J
 |0,x=>by rw[wl];exact KH _ _
 |f+1,x=>by
  have hn:=ach h;rw[wl,qQ];refine⟨λy g=>?_,?_⟩;obtain⟨e,l,g⟩:=kZ.1 g;obtain⟨r,i,p⟩:=y6 hn f ⟨bb x.ar e.name,e.id⟩ (Kv _ (hn _ e l)) y g;rw[i];show bP x.ar (bb x.ar e.name++r)=J;rw[om];unfold bs;by_cases o:x.ar=[47];rw[ai o,o];cases m:e.name with
  |nil=>exact absurd m (hn _ e l)
  |cons c s=>exact Fc [47] c (s++r)
  rw[af o,iD];exact Fc _ 47 _;rw[List.pairwise_flatMap];refine⟨λe l=>B1 h f _,?_⟩;have d:RY (aY G x.id.toNat):=(oK _).1 (ea (ou h _)).2.1;refine List.Pairwise.imp_of_mem ?_ d;intro a b ha hb j y g z u;obtain⟨r,i,p⟩:=y6 hn f ⟨bb x.ar a.name,a.id⟩ (Kv _ (hn _ a ha)) y g;obtain⟨s,q,t⟩:=y6 hn f ⟨bb x.ar b.name,b.id⟩ (Kv _ (hn _ b hb)) z u;rw[i,q];show bP (bb x.ar a.name++r) (bb x.ar b.name++s)=J;rw[om,om,iD,iD,vB];show bP ([47]++(a.name++r)) ([47]++(b.name++s))=J;rw[vB];exact Bf _ _ _ _ (Kw h ha) (Kw h hb) j p t
def Fe {names:List aw}{s:aw}(h:∀x∈names,bG x=J):bb (pathOf names) s=pathOf (names++[s]):=by
 unfold bb pathOf;rw[af (show names++[s]≠[] by simp)];cases names with
 |nil=>simp
 |cons a l=>rw[af (show a::l≠[] by simp)];rw[af];simp;intro hc;have:=congrArg List.length hc;have ha:=(gJ (h a aq)).2;rw[lF,GI,dB] at this;simp at this;omega
def B2 (h:∀k e,G k=C e->R0 e):∀(f:Nat)(x:cB)(names:List aw),look G names 0=C x.id.toNat->(∀s∈names,bG s=J)->x.ar=pathOf names->0<=x.id->∀y∈wl G f x,∃g,y.ar=pathOf g/\(∀s∈g,bG s=J)/\look G g 0=C y.id.toNat/\0<=y.id
 |0,x,names,c,b,d,h0,y,a=>by
  have:y=x:=by simpa[wl] using a
  subst this;exact⟨names,d,b,c,h0⟩
 |f+1,x,names,c,b,d,h0,y,a=>by rw[wl] at a;obtain rfl|a:=cA.1 a;exact⟨names,d,b,c,h0⟩;obtain⟨e,i,a⟩:=kZ.1 a;have hid:=oz h i;refine B2 h f ⟨bb x.ar e.name,e.id⟩ (names++[e.name]) ?_ (λs hs=>?_) ?_ (by show 0<=e.id;omega) y a;rw[nu,c];exact Hm h i;rcases cG.1 hs with hs|hs;exact b s hs;rw[gI] at hs;subst hs;exact hid.2.2;show bb x.ar e.name=_;rw[d,Fe b]
def ZC:∀(f:Nat)(x:cB),∀y∈wl G f x,y=x\/∃w∈wl G f x,∃e∈aY G w.id.toNat,y=⟨bb w.ar e.name,e.id⟩
 |0,x,y,a=>.inl (by simpa[wl] using a)
 |f+1,x,y,a=>by rw[wl] at a;obtain rfl|a:=cA.1 a;exact .inl rfl;obtain⟨e,c,a⟩:=kZ.1 a;obtain rfl|⟨w,g,d,b,rfl⟩:=ZC f ⟨bb x.ar e.name,e.id⟩ y a;exact .inr ⟨x,by rw[wl];exact ed,e,c,rfl⟩;exact .inr ⟨w,by rw[wl];exact dI _ (kZ.2 ⟨e,c,g⟩),d,b,rfl⟩
def aci (G:Gr)(f:Nat)(x:cB):x∈wl G f x:=by cases f<;>simp[wl]
def qh:∀(L:List dX)(k:Nat)(x:eF),x∈cz st k L↔∃i,i<Y L/\(((L.getD i aK).kind=2/\x=⟨((k+i:Nat):Int),J,[]⟩)\/((L.getD i aK).kind=1/\x=⟨((k+i:Nat):Int),U,a6 st (L.getD i aK)⟩))
 |[],k,x=>by simp[cz]
 |n::L,k,x=>by
  rw[cz,cG,qh L (k+1) x];constructor;rintro(h|⟨i,hi,h⟩);refine⟨0,aq,?_⟩;rw[As];split at h;rename_i a;exact .inl ⟨a,by simpa using h⟩;split at h;rename_i a;exact .inr ⟨a,by simpa using h⟩;cases h;refine⟨i+1,by simp;omega,?_⟩;rwa[vM,show k+(i+1)=k+1+i by omega];rintro⟨i,hi,h⟩;cases i with
  |zero=>rw[As] at h;left;obtain⟨a,rfl⟩|⟨a,rfl⟩:=h;rw[ai a];simp;rw[af aa,ai a];simp
  |succ i=>rw[vM,show k+(i+1)=k+1+i by omega] at h;exact .inr ⟨i,by simpa using hi,h⟩
def u3:∀(L:List dX)(k:Nat),(cz st k L).Pairwise λa b=>a.id<b.id
 |[],k=>by rw[cz];exact KM
 |n::L,k=>by
  rw[cz,List.pairwise_append];refine⟨?_,u3 L (k+1),λa ha b hb=>?_⟩;split;exact KH _ _;split;exact KH _ _;exact KM;obtain⟨i,hi,hb⟩:=(qh L (k+1) b).1 hb;have d:b.id=((k+1+i:Nat):Int):=by obtain⟨_,rfl⟩|⟨_,rfl⟩:=hb<;>rfl
  have c:a.id=(k:Int):=by split at ha;(have:a=⟨k,J,[]⟩:=by simpa using ha);rw[this];split at ha;(have:a=⟨k,U,a6 st n⟩:=by simpa using ha);rw[this];cases ha
  omega
end Go.Pg
namespace Go.Pl
open Go Go.Ev Go.Lg Go.Proofs
variable {E:hJ}{X:fb}{Γ:ng}{l:Kn}{L R:cq}{K:KO}{g:FuncId}{xs:List Operand}{ts:Array TypeId}{vs rest:aV}{a an:aP}{ns:List aw}{P:B0}
abbrev lP (bv tb:Nat)(rest:aV)(a:aP)(c:Nat)(out:List cB):cq:=[.box bv (H a (Y out) c::rest) tb U,.aU (H a (Y out) c) 48 2 (ab out)]
abbrev qi (E:hJ)(X:fb)(g:FuncId)(vs:aV)(s:St)(A:List Nat)(bv tb:Nat)(rest:aV)(a:aP)(c:Nat)(out W:List cB):Prop:=eJ E X g vs s (lP bv tb rest a c out) A λR L=>R= .tuple ⟨[]⟩/\∃a' c',L=lP bv tb rest a' c' (out++W)
def l9.lt {s:St}{P:B0}(h:l9 s P):∀b∈nD P,b<s.next:=λb hb=>(((jF.of (A:=nD P) h λ_ hb=>hb).has (L:=[]) s uU).2 b hb).1
section
variable {bv tb c cn:Nat}{out W:List cB}
def Ix (i:iu l xs vs)(f:l3 (lP bv tb rest a c out) L R)(h:∀s,qi E X g vs s [] bv tb rest a c out W)(k:∀m d a' c',gk L m->m<=d->K (.tuple ⟨[]⟩) (.box bv (H a' (Y (out++W)) c'::rest) tb U:: .aU (H a' (Y (out++W)) c') 48 2 (ab (out++W))::R) m d (iI [] (lP bv tb rest a c out) m d) (iJ (lP bv tb rest a c out) m d)):WC E X Γ l g xs ts L K:=
 cI (Lm:=lP bv tb rest a c out) (R:=R) (A:=[]) i f.bX (λs hi b hb=>by cases hb) (λs hi=>h s) (by rintro j L' m d e hm ⟨rfl,a',c',rfl⟩;exact k m d a' c' e hm)
def Bg (n:iu l xs vs)(i:l3 (lP bv tb rest a c out) L R)(d:jF Γ P)(hn:It.aU (H an (Y ns) cn) 9 1 (ab ns)∈R)(h:∀s,l9 s P->bJ s an (Y ns) 1 (ab ns)->tg s an (Y ns) cn 9 1->(∀b∈nD P++ah an,b∉(lP bv tb rest a c out).flatMap It.bC)->qi E X g vs s (nD P++ah an) bv tb rest a c out W)(k:∀m e a' c',gk L m->m<=e->K (.tuple ⟨[]⟩) (.box bv (H a' (Y (out++W)) c'::rest) tb U:: .aU (H a' (Y (out++W)) c') 48 2 (ab (out++W))::R) m e (iI (nD P++ah an) (lP bv tb rest a c out) m e) (iJ (lP bv tb rest a c out) m e)):WC E X Γ l g xs ts L K:=
 cI (Lm:=lP bv tb rest a c out) (R:=R) n i.bX (λs hi b hb=>by
   obtain hb|hb:=cG.1 hb
   .exact(d.has (L:=L) s hi).2 b hb
   .exact((ga.aU hn).row (hi.bX i.bX|>.sub ⟨R,.refl _,o7 _ _⟩)).2 b hb)
   (λs hi=>by
    (have f:=hi.bX i.bX|>.sub ⟨R,.refl _,o7 _ _⟩;have p:=(ga.aU hn).row f;refine h s (d.has (L:=L) s hi).1 p.1 (nV.slv (f.it _ hn) λb hb=>(p.2 b hb).1) λb hb=>?_);obtain hb|hb:=cG.1 hb
    .intro hm;obtain⟨x,n,o⟩:=kZ.1 hm;have j:=((hi.bX i.bX).lt x (im _ n) b o).2;have r:=d.r0.lt b hb;obtain j|j:=j
     .omega
     .exact d.M b hb j
    .exact ga.apart (.aU hn) (hi.bX i.bX) b hb)
   (by rintro t L' m e q hm ⟨rfl,a',c',rfl⟩;exact k m e a' c' q hm)
end
def s4.look {P:B0}(h:s4 P)(k:Nat):∃a c es,(cO P.M (k:Int)).getD (O,0,[])=(a,c,es)/\Pg.aY (Pg.fF P.st P.t) k=es/\(es=[]\/((k:Int),a,c,es)∈P.M)/\Y es<=12/\∀e∈es,bG e.name=J/\1<=e.id/\e.id<=15:=by
 by_cases hd:Pg.jQ (Pg.fF P.st P.t) k;obtain⟨a,c,es,b,i,m⟩:=h.Zt hd;obtain⟨d,f⟩:=E9 m;exact⟨a,c,es,by rw[b];rfl,i,.inr (vA b),d,f⟩;have b:cO P.M (k:Int)=O:=Aa λx q o=>by obtain⟨j,n,i,m,d,f⟩:=h.en.only x q;(have:j=k:=by omega);subst this;exact hd ⟨_,Pg.og d,f⟩
 refine⟨O,0,[],by rw[b];rfl,?_,.inl rfl,aq,λe p=>by cases p⟩;cases hn:(Pg.bI P.st P.t).getD k O with
 |none=>unfold Pg.aY;rw[Pg.y3 hn]
 |some n=>rw[Pg.E1 k hn,af];intro o;exact hd ⟨_,Pg.og hn,o⟩
def Q8 {L:cq}{g:FuncId}{xs:List Operand}{ts:Array TypeId}{vs:aV}{n sz:Nat}{cs:aV}{α:Type}{b d:Nat}{enc:au α b}{p:List α}(e:iu l xs vs)(hd:Rd Γ a n sz cs)(h:∀s,bJ s a n sz cs->eD E X g vs s (ah a) d p)(k:∀m c a' c',gk L m->m<=c->K (H a' (Y p) c') (.aU (H a' (Y p) c') d b (ab (sz:=b) p)::L) m c (iI (ah a) [] m c) (iJ [] m c)):WC E X Γ l g xs ts L K:=
 oG e (λs hi=>⟨((ga.rd (L:=L) hd).row hi).2,h s ((ga.rd (L:=L) hd).row hi).1⟩) k
def Oo {L R:cq}{x y:Operand}{t t2:TypeId}{sz:Nat}{α:Type}{enc:au α sz}{e c c2:Nat}{a a2:aP}{p q:List α}[ht:TT E t e sz α enc][ht2:TT E t2 e sz α enc](m:Ev l x (H a (Y p) c))(n:Ev l y (H a2 (Y q) c2))(hr:Bm (.aU (H a (Y p) c) e sz (ab (sz:=sz) p)) L R)(hs:ga Γ L a2 (Y q) sz (ab (sz:=sz) q))(hn:Y p+Y q<=1000000)
  (k:∀b b' a' c',gk L b->b<=b'->(∀i∈ah a',i∈ah a\/i=b)->Hid (L.flatMap It.bC).Nodup->K (H a' (Y (p++q)) c') (.aU (H a' (Y (p++q)) c') e sz (ab (sz:=sz) (p++q))::R) b b' (λi=>i∈ah a2\/i∈ah a\/i=b) (λi=>i∈ah a\/i=b)):WO E X Γ l (.call ⟨.builtin .append,⟨[x,y]⟩,⟨[t,t2]⟩⟩) L K:=λo s j d=>
 wR m n hr hs hn (λb b' a' c' f g2 h=>k b b' a' c' f g2 h ⟨d.nd⟩) o s j d
def Ff (acj:∀s,bM 99 [ew,sv [47]] s [] (sv []))(P:B0)(x8:s4 P)(d:Nat->Nat)(hd:∀k,∀x∈Pg.aY (Pg.fF P.st P.t) k,d k<d x.id.toNat)(Z:∀k,d k<=16)(g bv tb:Nat)(rest:aV)(ag5:∀s x a c out,Y out<=1000->qi aZ aW g [.agg ⟨xc x⟩,bk bv] s [] bv tb rest a c out [x]):∀(f:Nat)(s:St)(id:Nat)(an:aP)(cn:Nat)(ns:List aw)(a:aP)(c:Nat)(out:List cB),17<=f+d id->Y ns+f<=200->(∀n∈ns,bG n=J)->(ns=[]->an=O/\cn=0)->Y out+Y (Pg.wl (Pg.fF P.st P.t) f ⟨pathOf ns,(id:Int)⟩)<=1000->l9 s P->bJ s an (Y ns) 1 (ab ns)->tg s an (Y ns) cn 9 1->(∀b∈nD P++ah an,b∉(lP bv tb rest a c out).flatMap It.bC)->qi aZ aW 18 [.pointer (C ⟨P.bf,0,O⟩),iv id,H an (Y ns) cn,.func (.func g) ⟨[]⟩ ⟨[bk bv]⟩] s (nD P++ah an) bv tb rest a c out (Pg.wl (Pg.fF P.st P.t) f ⟨pathOf ns,(id:Int)⟩)
 |0,s,id,an,cn,ns,a,c,out,hf,hl,N,hn0,cg,hrf,hrn,Q,hdj=>by have:=Z id;omega
 |f+1,s,id,an,cn,ns,a,c,out,hf,hl,N,hn0,cg,hrf,hrn,ajb,hdj=>by
  obtain⟨a1,c1,es,aeG,GZ,ajc,hel,hee⟩:=x8.look id;have hwl:Pg.wl (Pg.fF P.st P.t) (f+1) ⟨pathOf ns,(id:Int)⟩=⟨pathOf ns,(id:Int)⟩::es.flatMap λe=>Pg.wl (Pg.fF P.st P.t) f ⟨bb (pathOf ns) e.name,e.id⟩:=by rw[Pg.wl];show _::(Pg.aY (Pg.fF P.st P.t) (id:Int).toNat).flatMap _=_;rw[px,GZ]
  have hds:∀e∈es,d id<d e.id.toNat:=λe he=>hd id e (by rwa[GZ]);have hih:=Ff acj P x8 d hd Z g bv tb rest ag5 f;rw[hwl] at cg⊢;rw[fS] at cg;have u:jF ⟨s,(lP bv tb rest a c out).flatMap It.bC,nD P++ah an⟩ P:=⟨hrf,λb hb=>im _ hb,λb hb=>hdj b (im _ hb)⟩;have G:Rd ⟨s,(lP bv tb rest a c out).flatMap It.bC,nD P++ah an⟩ an (Y ns) 1 (ab ns):=⟨hrn,λb hb=>dt _ hb,λb hb=>hdj b (dt _ hb)⟩;have Q:tg (ng.s0 ⟨s,(lP bv tb rest a c out).flatMap It.bC,nD P++ah an⟩) an (Y ns) cn 9 1:=ajb;have NU:=u.bx;have hn4:∀n∈ns,Y n<=4:=λn hn=>(Pg.gJ (N n hn)).2.2;have hpt:=λs hr hv=>Ku acj s an cn ns hn0 aa hn4 hr hv;have Tc:=λs hr=>Q7 s an cn ns hn0 aa hr;have hvi:=λs a c=>ag5 s ⟨pathOf ns,(id:Int)⟩ a c out aa;have OR:=λnm=>Pg.Fe (names:=ns) (s:=nm) N;generalize hM:(lP bv tb rest a c out).flatMap It.bC=M at u G Q NU;generalize hA:nD P++ah an=A at u G Q NU;refine a8 f18 ?_;try rw[hM]
  try rw[hA]
  dsimp only[lP];(repeat' first|refine' AG|(apply zE;exact aj;(intro s z v;exact hpt s z v);(exact G);(exact Q);intros)|(apply Jr;(exact Ev.tmp rfl);exact aj;skip)|(apply Ix;(exact vl _);exact cK;(intro s;exact hvi s _ _);intro _ _ ajd aje _ _)|(apply xx;(exact u);(exact aeG);(exact(by kernel_rfl));(exact(by kernel_rfl));(intro k;exact rfl);(exact(by kernel_rfl));exact bN;exact bN;intro _)|refine' qgb|fail);refine W.bu (λm l L=>∃(i:Nat)(B:aP)(F:Nat)(w:List cB),Le [(0,.pointer (C ⟨P.bf,0,O⟩)),(2,H an (Y ns) cn),(3,.func (.func g) ⟨[]⟩ ⟨[bk bv]⟩),(21,H a1 (Y es) c1),(22,iv (Y es:Int)),(23,iv (i:Int))] l/\cb [.box bv (H B (Y w) F::rest) tb U,.aU (H B (Y w) F) 48 2 (ab w)] L/\m=Y es-i/\i<=Y es/\w=out++⟨pathOf ns,(id:Int)⟩::(es.take i).flatMap (λe:az=>Pg.wl (Pg.fF P.st P.t) f ⟨bb (pathOf ns) e.name,e.id⟩))
   (λl L=>∃(B:aP)(F:Nat)(w:List cB),cb [.box bv (H B (Y w) F::rest) tb U,.aU (H B (Y w) F) 48 2 (ab w)] L/\w=out++⟨pathOf ns,(id:Int)⟩::es.flatMap (λe:az=>Pg.wl (Pg.fF P.st P.t) f ⟨bb (pathOf ns) e.name,e.id⟩)) _ ⟨0,ajd,aje,out++[⟨pathOf ns,(id:Int)⟩],bd,ak,rfl,aa,rfl⟩ ?_ ?_
  .rintro m l L ⟨i,B,F,w,Bk,hL,rfl,hi0,y⟩;refine' cP;by_cases hi:i<Y es
   .have hem:=a7 (show i<Y es by omega) au.ad;(have GX:es≠[]:=λh=>by rw[h] at hi;cases hi);have hen:Rd ⟨s,M,A⟩ a1 (Y es) 2 (ab es):=u.en (ajc.resolve_left GX);obtain⟨hnm,ai5,ai6⟩:=hee _ hem;have hdi:=hds _ hem;have ZX:=dS es au.ad hi;(have Sc:es=es.take i++(es.getD i au.ad)::es.drop (i+1):=by rw[<-qg es au.ad hi,vC]);(have TA:es.flatMap (λe:az=>Pg.wl (Pg.fF P.st P.t) f ⟨bb (pathOf ns) e.name,e.id⟩)=(es.take i).flatMap (λe:az=>Pg.wl (Pg.fF P.st P.t) f ⟨bb (pathOf ns) e.name,e.id⟩)++((λe:az=>Pg.wl (Pg.fF P.st P.t) f ⟨bb (pathOf ns) e.name,e.id⟩) (es.getD i au.ad)++(es.drop (i+1)).flatMap (λe:az=>Pg.wl (Pg.fF P.st P.t) f ⟨bb (pathOf ns) e.name,e.id⟩)):=by (conv=>lhs;rw[Sc]);rw[xH,mR]);(have ho3:Y w+Y ((λe:az=>Pg.wl (Pg.fF P.st P.t) f ⟨bb (pathOf ns) e.name,e.id⟩) (es.getD i au.ad))<=1000:=by rw[TA,dB,dB] at cg;rw[y,dB,fS];omega);obtain⟨j,hj⟩:=tI (show 0<=(es.getD i au.ad).id by omega);(have hjt:(es.getD i au.ad).id.toNat=j:=by rw[hj];rfl);(have hwk:∀(s:St)(r:aP)(D:Nat)(a:aP)(c:Nat)(o:List cB),Y o+Y ((λe:az=>Pg.wl (Pg.fF P.st P.t) f ⟨bb (pathOf ns) e.name,e.id⟩) (es.getD i au.ad))<=1000->l9 s P->bJ s r (Y (ns++[(es.getD i au.ad).name])) 1 (ab (ns++[(es.getD i au.ad).name]))->tg s r (Y (ns++[(es.getD i au.ad).name])) D 9 1->(∀b∈nD P++ah r,b∉(lP bv tb rest a c o).flatMap It.bC)->qi aZ aW 18 [.pointer (C ⟨P.bf,0,O⟩),iv (es.getD i au.ad).id,H r (Y (ns++[(es.getD i au.ad).name])) D,.func (.func g) ⟨[]⟩ ⟨[bk bv]⟩] s (nD P++ah r) bv tb rest a c o ((λe:az=>Pg.wl (Pg.fF P.st P.t) f ⟨bb (pathOf ns) e.name,e.id⟩) (es.getD i au.ad)):=λs r D a c o z v h3 h4 h5=>by have h6:=hih s j r D (ns++[(es.getD i au.ad).name]) a c o (by rw[hjt] at hdi;omega) (by rw[dB,vJ];omega) (λn hn=>by obtain hn|hn:=cG.1 hn;exact N n hn;rw[gI] at hn;subst hn;exact hnm) (λhx=>absurd hx aq);rw[<-OR,<-hj] at h6;exact h6 z v h3 h4 h5);clear hih Sc TA cg;(repeat' first|refine' AG|(apply Q8;exact aj;(exact G);(exact Tc);intro _ _ S ajf _ _)|((with_reducible apply gb (α:=aw) (xs:=[_]));exact nI;exact rfl;exact rfl;intro bl _)|(apply Oo;exact bN;exact bN;exact Bn;exact ax;(simp only[fS,jm];omega);intro _ _ yy yz _ _ _ mU)|((with_reducible apply Bg (P:=P));exact aj;exact cK;(exact u);exact kD;(intro s z v h3 h4;exact hwk s _ _ _ _ _ aT z v h3 h4);intro _ _ T V _ _)|refine' qgb|fail);(have hba:ba∉ah S:=λhm=>by have h:=mU.out;rw[mR,mR,mR] at h;have v:=(vD.1 (vD.1 h).2.1).2.2 ba (by show ba∈nH (H S (Y ns) ajf);rwa[jV]) ba (im _ (by show ba∈[ba];simp));exact v rfl);refine yh (λ_ _ h _=>h.elim) (λb_ _ z v=>?_) ?_;have z:b_=ba:=z;subst z;obtain v|v:=v;exact hba v;have:=hold.1;omega;(repeat' first|refine' AG|((with_reducible apply Bg (P:=P));exact aj;exact cK;(exact u);exact kD;(intro s z v h3 h4;exact hwk s _ _ _ _ _ aT z v h3 h4);intro _ _ T V _ _)|refine' qgb|fail);exact⟨_,aa,i+1,T,V,w++(λe:az=>Pg.wl (Pg.fF P.st P.t) f ⟨bb (pathOf ns) e.name,e.id⟩) (es.getD i au.ad),bd,ak,rfl,aa,by(rw[y,ZX,xH,List.flatMap_singleton,iD,jk])⟩
   (have hi:i=Y es:=by omega);rw[hi,lG] at y;refine' iK;all_goals exact⟨B,F,w,ak,y⟩
  rintro l L ⟨B,F,w,hL,y⟩;subst y;exact⟨.inl rfl,[],_,AE.nil,hL,rfl,B,F,rfl⟩
def Vw (s:St)(bv:Nat)(rest:Value)(x:cB)(a:aP)(c:Nat)(out:List cB)(b:Y out<=1000):qi aZ aW 35 [.agg ⟨xc x⟩,bk bv] s [] bv 39 [rest] a c out [x]:=by
 obtain⟨p,i⟩:=x;refine a8 f35 ?_;dsimp only[lP,xc];repeat' first|refine' AG|refine' acV|refine' qgb|fail
 all_goals exact⟨bK,[],_,bH,ak,rfl,_,_,rfl⟩
def Fg (s:St)(bv:Nat)(x:cB)(a:aP)(c:Nat)(out:List cB)(b:Y out<=1000):qi aZ aW 19 [.agg ⟨xc x⟩,bk bv] s [] bv 36 [] a c out [x]:=by
 obtain⟨p,i⟩:=x;refine a8 f19 ?_;dsimp only[lP,xc];repeat' first|refine' AG|refine' acV|refine' qgb|fail
 all_goals exact⟨bK,[],_,bH,ak,rfl,_,_,rfl⟩
def Oq:∀l:List cB,(l.Pairwise λa b=>bP a.ar b.ar=J)->Ev.lW l=l
 |[],_=>rfl
 |x::l,h=>by
  rw[qQ] at h;show Ev.uo x (Ev.lW l)=_;rw[Oq l h.2];cases l with
  |nil=>rfl
  |cons y l=>show(if bP x.ar y.ar=J then _ else _)=_;rw[ai (h.1 y ed)]
def Ot {a b:aw}(h:bP a b=J):a≠b:=by
 rintro rfl;have:∀s:aw,bP s s=U:=λs=>by
  induction s with
  |nil=>rfl
  |cons c s ih=>simp[bP,ih]
 rw[this a] at h;cases h
def Vx {l:List cB}(h:l.Pairwise λa b=>bP a.ar b.ar=J):Ev.CN l=J:=by unfold Ev.CN;rw[gv,List.Nodup,Af];exact h.imp λh=>Ot h
def Vy (e:∀s,bM 91 [ew,.func (.func 92) ⟨[]⟩ ⟨[]⟩] s [] (.tuple ⟨[]⟩))(s:St)(b:Nat)(a:aP)(c:Nat)(p:List cB)(h1:1<=Y p)(i:Y p<=1000)(f:p.Pairwise λa b=>bP a.ar b.ar=J):qi aZ aW 36 [bk b] s [] b 39 [ew] a c p []:=by
 have d:∀s,Ht 88 [H a (Y p) c,.func (.func 89) ⟨[]⟩ ⟨[]⟩] s [.aU (H a (Y p) c) 48 2 (ab p)] [] λR L=>R= .tuple ⟨[]⟩/\L=[.aU (H a (Y p) c) 48 2 (ab p)]:=λs=>by have:=Y0 s a c (Y p) p h1 (fG _) aa (by rw[lG];exact Vx f);rwa[lG,re,fT,Oq p f] at this
 refine a8 f36 ?_;dsimp only[lP];(repeat' first|refine' AG|(apply Y1;exact aj;(intro s;exact d s);exact cK;intros)|(apply ag;exact aj;(exact e);intros)|refine' qgb|fail);all_goals exact⟨bK,[],lP b 39 [ew] a c p,bH,ak,rfl,a,c,by rw[fT]⟩
def gH (st:ae):Nat->List (Option dX)->ot
 |_,[]=>[]
 |k,O::l=>gH st (k+1) l
 |k,C n::l=>⟨(k:Int),decide (n.kind=2),(iL st n).getD []⟩::gH st (k+1) l
def u4 (st:ae)(o:Option dX):∀(l:List (Option dX))(k:Nat),gH st k (l++[o])=gH st k l++(match o with
  |none=>[]
  |some n=>[⟨((k+Y l:Nat):Int),decide (n.kind=2),(iL st n).getD []⟩])
 |[],k=>by cases o<;>rfl
 |O::l,k=>by show gH st (k+1) (l++[o])=gH st (k+1) l++_;rw[u4 st o l (k+1),fS,show k+1+Y l=k+(Y l+1) by omega]
 |C n::l,k=>by show _::gH st (k+1) (l++[o])=_::gH st (k+1) l++_;rw[u4 st o l (k+1),fS,show k+1+Y l=k+(Y l+1) by omega];rfl
def xy (st:ae):∀(l:List (Option dX))(k:Nat),Y (gH st k l)<=Y l
 |[],_=>fG _
 |O::l,k=>Nat.le_succ_of_le (xy st l (k+1))
 |C n::l,k=>Nat.succ_le_succ (xy st l (k+1))
section
variable {bv tb c:Nat}{out W:List cB}
def Kx (i:iu l xs vs)(n:l3 (lP bv tb rest a c out) L R)(d:jF Γ P)(h:∀s,l9 s P->(∀b∈nD P++ah O,b∉(lP bv tb rest a c out).flatMap It.bC)->qi E X g vs s (nD P++ah O) bv tb rest a c out W)(k:∀m e a' c',gk L m->m<=e->K (.tuple ⟨[]⟩) (.box bv (H a' (Y (out++W)) c'::rest) tb U:: .aU (H a' (Y (out++W)) c') 48 2 (ab (out++W))::R) m e (iI (nD P++ah O) (lP bv tb rest a c out) m e) (iJ (lP bv tb rest a c out) m e)):WC E X Γ l g xs ts L K:=
 cI (Lm:=lP bv tb rest a c out) (R:=R) (A:=nD P++ah O) i n.bX (λs hi b hb=>by
   obtain hb|hb:=cG.1 hb
   .exact(d.has (L:=L) s hi).2 b hb
   .exact absurd hb (by simp[ah]))
   (λs hi=>by
    (refine h s (d.has (L:=L) s hi).1 λb hb=>?_);obtain hb|hb:=cG.1 hb
    .intro hm;obtain⟨x,i,j⟩:=kZ.1 hm;have f:=((hi.bX n.bX).lt x (im _ i) b j).2;have p:=d.r0.lt b hb;obtain f|f:=f
     .omega
     .exact d.M b hb f
    .exact absurd hb (by simp[ah]))
   (by rintro q L' m e o hm ⟨rfl,a',c',rfl⟩;exact k m e a' c' o hm)
end
def ag6 (s:St):bJ s O 0 1 (ab ([]:List aw)):=⟨rfl,.inl ⟨rfl,.inl rfl⟩⟩
end Go.Pl
