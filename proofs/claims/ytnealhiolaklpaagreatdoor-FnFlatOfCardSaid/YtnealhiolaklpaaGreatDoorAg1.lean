/- Lemmas of the proof. No conditions. -/
import Derived.Test.YtnealhiolaklpaaGreatDoorAf8
set_option maxRecDepth 100000
set_option maxHeartbeats 4000000
set_option linter.all false
open Bool renaming false->U,true->J
open Option renaming none->O,some->C
open List renaming length->Y
open Go.Value renaming slice->H,bool->M,int->I
open Go.Proofs.Tryz
open Nat (beq ble mul)
open Go.Result (andThen_ok)
open Go.Sem (run_bind)
open Go.Region (binds)
open List (replicate)
open Int (toNat)
open Go.Builtin (firstCells)
open Go.Instr (checkKey)
namespace Go
variable{P:Prop}
def zan (h:P:=by
 repeat' first|refine' PS|refine' Fq|refine' cY|fail
 all_goals((refine' aC);rfl)
 all_goals obtain h:=_;exact h):P:=h
def zao (h:P:=by (repeat' first|(apply fz;exact aj;exact λs=>wQ _ s;exact cK;intro _ _ q9 _ _ ZE)|refine' cY|fail);all_goals obtain h:=_;exact h):P:=h
def zaz (h:P:=by
 repeat' first|refine' PS|refine' Fq|refine' cY|fail
 all_goals first
  |(have hq:=h8 (by rw[Rh] at ki;exact ki);rw[hq];refine' aC;rfl)
  |(have hq:=h9 (by rw[Rh] at ki;omega);exact⟨_,aa,i+1,_,_,_,bd,by(rw[<-FA];exact ak),rfl,aa,h10,hq⟩)
 all_goals obtain h:=_;exact h):P:=h
def zaC (h:P:=by have hd:lN ⟨s,([]:cq).flatMap It.bC,q7 v++[5,1]⟩:=lN.of hn aq aq;have Vu:=λs hr hn=>Om s v st h t hr hn;all_goals obtain h:=_;exact h):P:=h
end Go
namespace Go.Pl
open Go Go.Ev Go.Lg Go.Proofs
variable {E:hJ}{X:fb}{Γ:ng}{l:Kn}{L R:cq}{K:KO}{g:FuncId}{xs:List Operand}{ts:Array TypeId}{vs:aV}{v:SA}{st:ae}{t:bt}{P:B0}{F:Flat}
def xz (o:iu l xs vs)(hd:lN Γ)(h:∀s,jb s v st->dy s->SU E X g vs s (q7 v++[5,1]) v st t)(d:A4 Γ L v st)
  (p:∀m a (P:B0),P.v=v->P.st=st->P.t=t->Pg.jO st->s4 P->gk L m->m<=a->K (.tuple ⟨[.pointer (C ⟨P.bf,0,O⟩),M (Vt (Pg.fF st t))]⟩) (L++(.box P.b (lL v st) 29 U::Z7 P)) m a (iI (q7 v++[5,1]) [] m a) (iJ [] m a))
  (q:∀m a,¬(Pg.jO st/\dL st t=J/\Pg.gD st t)->gk L m->m<=a->K (.tuple ⟨[.pointer O,M U]⟩) L m a (iI (q7 v++[5,1]) [] m a) (iJ [] m a)):WC E X Γ l g xs ts L K:=
 E5 (cI (Lm:=[]) (R:=L) o (.refl _) (λs hi i hb=>(cG.1 hb).elim ((d.row hi).2 i) (hd.may hi i)) (λs hi=>h s (d.row hi).1 (hd.row hi).1) (by rintro v L' m a e hm (⟨P,c,f,j,k,n,rfl,rfl⟩|⟨c,rfl,rfl⟩);exact⟨_,Cm,p m a P c f j k n e hm⟩;exact⟨_,.refl _,q m a c e hm⟩))
abbrev aeN (E:hJ)(X:fb)(g:FuncId)(vs:aV)(s:St)(A:List Nat)(F:Flat):Prop:=eJ E X g vs s [] A λR L=>∃a c a' c',R= .agg ⟨tq a c F.names a' c' F.aB⟩/\L=[.aU (H a (Y F.names) c) 48 2 (ab F.names),.aU (H a' (Y F.aB) c') 50 3 (ab F.aB)]
def Vz (f:iu l xs vs)(d:sf Γ L P)(h:∀s,l9 s P->aeN E X g vs s (nD P) F)(k:∀m b a c a' c',gk L m->m<=b->K (.agg ⟨tq a c F.names a' c' F.aB⟩) (.aU (H a (Y F.names) c) 48 2 (ab F.names):: .aU (H a' (Y F.aB) c') 50 3 (ab F.aB)::L) m b (iI (nD P) [] m b) (iJ [] m b)):WC E X Γ l g xs ts L K:=
 cI (Lm:=[]) (R:=L) f (.refl _) (λs hi=>(d s hi).2) (λs hi=>h s (d s hi).1) (by rintro v L' m b e hm ⟨a,c,a',c',rfl,rfl⟩;exact k m b a c a' c' e hm)
def fQ (st:ae)(t:bt):Flat:=⟨Pg.wl (Pg.fF st t) 146 ⟨[47],0⟩,gH st 0 (Pg.bI st t)⟩
def Fh (u:∀s,bM 99 [ew,sv [47]] s [] (sv []))(B:∀s,bM 91 [ew,.func (.func 92) ⟨[]⟩ ⟨[]⟩] s [] (.tuple ⟨[]⟩))(s:St)(v:SA)(st:ae)(h:tE st)(t:bt)(hr:jb s v st)(hn:dy s):Ht 5 [eg v st,tv t] s [] (q7 v++[5,1]) λR L=>∃(a:aP)(c:Nat)(a':aP)(c':Nat)(F:Flat)(ok:Bool),R= .tuple ⟨[.agg ⟨tq a c F.names a' c' F.aB⟩,.bool ok]⟩/\L=[.aU (H a (Y F.names) c) 48 2 (ab F.names),.aU (H a' (Y F.aB) c') 50 3 (ab F.aB)]/\(ok=J↔Pg.jO st/\Pg.iM st t)/\F=if ok=J then fQ st t else⟨[],[]⟩:=by
 refine' zab;refine' zaC;refine a8 f5 ?_;refine W.lO (α:=cB) (e:=48) ?_;refine W.lO (α:=eF) (e:=50) ?_;refine' iK;with_reducible apply xz (v:=v) (st:=st) (t:=t)
 exact aj;exact hd;exact Vu;exact⟨cJ.mk ax ax ax,ax,ax⟩;rintro m Q P hv y ht hg o _ _;obtain⟨bf,b,N,bB,j,aN,kN,G,bm,M⟩:=P;dsimp only at hv y ht;subst hv y ht;dsimp only[Z7,List.cons_append,List.nil_append];have A:=Kt h hg;have h0:0<=bB.dm:=by have:=hg.tx;omega
 cases k:Vt (Pg.fF bB j) with
 |true=>have D:=s3.1 k;(have z:=λs hr=>ZD u B s ⟨bf,b,N,bB,j,aN,kN,G,bm,M⟩ A h0 o D hr);refine' iK;(with_reducible apply Vz (P:=⟨bf,b,N,bB,j,aN,kN,G,bm,M⟩) (F:=fQ bB j));exact aj;exact sf.items (eh.mk ax (cJ.mk ax ax ax)) hd (by(repeat(first|exact ed|apply dI))) (by(repeat(first|exact ed|apply dI))) (by(repeat(first|exact ed|apply dI))) (by intro x i;repeat(first|exact dt _ i|apply dI)) (by intro x i;repeat(first|exact im _ i|apply dI));exact z;intro S T a c a' c' _ _;refine' iK;all_goals exact⟨bK,_,[.aU (H a (Y (fQ bB j).names) c) 48 2 (ab (fQ bB j).names),.aU (H a' (Y (fQ bB j).aB) c') 50 3 (ab (fQ bB j).aB)],bH,ak,a,c,a',c',fQ bB j,J,rfl,rfl,⟨λ_=>⟨hg,o.tab,o.acd,D⟩,λ_=>rfl⟩,rfl⟩
 |false=>(have n:¬(Pg.jO bB/\Pg.iM bB j):=λi=>by rw[s3.2 i.2.2.2] at k;cases k);refine' iK;all_goals exact⟨bK,_,[.aU (ew) 48 2 (ab ([]:List cB)),.aU (ew) 50 3 (ab ([]:ot))],bH,ak,O,0,O,0,⟨[],[]⟩,U,rfl,rfl,⟨λi=>(by cases i),λi=>absurd i n⟩,rfl⟩
 rintro m Q n _ _;refine' iK;all_goals exact⟨bK,_,[.aU (ew) 48 2 (ab ([]:List cB)),.aU (ew) 50 3 (ab ([]:ot))],bH,ak,O,0,O,0,⟨[],[]⟩,U,rfl,rfl,⟨λi=>(by cases i),λi=>absurd ⟨i.1,i.2.1,i.2.2.1⟩ n⟩,rfl⟩
variable {Lm:cq}{rest:aV}{a:aP}{s:St}
section
variable {bv tb c:Nat}{out W:List cB}
def ZF {Q:Nat->Prop}{a:aP}{G:Ga}(h1:∀b∈ah a,Q b)(h2:∀b n,C (b,n)∈G->Q b):∀b∈N2 a G,Q b:=λb hb=>by
 obtain hb|hb:=cG.1 hb;exact h1 b hb;obtain⟨o,d,hb⟩:=kZ.1 hb;cases o with
 |none=>simp at hb
 |some x=>obtain⟨c,n⟩:=x;simp at hb;subst hb;exact h2 b n d
def ag7 {Q:Nat->Prop}(h1:∀b∈mL P.b P.v,Q b)(h2:∀b∈([5,1]:List Nat),Q b)(h:Q P.bf)(i:Q P.bm)(d:∀b∈N2 P.aN P.G,Q b)(e:∀x∈P.M,∀b∈ah x.2.1,Q b):∀b∈nD P,Q b:=λb hb=>by obtain hb|hb:=cG.1 hb;exact h1 b hb;obtain hb|hb:=cG.1 hb;exact h2 b hb;obtain hb|hb:=cG.1 hb;simp at hb;obtain rfl|rfl:=hb<;>assumption;obtain hb|hb:=cG.1 hb;exact d b hb;obtain⟨x,f,hb⟩:=kZ.1 hb;exact e x f b hb
def sf.apart (hs:eh Γ R P.b P.v P.st)(hn:lN Γ)(h1:It.box P.bf (fiC P) 73 U∈R)(h2:It.iC P.bm (.map (lq iv vE P.M))∈R)(j:It.aU (H P.aN (Y P.G) P.kN) 68 1 (ab (P.G.map dR))∈R)(k:∀x∈jh P.G,x∈R)(m:∀x∈wk P.M,x∈R)(hi:Inv Γ s (Lm++R)):∀b∈nD P,b∉Lm.flatMap It.bC:=by
 refine' zaP;have d:∀b,b<Γ.s0.next->b∉Γ.M->b∉Lm.flatMap It.bC:=λb p o hm=>by obtain⟨x,hx,e⟩:=kZ.1 hm;rcases(hi.lt x (im _ hx) b e).2 with i|i;omega;exact o i
 have h0:=hn.r0.lt;refine ag7 (λb hb=>?_) (λb hb=>?_) (MG h1 _ (by simp[It.bC])) (MG h2 _ (by simp[It.bC])) (ZF (λb hb=>?_) λb n hm=>MG (k _ (sY hm)) b (by simp[It.bC])) λx hx b hb=>MG (m _ (Iu hx)) b (by show b∈nH _;rwa[jV]);rcases cA.1 hb with rfl|hb;exact ga.apart hs.b hi _ (by simp[ah]);rcases cG.1 hb with hb|hb;exact ga.apart hs.w.r hi b hb;rcases cG.1 hb with hb|hb;exact ga.apart hs.w.f hi b hb;exact ga.apart hs.w.l hi b hb
 rcases cA.1 hb with rfl|hb;exact d 5 h0 hn.M5;rw[gI] at hb;subst hb;exact d 1 aa hn.M1;exact MG j b (by show b∈nH _;rwa[jV])
def Ky (p:iu l xs vs)(f:l3 (lP bv tb rest a c out) L R)(hs:eh Γ R P.b P.v P.st)(hn:lN Γ)(h1:It.box P.bf (fiC P) 73 U∈R)(h2:It.iC P.bm (.map (lq iv vE P.M))∈R)(i:It.aU (H P.aN (Y P.G) P.kN) 68 1 (ab (P.G.map dR))∈R)(j:∀x∈jh P.G,x∈R)(n:∀x∈wk P.M,x∈R)(h:∀s,l9 s P->(∀b∈nD P++ah O,b∉(lP bv tb rest a c out).flatMap It.bC)->qi E X g vs s (nD P++ah O) bv tb rest a c out W)(k:∀m e a' c',gk L m->m<=e->K (.tuple ⟨[]⟩) (.box bv (H a' (Y (out++W)) c'::rest) tb U:: .aU (H a' (Y (out++W)) c') 48 2 (ab (out++W))::R) m e (iI (nD P++ah O) (lP bv tb rest a c out) m e) (iJ (lP bv tb rest a c out) m e)):WC E X Γ l g xs ts L K:=
 cI (Lm:=lP bv tb rest a c out) (R:=R) (A:=nD P++ah O) p f.bX (λs hi b hb=>by
   have d:=hi.bX f.bX|>.sub ⟨R,.refl _,o7 _ _⟩;obtain hb|hb:=cG.1 hb
   .exact(sf.items hs hn h1 h2 i j n s d).2 b hb
   .exact absurd hb (by simp[ah]))
   (λs hi=>by
    (have d:=hi.bX f.bX|>.sub ⟨R,.refl _,o7 _ _⟩;refine h s (sf.items hs hn h1 h2 i j n s d).1 λb hb=>?_);obtain hb|hb:=cG.1 hb
    .exact sf.apart hs hn h1 h2 i j n (hi.bX f.bX) b hb
    .exact absurd hb (by simp[ah]))
   (by rintro q L' m e o hm ⟨rfl,a',c',rfl⟩;exact k m e a' c' o hm)
end
def Gi (y:∀s,bM 99 [ew,sv [47]] s [] (sv []))(s:St)(v:SA)(st:ae)(h:tE st)(t:bt)(hr:jb s v st)(hn:dy s):Ht 8 [eg v st,tv t] s [] (q7 v++[5,1]) λR L=>∃(a:aP)(c:Nat)(w:List cB)(ok:Bool),R= .tuple ⟨[H a (Y w) c,.bool ok]⟩/\L=[.aU (H a (Y w) c) 48 2 (ab w)]/\(ok=J↔Pg.jO st/\Pg.iM st t)/\w=if ok=J then Pg.wl (Pg.fF st t) 146 ⟨[47],0⟩ else []:=by
 refine' zab;refine' zaC;refine a8 f8 ?_;refine W.lO (α:=cB) (e:=48) ?_;refine W.lO (α:=cB) (e:=48) ?_;refine' iK;with_reducible apply xz (v:=v) (st:=st) (t:=t)
 exact aj;exact hd;exact Vu;exact⟨cJ.mk ax ax ax,ax,ax⟩;rintro m Z P hv z ht hg o _ _;obtain⟨bf,b,T,bB,j,aN,kN,G,bm,M⟩:=P;dsimp only at hv z ht;subst hv z ht;dsimp only[Z7,List.cons_append,List.nil_append];cases k:Vt (Pg.fF bB j) with
 |true=>have D:=s3.1 k;(repeat' first|refine' AG|refine' Dx|refine' qgb|fail);obtain⟨d,N,u⟩:=Pg.rV D;have Q:Pg.o1 0 [47]:=⟨[],aq,aq,rfl⟩;have cg:=Pg.Dg D (f:=146) aa [47] Q;have S:=λbv s A B=>Ff y ⟨bf,b,T,bB,j,aN,kN,G,bm,M⟩ o d N u 19 bv 36 [] (λs x a c out V=>Fg s bv x a c out V) 146 s 0 O 0 [] O 0 [] aa aq aq (λ_=>⟨rfl,rfl⟩) (by show 0+Y (Pg.wl (Pg.fF bB j) 146 ⟨[47],0⟩)<=1000;omega) A (ag6 s) (.inl ⟨rfl,rfl,rfl⟩) B;(with_reducible apply Ky (P:=⟨bf,b,T,bB,j,aN,kN,G,bm,M⟩) (bv:=ba) (tb:=36) (rest:=[]) (a:=O) (c:=0) (out:=([]:List cB)) (W:=Pg.wl (Pg.fF bB j) 146 ⟨[47],0⟩));exact aj;exact cK;exact eh.mk ax (cJ.mk ax ax ax);exact hd;(repeat(first|exact ed|apply dI));(repeat(first|exact ed|apply dI));(repeat(first|exact ed|apply dI));intro x i;(repeat(first|exact dt _ i|apply dI));intro x i;(repeat(first|exact im _ i|apply dI));exact λs A B=>S ba s A B;intro m2 m3 a c _ _;simp only[kG];refine' iK;all_goals exact⟨bK,_,[.aU (H a (Y (Pg.wl (Pg.fF bB j) 146 ⟨[47],0⟩)) c) 48 2 (ab (Pg.wl (Pg.fF bB j) 146 ⟨[47],0⟩))],bH,ak,a,c,_,J,rfl,rfl,⟨λ_=>⟨hg,o.tab,o.acd,D⟩,λ_=>rfl⟩,rfl⟩
 |false=>(have n:¬(Pg.jO bB/\Pg.iM bB j):=λi=>by rw[s3.2 i.2.2.2] at k;cases k);refine' iK;all_goals exact⟨bK,_,[.aU (ew) 48 2 (ab ([]:List cB))],bH,ak,O,0,[],U,rfl,rfl,⟨λi=>(by cases i),λi=>absurd i n⟩,rfl⟩
 rintro m Z n _ _;refine' iK;all_goals exact⟨bK,_,[.aU (ew) 48 2 (ab ([]:List cB))],bH,ak,O,0,[],U,rfl,rfl,⟨λi=>(by cases i),λi=>absurd ⟨i.1,i.2.1,i.2.2.1⟩ n⟩,rfl⟩
def foE (e:az):cB:=⟨e.name,e.id⟩
abbrev y9 (q:List az)(k:aw):Nat:=lbN (q.map foE) k
def Iy {es:List az}(h:Pg.RY es):rI (es.map foE):=by unfold rI;rwa[Af]
def Iz (s:St)(x:az)(z:aw):bM 162 [.agg ⟨au.cells x⟩,sv z] s [] (iv (Ev.ya x.name z)):=by obtain⟨p,i⟩:=x;show bM _ [.agg ⟨[sv p,iv i]⟩,sv z] s [] _;refine a8 f162 ?_;(repeat' first|refine' AG|(apply ag;exact aj;exact λs=>Qf s _ _;intros)|refine' qgy|fail)
def aeO (s:St)(a:aP)(c:Nat)(q:List az)(hs:Pg.RY q)(N:Y q<=1000)(k:aw)(hr:bJ s a (Y q) 2 (ab q)):bM 161 [H a (Y q) c,sv k,.func (.func 162) ⟨[]⟩ ⟨[]⟩] s (ah a) (.tuple ⟨[iv (y9 q k:Int),M (decide (y9 q k<Y q/\(q.getD (y9 q k) au.ad).name=k))]⟩):=by
 have r:=Rd.of (A:=ah a) hr λ_ hb=>hb;have hle:y9 q k<=Y q:=by have:=adE (q.map foE) k;rwa [fH] at this
 have n:=Iy hs;have f:∀h,h<Y q->((q.map foE).getD h ⟨[],0⟩).ar=(q.getD h au.ad).name:=λh u=>by rw[eX,eX,mP,c8 u];rfl
 refine a8 f161 ?_;refine' eR;refine W.bu (λm l L=>∃(i j:Nat),Le [(0,H a (Y q) c),(1,sv k),(2,.func (.func 162) ⟨[]⟩ ⟨[]⟩),(8,iv (Y q:Int)),(9,iv (i:Int)),(10,iv (j:Int))] l/\cb [] L/\m=j-i/\i<=y9 q k/\y9 q k<=j/\j<=Y q)
  (λl L=>Le [(0,H a (Y q) c),(1,sv k),(2,.func (.func 162) ⟨[]⟩ ⟨[]⟩),(8,iv (Y q:Int)),(9,iv (y9 q k:Int))] l/\cb [] L) _ ⟨0,Y q,bd,ak,rfl,aa,hle,fG _⟩ ?_ ?_
 .rintro m l L ⟨i,j,hl,o,rfl,e,z,B⟩;refine' cP;by_cases w:i<j
  .obtain⟨h,y,D,G⟩:∃h:Nat,((i:Int)+(j:Int))/ 2=(h:Int)/\i<=h/\h<j:=⟨(i+j)/ 2,aa,aa,aa⟩;(have x:Ev.ya (q.getD h au.ad).name k<0↔h<y9 q k:=by rw[aaw,<-f h aa];exact RP n k ⟨[],0⟩ (by rw[fH];omega));(repeat' first|refine' AG|refine' zC|(apply ag;exact aj;exact λs=>Iz s _ _;intros)|(apply M4;exact bN;exact mv;intro _)|(apply M6;exact bN;exact mv;intro _)|(apply Sw;exact bN;exact bN;assumption;exact mv;intro _)|refine' qgb|fail);exact⟨_,aa,h+1,j,bd,ak,rfl,aa,aa,aa⟩;exact⟨_,aa,i,h,bd,ak,rfl,aa,aa,aa⟩
  have hi:i=y9 q k:=by omega
  subst hi;refine' iK;all_goals exact⟨bd,ak⟩
 rintro l L ⟨hl,o⟩;refine' gh;have d:=aax (a:=(q.getD (y9 q k) au.ad).name) (b:=k);(repeat' first|refine' AG|refine' zC|(apply ag;exact aj;exact λs=>Iz s _ _;intros)|refine' gL|fail);(refine' aC);(have e:y9 q k<Y q:=by omega);show Value.tuple ⟨[iv (y9 q k:Int),M (decide (Ev.ya (q.getD (y9 q k) au.ad).name k=0))]⟩=_;refine congrArg (λb=>Value.tuple ⟨[_,M b]⟩) ?_;rw[tT];exact⟨λh=>⟨e,d.1 h⟩,λh=>d.2 h.2⟩;(refine' aC);(have e:¬y9 q k<Y q:=by omega);exact congrArg (λb=>Value.tuple ⟨[_,M b]⟩) (kX (λh=>e h.1)).symm
def Ou (s:St)(a:aP)(c:Nat)(q:List az)(hs:Pg.RY q)(e:Y q<=1000)(k:aw)(hr:bJ s a (Y q) 2 (ab q)):bM 103 [H a (Y q) c,sv k] s (ah a) (.tuple ⟨[iv (y9 q k:Int),M (decide (y9 q k<Y q/\(q.getD (y9 q k) au.ad).name=k))]⟩):=by have d:=Rd.of (A:=ah a) hr λ_ hb=>hb;have b:=λs hr=>aeO s a c q hs e k hr;refine a8 f103 ?_;(repeat' first|refine' AG|(apply dG;exact aj;(intro s hr;exact b s hr);exact ax;intros)|refine' qgy|fail)
def ack {es:List az}{n:aw}{x:az}(h:Pg.RY es)(hf:es.find? (λx=>decide (x.name=n))=C x):y9 es n<Y es/\es.getD (y9 es n) au.ad=x/\x.name=n:=by
 have hn:x.name=n:=by have:=List.find?_some hf;simpa using this
 obtain⟨i,hi,k⟩:=si (Rx hf);have b:es.getD i au.ad=x:=by rwa[eX,c8 hi]
 have j:=Iy h;have f:∀h,h<Y es->((es.map foE).getD h ⟨[],0⟩).ar=(es.getD h au.ad).name:=λh e=>by rw[eX,eX,mP,c8 e];rfl
 have c:∀h,h<Y es->(bP (es.getD h au.ad).name n=J↔h<y9 es n):=λh e=>by rw[<-f h e];exact RP j n ⟨[],0⟩ (by rw[fH];exact e)
 have m:¬i<y9 es n:=λhc=>by have:=(c i hi).2 hc;rw[b,hn] at this;exact Ot this rfl
 have o:¬y9 es n<i:=λhc=>by have d:=Gm.1 h (y9 es n) i aa hi hc;rw[k,hn] at d;have p:=(c (y9 es n) aa).1 (by rw[eX,c8 aa];exact d);omega
 have d:y9 es n=i:=by omega
 rw[d];exact⟨hi,b,hn⟩
def ZG (s:St)(P:B0)(x8:s4 P)(y:aP)(cn:Nat)(f:List aw)(ON:Y f<=1000)(j:Nat)(hj:Pg.look (Pg.fF P.st P.t) f 0=C j)(hr:l9 s P)(hrn:bJ s y (Y f) 1 (ab f)):bM 46 [.pointer (C ⟨P.bf,0,O⟩),H y (Y f) cn] s (nD P++ah y) (iv (j:Int)):=by
 have u:jF ⟨s,([]:cq).flatMap It.bC,nD P++ah y⟩ P:=jF.of hr λ_ hb=>im _ hb;have Z:Rd ⟨s,([]:cq).flatMap It.bC,nD P++ah y⟩ y (Y f) 1 (ab f):=Rd.of hrn λ_ hb=>dt _ hb;have V:=u.bx;generalize hA:nD P++ah y=A at u V Z;refine a8 f46 ?_;try rw[hA]
 refine' iK;refine W.bu (λm l L=>∃(i k:Nat),Le [(0,.pointer (C ⟨P.bf,0,O⟩)),(5,iv (k:Int)),(10,H y (Y f) cn),(11,iv (Y f:Int)),(12,iv (i:Int))] l/\cb [] L/\m=Y f-i/\i<=Y f/\Pg.look (Pg.fF P.st P.t) (f.drop i) k=C j)
  (λl L=>Le [(5,iv (j:Int))] l/\cb [] L) _ ⟨0,0,bd,ak,rfl,aa,hj⟩ ?_ ?_
 .rintro m l L ⟨i,k,Bk,hL,rfl,hi0,d⟩;refine' cP;by_cases hi:i<Y f;rw[qg f au.ad hi,Pg.look] at d;cases b:Pg.jY (Pg.fF P.st P.t k) with
  |none=>rw[b] at d;cases d
  |some c=>
   rw[b] at d;have S:Pg.jQ (Pg.fF P.st P.t) k:=by
    unfold Pg.jY at b;cases hg:Pg.fF P.st P.t k with
    |none=>rw[hg] at b;cases b
    |some e=>rw[hg] at b;by_cases w:e.n.kind=2;exact⟨e,hg,w⟩;dsimp only at b;rw[af w] at b;cases b
   obtain⟨D,T,es,G,GZ,B⟩:=x8.Zt S;(have he0:c=es:=by obtain⟨e,hg,w⟩:=S;unfold Pg.jY at b;rw[hg] at b;dsimp only at b;rw[ai w] at b;rw[<-GZ,Pg.dH hg];exact(dM b).symm);subst he0;dsimp only at d;cases r:c.find? (λx=>decide (x.name=f.getD i au.ad)) with
   |none=>rw[r] at d;cases d
   |some x=>rw[r] at d;dsimp only at d;have z:Pg.RY c:=(Pg.oK _).1 (Pg.ea B).2.1;obtain⟨hel,hee⟩:=E9 B;obtain⟨f1,f2,f3⟩:=ack z r;(have N:(cO P.M (k:Int)).getD (O,0,[])=(D,T,c):=by rw[G];rfl);have hen:Rd ⟨s,([]:cq).flatMap It.bC,A⟩ D (Y c) 2 (ab c):=u.en (vA G);(have o:=λs hr=>Ou s D T c z aa (f.getD i au.ad) hr);rw[gZ (⟨f1,by rwa[f2]⟩:y9 c (f.getD i au.ad)<Y c/\(c.getD (y9 c (f.getD i au.ad)) au.ad).name=f.getD i au.ad)] at o;generalize hlb:y9 c (f.getD i au.ad)=lb at f1 f2 o;have hea:∀s,bJ s D (Y c) 2 (ab c)->bM 103 [H D (Y c) T,sv (f.getD i au.ad)] s (ah D) (.tuple ⟨[iv (lb:Int),.bool J]⟩):=o;have hxm:x∈c:=Rx r;obtain⟨_,hx1,hx2⟩:=hee x hxm;obtain⟨j2,Q⟩:=tI (show 0<=x.id by omega);rw[Q,px] at d;(repeat' first|refine' AG|(apply xx;(exact u);(exact N);(exact(by kernel_rfl));(exact(by kernel_rfl));(intro k;exact rfl);(exact(by kernel_rfl));exact bN;exact bN;intro _)|(apply dG;exact aj;(intro s hr;exact hea s hr);exact ax;intros)|refine' qgb|fail);(all_goals rw[f2,Q]);all_goals exact⟨_,aa,i+1,j2,bd,ak,rfl,aa,d⟩
  have hi:i=Y f:=by omega
  rw[hi,re,Pg.look] at d;(cases d);refine' iK;all_goals exact⟨bd,ak⟩
 rintro l L ⟨Bk,hL⟩;refine' gh;refine' qcy
variable {an:aP}{n sz:Nat}{cs:aV}{r:Value}
def Q9 (f:iu l xs vs)(c:jF Γ P)(h:∀s,l9 s P->bJ s an n sz cs->jA E X g vs s (nD P++ah an) r)(e:ga Γ L an n sz cs)(k:∀m d,gk L m->m<=d->K r L m d (iI (nD P++ah an) [] m d) (iJ [] m d)):WC E X Γ l g xs ts L K:=
 dZ f (λs hi=>⟨λb hb=>(cG.1 hb).elim ((c.has (L:=L) s hi).2 b) ((e.row hi).2 b),h s (c.has (L:=L) s hi).1 (e.row hi).1⟩) k
def ZH (s:St)(P:B0)(w:s4 P)(z:aw)(B:Y z<=10000)(ha:∀c∈z,c.toNat<128)(j:Nat)(y:bQ z=J->Pg.look (Pg.fF P.st P.t) (cm z) 0=C j)(u:Y (cm z)<=1000)(hr:l9 s P):bM 20 [.pointer (C ⟨P.bf,0,O⟩),sv z] s (nD P) (iv (if bQ z=J then(j:Int) else -1)):=by
 refine' zaY;have b:=λs=>F2 s z aa ha;generalize x:nD P=A at F1;cases o:bQ z with
 |false=>
  rw[o] at b;have d:∀s,et aZ aW 45 [sv z] s [] 9 (cm z) U:=b;refine a8 f20 ?_;try rw[x]
  (repeat' first|refine' AG|(apply mu;exact aj;(exact d);intro _ _ e f _ _)|refine' qgy|fail)
 |true=>
  rw[o] at b;have d:∀s,et aZ aW 45 [sv z] s [] 9 (cm z) J:=b;have m:=λs an cn i k=>ZG s P w an cn (cm z) u j (y o) i k;refine a8 f20 ?_;try rw[x]
  (repeat' first|refine' AG|(apply mu;exact aj;(exact d);intro _ _ e f _ _)|((with_reducible apply Q9 (P:=P));exact aj;(exact F1);(intro s i k;exact m s _ _ i k);exact ax;intros)|refine' qgy|fail)
def Gj (s:St)(v:SA)(st:ae)(h:tE st)(t:bt)(hg0:Pg.jO st)(V:Pg.iM st t)(z:aw)(hz:Y z<=10000)(ha:∀c∈z,c.toNat<128)(j:Nat)(hj:bQ z=J->Pg.look (Pg.fF st t) (cm z) 0=C j)(ON:Y (cm z)<=1000)(n:dX)(A:(Pg.bI st t).getD j O=C n)(hr:jb s v st)(hn:dy s):bM 9 [eg v st,tv t,sv z] s (q7 v++[5,1]) (if bQ z=J then .tuple ⟨[sv ((iL st n).getD []),.bool (iL st n).isSome]⟩ else .tuple ⟨[sv [],.bool U]⟩):=by
 refine' zab;refine' zaC;refine a8 f9 ?_;refine' iK;with_reducible apply xz (v:=v) (st:=st) (t:=t)
 exact aj;exact hd;exact Vu;exact⟨cJ.mk ax ax ax,ax,ax⟩;rintro m m' P hv T ht hg S _ _;obtain⟨bf,b,o,bB,u,aN,kN,G,bm,M⟩:=P;dsimp only at hv T ht;subst hv T ht;dsimp only[Z7,List.cons_append,List.nil_append];have Lh:=Kt h hg;have h0:0<=bB.dm:=by have:=hg.tx;omega
 rw[s3.2 V.2.2];have e:=λs hr=>ZH s ⟨bf,b,o,bB,u,aN,kN,G,bm,M⟩ S z hz ha j hj ON hr;have k:=λb s hr hn=>EY s b o bB Lh h0 n hr hn;have i:(Pg.bI bB u).getD j O=(G.getD j O).map Prod.snd:=by rw[<-S.bj,eX,eX,mP];cases G[j]?<;>rfl
 have N:(G.map dR).getD j (au.ad (α:=aP))=dR (G.getD j O):=by show(G.map dR).getD j O=_;rw[eX,eX,mP];cases G[j]?<;>rfl
 have hjl:j<Y G:=by obtain Lp|Q:=jc j (Y G);exact Lp;rw[i,eX,mQ Q] at A;cases A
 rw[A] at i;cases y:G.getD j O with
 |none=>rw[y] at i;cases i
 |some x=>
  obtain⟨bi,n'⟩:=x;rw[y] at i N;have hnn:n=n':=dM i;subst hnn;have OR:(G.map dR).getD j (au.ad (α:=aP))=C ⟨bi,0,O⟩:=N;have Z:It.box bi (jg n) 67 U∈jh G:=sY (by rw[<-y];exact gX O hjl);have hGm:Y (G.map dR)=Y G:=fH ..;generalize(iL bB n).getD []=w at k;generalize(iL bB n).isSome=wb at k;have PW:∀b s,fh s b o bB->dy s->bM 21 [bk b,nv n] s (mL b o++[5,1]) (.tuple ⟨[sv w,.bool wb]⟩):=k;cases hk:bQ z with
  |false=>rw[hk] at e;have B:∀s,l9 s ⟨bf,b,o,bB,u,aN,kN,G,bm,M⟩->bM 20 [bk bf,sv z] s (nD ⟨bf,b,o,bB,u,aN,kN,G,bm,M⟩) (iv (-1)):=e;(repeat' first|refine' AG|((with_reducible apply z8 (P:=⟨bf,b,o,bB,u,aN,kN,G,bm,M⟩));exact aj;(exact(sf.items (eh.mk ax (cJ.mk ax ax ax)) hd (by(repeat(first|exact ed|apply dI))) (by(repeat(first|exact ed|apply dI))) (by(repeat(first|exact ed|apply dI))) (by intro x D;repeat(first|exact dt _ D|apply dI)) (by intro x D;repeat(first|exact im _ D|apply dI))));(exact B);intros)|refine' qgy|fail)
  |true=>rw[hk] at e;have B:∀s,l9 s ⟨bf,b,o,bB,u,aN,kN,G,bm,M⟩->bM 20 [bk bf,sv z] s (nD ⟨bf,b,o,bB,u,aN,kN,G,bm,M⟩) (iv (j:Int)):=e;(repeat' first|refine' AG|((with_reducible apply z8 (P:=⟨bf,b,o,bB,u,aN,kN,G,bm,M⟩));exact aj;(exact(sf.items (eh.mk ax (cJ.mk ax ax ax)) hd (by(repeat(first|exact ed|apply dI))) (by(repeat(first|exact ed|apply dI))) (by(repeat(first|exact ed|apply dI))) (by intro x D;repeat(first|exact dt _ D|apply dI)) (by intro x D;repeat(first|exact im _ D|apply dI))));(exact B);intros)|refine' qgb|fail);rw[OR];(repeat' first|refine' AG|(apply uu;exact bN;(repeat(first|exact dt _ Z|apply dI));(exact rfl);intro _)|(apply sd;exact aj;assumption;(exact PW _);(exact eh.mk ax (cJ.mk ax ax ax));intros)|refine' qgy|fail)
 rintro m m' IW _ _;exact absurd ⟨hg0,V.1,V.2.1⟩ IW
variable {ns:List aw}
def SV (l:List aw):eQ [47] l=gp 47 l:=by
 match l with
 |[]=>rfl
 |[x]=>rfl
 |x::y::l=>
  show x++([47]++eQ [47] (y::l))=x++47::gp 47 (y::l);rw[SV (y::l)];rfl
def Kz (h:∀n∈ns,bG n=J):aH (pathOf ns)=ns:=by
 by_cases f:ns=[];subst f;rfl;have d:∀n∈ns,n≠[]/\∀x∈n,x≠47:=λn hn=>by have i:=Pg.gJ (h n hn);refine⟨λb=>?_,λx c b=>?_⟩;rw[b] at i;exact absurd i.2.1 aq;have:=i.1 x c;subst b;simp at this
 have e:eQ [47] ns≠[]:=λb=>by
  cases ns with
  |nil=>exact f rfl
  |cons x l=>
   have c:=(d x ed).1;cases l with
   |nil=>exact c b
   |cons y l=>exact c (List.append_eq_nil_iff.1 b).1
 rw[Be ns f];unfold aH;rw[af (λb=>e (KU b).2),kj,ai rfl,List.tail_cons,SV];exact Pg.yl 47 ns f λn hn x c=>(d n hn).2 x c
def KA (h:∀n∈ns,bG n=J)(b:bQ (pathOf ns)=J):cm (pathOf ns)=ns:=by unfold cm;rw[ai b,Kz h]
def IA {st:ae}{t:bt}(hf:Pg.gD st t)(m:∀k n,(Pg.bI st t).getD k O=C n->n.kind=1\/n.kind=2):gH st 0 (Pg.bI st t)=cz st 0 (bj st t):=by
 have d:bj st t=(Pg.bI st t).map λo=>o.getD aK:=by unfold bj Pg.bI;rw[Gp];apply qo;intro s _;show _=(bY s).getD aK;cases bY s<;>rfl
 have key:∀(l:List (Option dX))(k:Nat),(∀n,C n∈l->(n.kind=1/\dE st n=J)\/n.kind=2)->gH st k l=cz st k (l.map λo=>o.getD aK):=by
  intro l;induction l with
  |nil=>intro k _;rfl
  |cons o l ih=>
   intro k hl;have e:=ih (k+1) λn hn=>hl n (dI _ hn);cases o with
   |none=>show gH st (k+1) l=(if aK.kind=2 then _ else if aK.kind=1 then _ else [])++cz st (k+1) _;rw[af cx,af cx,kG];exact e
   |some n=>show _::gH st (k+1) l=(if n.kind=2 then [⟨k,J,[]⟩] else if n.kind=1 then [⟨k,U,a6 st n⟩] else [])++cz st (k+1) _;rw[e];obtain⟨b,c⟩|c:=hl n ed;(have f:iL st n=C (a6 st n):=by unfold iL;rw[ai c]);rw[af aa,ai b,f];(have j:decide (n.kind=2)=U:=by rw[mW];omega);rw[j];rfl;(have f:iL st n=O:=by unfold iL dE;rw[af (by rw[c];simp)]);rw[ai c,f];(have j:decide (n.kind=2)=J:=by rw[gv];exact c);rw[j];rfl
 rw[d];refine key _ 0 λn hn=>?_;obtain⟨i,hi,q⟩:=si hn;have p:(Pg.bI st t).getD i O=C n:=by rwa[eX,c8 hi]
 obtain b|b:=m i n p;exact .inl ⟨b,(hf.each i n p).1 b⟩;exact .inr b
def Ov (h:Pg.iM st t):pI st t=C (fQ st t):=by unfold pI fQ;rw[Pg.Gf h];dsimp only;rw[IA h.2.1 λk n b=>(Pg.mD (Ab b)).1]
def Ow (h:¬Pg.iM st t):pI st t=O:=by
 unfold pI;cases hf:fO st t with
 |none=>rfl
 |some all=>exact absurd (Pg.E4 hf) h
def Ox {st:ae}{t:bt}(h:Pg.iM st t){y:cB}(u:y∈Pg.wl (Pg.fF st t) 146 ⟨[47],0⟩):0<=y.id/\(∃n,(Pg.bI st t).getD y.id.toNat O=C n)/\(bQ y.ar=J->Pg.look (Pg.fF st t) (cm y.ar) 0=C y.id.toNat)/\(∀c∈y.ar,c.toNat<128)/\Y y.ar<=10000/\Y (cm y.ar)<=1000:=by
 have k:=h.2.2;have q:Pg.o1 0 [47]:=⟨[],aq,aq,rfl⟩;obtain⟨r,hr,_⟩:=k.bU;obtain⟨⟨h0,e,w⟩,m⟩:=Pg.Hr k 146 0 ⟨[47],0⟩ cx ⟨r,hr⟩ q y u;obtain⟨ns,f,b,p,_⟩:=Pg.B2 k.wf 146 ⟨[47],0⟩ [] rfl aq rfl cx y u;obtain⟨j,d,x,i⟩:=m;have A:=Pg.Hq j d;have cg:Y y.ar<=5*Y j+1:=by rw[i];unfold pathOf;split;simp;omega
 refine⟨h0,⟨e.n,(Pg.nF w).1⟩,λo=>?_,λc hc=>?_,aa,?_⟩;rw[f] at o⊢;rwa[KA b o];rw[f] at hc;unfold pathOf at hc;split at hc;rw[gI] at hc;subst hc;decide;obtain⟨l,hl,hc⟩:=List.mem_flatten.1 hc;obtain⟨n,hn,rfl⟩:=qj.1 hl;obtain rfl|hc:=cA.1 hc;decide;have:=(Pg.gJ (b n hn)).1 c hc;omega;unfold cm;split;have:=pV (z:=y.ar);by_cases o:bQ y.ar=J;have B:Y (aH y.ar)<=Y y.ar+1:=pV;omega;omega;simp
def Fi:∀{l:List (Option dX)}{k:Nat}{T:eF},T∈gH st k l->∃(j:Nat)(n:dX),l.getD j O=C n/\T=⟨((k+j:Nat):Int),decide (n.kind=2),(iL st n).getD []⟩
 |[],k,T,h=>by cases h
 |O::l,k,T,h=>by obtain⟨j,n,b,c⟩:=Fi (l:=l) (k:=k+1) h;exact⟨j+1,n,b,by rw[c,show k+1+j=k+(j+1) by omega]⟩
 |C n::l,k,T,h=>by obtain rfl|h:=cA.1 h;exact⟨0,n,rfl,rfl⟩;obtain⟨j,m,b,c⟩:=Fi (l:=l) (k:=k+1) h;exact⟨j+1,m,b,by rw[c,show k+1+j=k+(j+1) by omega]⟩
def Ra {t:bt}{T:eF}(h:T∈(fQ st t).aB){j:Nat}{n:dX}(e:T.id=(j:Int))(hn:(Pg.bI st t).getD j O=C n){s:aw}(hs:iL st n=C s):T.b0=s/\T.ej=U:=by
 obtain⟨i,m,c,d⟩:=Fi (l:=Pg.bI st t) (k:=0) h;subst d;have b:i=j:=by have:(((0+i:Nat):Int))=(j:Int):=e;omega
 subst b;rw[hn] at c;cases c;refine⟨by show(iL st n).getD []=s;rw[hs];rfl,?_⟩;show decide (n.kind=2)=U;rw[mW];intro f;unfold iL dE at hs;rw[f] at hs;simp at hs
def Fj:∀s,bM 99 [ew,sv [47]] s [] (sv []):=λs b c d=>lE.Ji (fn:=f99) bV (s':=s) (v:=sv []) (λk=>rfl) ⟨[],uU,rfl,rfl⟩
def Oy:∀s,bM 91 [ew,.func (.func 92) ⟨[]⟩ ⟨[]⟩] s [] (.tuple ⟨[]⟩):=λs b c d=>lE.Ji (fn:=f91) bV (s':=s) (v:=.tuple ⟨[]⟩) (λk=>by show dq (beq 92 92) (aD (Value.tuple ⟨[]⟩) s)=_;rw[kY];rfl) ⟨[],uU,rfl,rfl⟩
end Go.Pl
