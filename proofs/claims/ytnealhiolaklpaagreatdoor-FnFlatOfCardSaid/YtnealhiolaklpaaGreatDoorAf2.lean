/- Lemmas of the proof. No conditions. -/
import Derived.Test.YtnealhiolaklpaaGreatDoorAd5
import Derived.Test.YtnealhiolaklpaaGreatDoorAe15
import Derived.Test.YtnealhiolaklpaaGreatDoorAf1
set_option maxRecDepth 100000
set_option maxHeartbeats 4000000
set_option linter.all false
open Bool renaming false->U,true->J
open Option renaming none->O,some->C
open List renaming length->Y
open Go.Value renaming slice->H,bool->M,int->I
open Go.Proofs.Tryz
open Nat (beq ble mul)
open Go.Result (andThen_ok)
open Go.Sem (run_bind)
open Go.Region (binds)
open List (replicate)
open Int (toNat)
open Go.Builtin (firstCells)
open Go.Instr (checkKey)
namespace Go.Pl
open Go Go.Ev Go.Lg Go.Proofs
def ado (n0 a b c d:Int):Nat->aV
 |0=>[iv 0,iv 0,iv 0,iv 0,iv 0]
 |1=>[iv n0,iv 0,iv 0,iv 0,iv 0]
 |2=>[iv n0,iv a,iv 0,iv 0,iv 0]
 |3=>[iv n0,iv a,iv b,iv 0,iv 0]
 |4=>[iv n0,iv a,iv b,iv c,iv 0]
 |_=>[iv n0,iv a,iv b,iv c,iv d]
def EN (s:St)(z:aw)(hz:Y z<=100000)(hr:dy s):bM 233 [sv z] s [5,1] (.tuple ⟨[pv ((cy z).getD bp),M (cy z).isSome]⟩):=by
 have hd:lN ⟨s,([]:cq).flatMap It.bC,[5,1]⟩:=lN.of hr aq aq;by_cases y:z=[45];subst y;refine a8 f233 ?_;refine' qcy;have Sc:=λs=>Eo (ch:=46) s z hz;have D:=sP 46 z;have X:=pT 46 z;by_cases m:Y (cut 46 z)=5
 .cases b:cut 46 z with
  |nil=>rw[b] at m;cases m
  |cons w0 r0=>
  cases r0 with
  |nil=>rw[b] at m;cases m
  |cons o r1=>
  cases r1 with
  |nil=>rw[b] at m;cases m
  |cons r r2=>
  cases r2 with
  |nil=>rw[b] at m;cases m
  |cons t r3=>
  cases r3 with
  |nil=>rw[b] at m;cases m
  |cons u r4=>
  cases r4 with
  |cons w5 r5=>rw[b] at m;simp at m
  |nil=>
  rw[b] at Sc D;(have h0:=λs=>ia s w0);(have E:=λs=>ia s o);(have F:=λs=>ia s r);(have G:=λs=>ia s t);have K:=λs=>ia s u;have c:∀w∈[w0,o,r,t,u],(aA w).isSome=U->cy z=O:=λw Z h=>Pg.Qv y (by rw[b];exact Z) (by cases hn:aA w with
   |none=>rfl
   |some n=>rw[hn] at h;cases h)
  refine a8 f233 ?_;(repeat' first|refine' abb|(apply lp;exact aj;exact λs=>z6 s _;intro _ _ f g _ _)|refine' eI|fail);(all_goals first|(exfalso;omega;done)|(exfalso;simp at *;done)|contradiction|skip);refine W.bu (λk l L=>∃(i A x:Nat)(N Q:aP)(R S:Nat),Le [(0,sv z),(2,bk A),(4,bk x),(6,H Q (Y (xp x)) S),(23,H N [w0,o,r,t,u].length R),(24,iv ((5:Nat):Int)),(25,iv (i:Int))] l/\cb [.box A [iv 0,iv 0,iv 0,iv 0,iv 0] 31 U,.box x (ado ((aA w0).getD 0:Nat) ((aA o).getD 0:Nat) ((aA r).getD 0:Nat) ((aA t).getD 0:Nat) ((aA u).getD 0:Nat) i) 31 U,.aU (H N [w0,o,r,t,u].length R) 9 1 (ab [w0,o,r,t,u]),.aU (H Q (Y (xp x)) S) 240 1 (ab (xp x))] L/\k=5-i/\i<=5/\∀j,j<i->(aA ([w0,o,r,t,u].getD j [])).isSome=J) (λl L=>∃(A x:Nat),Le [(0,sv z),(2,bk A),(4,bk x)] l/\cb [.box A [iv 0,iv 0,iv 0,iv 0,iv 0] 31 U,.box x (ado ((aA w0).getD 0:Nat) ((aA o).getD 0:Nat) ((aA r).getD 0:Nat) ((aA t).getD 0:Nat) ((aA u).getD 0:Nat) 5) 31 U] L/\∀j,j<5->(aA ([w0,o,r,t,u].getD j [])).isSome=J) _ ⟨0,_,_,_,_,_,_,bd,ak,rfl,aa,λj d=>by omega⟩ ?_ ?_
  .rintro k l L ⟨i,A,x,N,Q,R,S,V,hL,rfl,hi5,a⟩;refine' cP;(have h6:i=0\/i=1\/i=2\/i=3\/i=4\/i=5:=by omega);obtain rfl|rfl|rfl|rfl|rfl|rfl:=h6;cases hn:(aA w0).isSome with
   |false=>rw[hn] at h0;rw[c w0 aq hn];(repeat' first|(apply bq;exact aj;assumption;(exact h0);intros)|refine' nJ|fail)
   |true=>rw[hn] at h0;(repeat' first|(apply bq;exact aj;assumption;(exact h0);intros)|refine' cY|fail);all_goals exact⟨_,aa,1,_,_,_,_,_,_,bd,ak,rfl,aa,λj d=>by rcases(by omega:j<0\/j=0) with d|rfl;exact a j d;exact hn⟩
   cases hn:(aA o).isSome with
   |false=>rw[hn] at E;rw[c o aq hn];(repeat' first|(apply bq;exact aj;assumption;(exact E);intros)|refine' nJ|fail)
   |true=>rw[hn] at E;(repeat' first|(apply bq;exact aj;assumption;(exact E);intros)|refine' cY|fail);all_goals exact⟨_,aa,2,_,_,_,_,_,_,bd,ak,rfl,aa,λj d=>by rcases(by omega:j<1\/j=1) with d|rfl;exact a j d;exact hn⟩
   cases hn:(aA r).isSome with
   |false=>rw[hn] at F;rw[c r aq hn];(repeat' first|(apply bq;exact aj;assumption;(exact F);intros)|refine' nJ|fail)
   |true=>rw[hn] at F;(repeat' first|(apply bq;exact aj;assumption;(exact F);intros)|refine' cY|fail);all_goals exact⟨_,aa,3,_,_,_,_,_,_,bd,ak,rfl,aa,λj d=>by rcases(by omega:j<2\/j=2) with d|rfl;exact a j d;exact hn⟩
   cases hn:(aA t).isSome with
   |false=>rw[hn] at G;rw[c t aq hn];(repeat' first|(apply bq;exact aj;assumption;(exact G);intros)|refine' nJ|fail)
   |true=>rw[hn] at G;(repeat' first|(apply bq;exact aj;assumption;(exact G);intros)|refine' cY|fail);all_goals exact⟨_,aa,4,_,_,_,_,_,_,bd,ak,rfl,aa,λj d=>by rcases(by omega:j<3\/j=3) with d|rfl;exact a j d;exact hn⟩
   cases hn:(aA u).isSome with
   |false=>rw[hn] at K;rw[c u aq hn];(repeat' first|(apply bq;exact aj;assumption;(exact K);intros)|refine' nJ|fail)
   |true=>rw[hn] at K;(repeat' first|(apply bq;exact aj;assumption;(exact K);intros)|refine' cY|fail);all_goals exact⟨_,aa,5,_,_,_,_,_,_,bd,ak,rfl,aa,λj d=>by rcases(by omega:j<4\/j=4) with d|rfl;exact a j d;exact hn⟩
   (refine' iK);all_goals exact⟨_,_,bd,ak,a⟩
  rintro l L ⟨A,x,V,hL,a⟩;refine' gh;have v:∀{w:aw},(aA w).isSome=J->aA w=C ((aA w).getD 0):=λ{w} h=>by
   cases Z:aA w with
   |none=>rw[Z] at h;cases h
   |some n=>rfl
  have e:=Pg.AX y b (v (a 0 aa)) (v (a 1 aa)) (v (a 2 aa)) (v (a 3 aa)) (v (a 4 aa));(have B:=λs h=>qc s ⟨((aA w0).getD 0:Nat),((aA o).getD 0:Nat),((aA r).getD 0:Nat),((aA t).getD 0:Nat),((aA u).getD 0:Nat)⟩ h);by_cases T:b9 ⟨((aA w0).getD 0:Nat),((aA o).getD 0:Nat),((aA r).getD 0:Nat),((aA t).getD 0:Nat),((aA u).getD 0:Nat)⟩=z
  .rw[ai T] at e;rw[e];rw[T] at B;(repeat' first|(apply bq;exact aj;assumption;(exact B);intros)|refine' nJ|fail)
  rw[af T] at e;rw[e];(repeat' first|(apply bq;exact aj;assumption;(exact B);intros)|refine' nJ|fail)
 rw[Pg.Qu y m];refine a8 f233 ?_;(repeat' first|refine' abb|(apply lp;exact aj;exact λs=>z6 s _;intro _ _ f g _ _)|refine' eI|fail);(all_goals first|(exfalso;have hc5:(Y (cut 46 z):Int)=5:=ki;omega)|contradiction|skip);(all_goals refine' aC);all_goals rfl
variable {E:hJ}{X:fb}{Γ:ng}{l:Kn}{L R:cq}{K:KO}{g:FuncId}{xs:List Operand}{ts:Array TypeId}{vs:aV}{a:aP}{n sz:Nat}{cs:aV}{r:Value}
def lN.may (hd:lN Γ){s:St}(hi:Inv Γ s L):∀b∈([5,1]:List Nat),qW Γ s b:=λb hb=>by obtain rfl|hb:=cA.1 hb;exact(hd.row hi).2.1;rw[gI] at hb;subst hb;exact(hd.row hi).2.2
def qd (e:iu l xs vs)(hd:lN Γ)(d:ga Γ L a n sz cs)(h:∀s,dy s->bJ s a n sz cs->jA E X g vs s (ah a++[5,1]) r)(k:∀m c,gk L m->m<=c->K r L m c (iI (ah a++[5,1]) [] m c) (iJ [] m c)):WC E X Γ l g xs ts L K:=
 dZ e (λs hi=>⟨λb hb=>by obtain hb|hb:=cG.1 hb;exact(d.row hi).2 b hb;exact hd.may hi b hb,h s (hd.row hi).1 (d.row hi).1⟩) k
def QN (s:St)(z:aw)(hz:Y z<=10000)(hr:dy s):et aZ aW 163 [sv z] s [5,1] 31 ((eY z).getD []) (eY z).isSome:=by
 have hd:lN ⟨s,([]:cq).flatMap It.bC,[5,1]⟩:=lN.of hr aq aq;have Sc:=λs=>Eo (ch:=44) s z aa;have o:=sP 44 z;have A:=pT 44 z;refine a8 f163 ?_;refine W.lO (α:=fm) (e:=31) ?_;refine W.lO (α:=fm) (e:=31) ?_;repeat' first|refine' abb|refine' cY|fail
 refine W.bu (λk l L=>∃(i:Nat)(out:cc)(a w:aP)(c x:Nat),Le [(0,sv z),(4,H a (Y out) c),(12,H w (Y (cut 44 z)) x),(13,iv (Y (cut 44 z):Int)),(14,iv (i:Int))] l/\cb [.aU (H a (Y out) c) 31 5 (ab out),.aU (H w (Y (cut 44 z)) x) 9 1 (ab (cut 44 z)),.aU (ew) 31 5 (ab ([]:cc))] L/\k=Y (cut 44 z)-i/\i<=Y (cut 44 z)/\((cut 44 z).take i).mapM cy=C out/\Y out<=4) (λl L=>∃(out:cc)(a:aP)(c:Nat),Le [(0,sv z),(4,H a (Y out) c)] l/\cb [.aU (H a (Y out) c) 31 5 (ab out),.aU (ew) 31 5 (ab ([]:cc))] L/\(cut 44 z).mapM cy=C out/\Y out<=4) _ ⟨0,[],O,_,0,_,bd,ak,rfl,aa,rfl,aq⟩ ?_ ?_
 .rintro k l L ⟨i,out,a,w,c,x,hl,G,rfl,h1,m,F⟩;refine' cP;have B:=Pg.l5 cy m;rw[de] at B;by_cases hi:i<Y (cut 44 z);have t:=a7 hi au.ad;have N:=o _ t;have d:=λs=>EN s ((cut 44 z).getD i au.ad) aa;cases u:cy ((cut 44 z).getD i au.ad) with
  |none=>rw[u] at d;have j:∀s,dy s->bM 233 [sv ((cut 44 z).getD i au.ad)] s [5,1] (.tuple ⟨[pv bp,M U]⟩):=d;clear d;rw[Pg.NB t u];(repeat' first|(apply bq;exact aj;assumption;(exact j);intros)|refine' cY|fail);all_goals refine' zaG
  |some p=>
   rw[u] at d;have j:∀s,dy s->bM 233 [sv ((cut 44 z).getD i au.ad)] s [5,1] (.tuple ⟨[pv p,M J]⟩):=d;clear d;have hm:=Pg.oc cy hi m u;by_cases h4:Y out<4
   .obtain⟨Q,S,T,V,Z⟩:=p;(repeat' first|(apply bq;exact aj;assumption;(exact j);intros)|refine' cY|fail);all_goals exact⟨_,aa,i+1,out++[⟨Q,S,T,V,Z⟩],_,_,_,_,bd,ak,rfl,aa,hm,by simp;omega⟩
   rw[Pg.NC aa];(repeat' first|(apply bq;exact aj;assumption;(exact j);intros)|refine' cY|fail);all_goals exact⟨bK,_,[.aU (ew) 31 5 (ab ([]:cc))],bH,ak,O,0,rfl,rfl⟩
  have hi:i=Y (cut 44 z):=by omega
  subst hi;rw[lG] at m;refine' iK;all_goals exact⟨out,_,_,bd,ak,m,F⟩
 rintro l L ⟨out,a,c,hl,G,m,F⟩;refine' gh;have b:=λs a c hn hr=>QL s a c out aa hn hr;have e:=Pg.ND m;cases hf:fM out with
 |none=>rw[hf] at b;have f:∀s a c,dy s->bJ s a (Y out) 5 (ab out)->bM 234 [H a (Y out) c] s (ah a++[5,1]) (.tuple ⟨[sv [],M U]⟩):=b;clear b;rw[hf,af aq] at e;rw[e];(repeat' first|(apply qd;exact aj;assumption;exact ax;(intro s h hr;exact f s _ _ h hr);intros)|refine' cY|fail);all_goals refine' zaG
 |some y=>
  rw[hf] at b;have f:∀s a c,dy s->bJ s a (Y out) 5 (ab out)->bM 234 [H a (Y out) c] s (ah a++[5,1]) (.tuple ⟨[sv y,M J]⟩):=b;clear b;rw[hf] at e;by_cases v:y=z
  .rw[ai (by rw[v])] at e;rw[e];(have D:(!decide (y=z))=U:=by rw[gZ v];rfl);(repeat' first|(apply qd;exact aj;assumption;exact ax;(intro s h hr;exact f s _ _ h hr);intros)|refine' cY|fail);(all_goals refine' eu);all_goals rfl
  rw[af (by simpa using v)] at e;rw[e];have D:(!decide (y=z))=J:=by rw[kX v];rfl
  (repeat' first|(apply qd;exact aj;assumption;exact ax;(intro s h hr;exact f s _ _ h hr);intros)|refine' cY|fail);all_goals refine' zaG
variable {v:SA}{st:ae}{s:St}
structure fh (s:St)(b:Nat)(v:SA)(st:ae):Prop where
 b:bJ s (ko b) 1 8 (lL v st)
 w:cr s v st
structure eh (Γ:ng)(L:cq)(b:Nat)(v:SA)(st:ae):Prop where
 b:ga Γ L (ko b) 1 8 (lL v st)
 w:cJ Γ L v st
abbrev mL (b:Nat)(v:SA):List Nat:=b::iB v
section
variable {b:Nat}
def eh.row (h:eh Γ L b v st)(hi:Inv Γ s L):fh s b v st/\∀i∈mL b v,qW Γ s i:=by refine⟨⟨(h.b.row hi).1,(h.w.row hi).1⟩,λi hb=>?_⟩;obtain rfl|hb:=cA.1 hb;exact(h.b.row hi).2 _ (by simp[ah]);exact(h.w.row hi).2 i hb
def gY (e:iu l xs vs)(h:∀s,fh s b v st->jA E X g vs s (mL b v) r)(d:eh Γ L b v st)(k:∀m c,gk L m->m<=c->K r L m c (iI (mL b v) [] m c) (iJ [] m c)):WC E X Γ l g xs ts L K:=
 dZ e (λs hi=>⟨(d.row hi).2,h s (d.row hi).1⟩) k
def RdS.bx (h:fh s b v st):Rd ⟨s,([]:cq).flatMap It.bC,mL b v⟩ (ko b) 1 8 (lL v st):=Rd.of h.b λ_ hb=>by simp[ah] at hb;subst hb;exact ed
def RdS.rw (h:fh s b v st):Rd ⟨s,([]:cq).flatMap It.bC,mL b v⟩ v.r 64 1 (ab st.dV):=Rd.of h.w.r λ_ hb=>dI _ (uO hb)
def RdS.rf (h:fh s b v st):Rd ⟨s,([]:cq).flatMap It.bC,mL b v⟩ v.f 64 1 (ab st.aI):=Rd.of h.w.f λ_ hb=>dI _ (uP hb)
def RdS.la (h:fh s b v st):Rd ⟨s,([]:cq).flatMap It.bC,mL b v⟩ v.l 64 1 (ab st.bW):=Rd.of h.w.l λ_ hb=>dI _ (uQ hb)
end
def u0 (s:St)(b:Nat)(v:SA)(st:ae)(h:cZ 100000 st)(p:fm)(i:aQ p=J)(hr:fh s b v st):bM 49 [bk b,pv p] s (mL b v) (Sr (dD st p)):=by
 have d:=RdS.bx hr;have e:=RdS.rw hr;have f:=h.lr;have k:Y (st.dV.getD p.row.toNat au.ad)<=3000:=h.row p.row.toNat;cases c:av p with
 |true=>
  refine a8 f49 ?_;(repeat' first|(apply ag;exact aj;exact λs=>bO s ⟨_,_,_,_,_⟩;intros)|refine' cY|fail);all_goals refine' aC
  all_goals(unfold dD;rw[ai c];rfl)
 |false=>
  have j:=oA i c;refine a8 f49 ?_;(repeat' first|(apply ag;exact aj;exact λs=>bO s ⟨_,_,_,_,_⟩;intros)|(apply ag;exact aj;exact λs=>NS s ⟨_,_,_,_,_⟩ _ aa;intros)|refine' cY|fail);all_goals refine' aC
  all_goals(unfold dD;rw[af (by rw[c];simp)])
  all_goals first|(rw[af (by simp_all [gB])];rfl)|(rw[ai (by simp_all [gB])];rfl)
end Go.Pl
namespace Go.Pg
open Go.Pl
variable {st:ae}{p:fm}{s:aw}{level:Int}{t:bt}{l:cc}
def QO (st:ae)(p:fm)(level:Int):Option (cc):=if av p then C (cX 4) else match dD st p with
 |none=>O
 |some s=>if p.level≠level then O else match eY s with
  |none=>O
  |some l=>if l.any (λq=>decide (p.bE<q.bE)) then O else C l
def y0 (a:av p=U)(h:dD st p=C s):aQ p=J/\s=gB st p/\fits p s=J:=by unfold dD at h;rw[af (by rw[a];simp)] at h;split at h;rename_i hf;cases h;refine⟨?_,rfl,hf⟩;simp only[fits,ep] at hf;exact hf.1.1.1;cases h
def Zl (b:av p=U)(h:dD st p=C s):s≠[]:=by obtain⟨c,_,a⟩:=y0 b h;have d:=(rN b).1 c;simp only[fits,ep,gv] at a;rintro rfl;have:=a.1.2;simp at this;omega
def xr (a:av p=J):dD st p=C []:=by unfold dD;rw[ai a]
def QQ (h:av p=J\/p.bE<=st.dm):QO st p level=below st p level:=by
 unfold QO below;cases a:av p with
 |true=>rfl
 |false=>
  rw[af aq,af aq];have hb:p.bE<=st.dm:=h.resolve_left (by rw[a];simp);cases hr:dD st p with
  |none=>dsimp only;split<;>rfl
  |some s=>have b:=(y0 a hr).1;dsimp only;by_cases hl:p.level=level;rw[af (λhn=>hn hl),af (by simp[b,hl];omega)];cases eY s<;>rfl;rw[ai hl,ai (by simp[hl])]
def NV {k:cc}(h0:0<=st.dm)(h:below st p level=C k):∀q∈k,aQ q=J/\q.bE<=st.dm:=λq a=>by obtain⟨_,b,c⟩:=hY h;refine⟨b q a,?_⟩;obtain⟨_,rfl⟩|⟨_,_,d,_,_,e⟩:=c;rw[kh a];exact h0;exact Int.le_trans (e q a) d
def xu {n:Int}(h0:0<=st.dm):∀{l r:cc},down st n l=C r->∀q∈r,aQ q=J/\q.bE<=st.dm
 |[],r,h=>by cases h;simp
 |p::l,r,h=>by obtain⟨k,d,b,c,rfl⟩:=fy h;intro q a;obtain a|a:=cG.1 a;exact NV h0 b q a;exact xu h0 c q a
def EO (h0:0<=st.dm):∀(n:Nat){l r:cc},du.go st n l=C r->(∀q∈l,aQ q=J/\q.bE<=st.dm)->(∀q∈r,aQ q=J/\q.bE<=st.dm)/\Y r=4^ n*Y l
 |0,l,r,h,hl=>by cases h;exact⟨hl,aq⟩
 |n+1,l,r,h,hl=>by
  rw[du.go] at h;cases hd:down st (n+1:Nat) l with
  |none=>rw[hd] at h;cases h
  |some l'=>rw[hd] at h;obtain⟨a,b⟩:=EO h0 n h (xu h0 hd);refine⟨a,?_⟩;rw[b,(pR hd).1,qm,GG]
def se (st:ae)(many:Int)(i:Nat)(p:fm):Bool:=(dD st p).isSome&&decide (p.level=0)&&(decide ((i:Int)<many)||av p)
def Zm {many:Int}{i:Nat}(h:p.bE<=st.dm):se st many i p=iH st many i p:=by
 unfold se iH;cases a:av p with
 |true=>rw[xr a];have:=kP.1 a;subst this;simp[bp]
 |false=>simp[h]
def qP (f:Nat->fm->Bool):∀(l:cc)(k:Nat),ik f k l=J↔∀i,i<Y l->f (k+i) (l.getD i bp)=J
 |[],k=>by simp[ik]
 |p::l,k=>by
  rw[ik,ep,qP f l (k+1)];constructor;rintro⟨a,b⟩ i hi;cases i with
  |zero=>exact a
  |succ i=>have:=b i (by simpa using hi);rwa[show k+(i+1)=k+1+i by omega]
  intro h;refine⟨h 0 aq,λi hi=>?_⟩;have:=h (i+1) (by simpa using hi);rwa[show k+1+i=k+(i+1) by omega]
def dU (st:ae)(t:bt):Option (cc):=if da st t=J then C ((cv st t).take t.many.toNat) else O
def abZ {m:Int}(h:0<=m/\m<=16):m.toNat<=4^ (bR m).toNat:=by unfold bR;split;have:(0:Int).toNat=0:=rfl;rw[this];omega;split;have:(1:Int).toNat=1:=rfl;rw[this];omega;have:(2:Int).toNat=2:=rfl;rw[this];omega
def EP (h0:0<=st.dm)(hm:0<=t.many/\t.many<=16)(hd:t.depth=bR t.many)(hr:aQ t.bU=J)(hb:t.bU.bE<=st.dm)(h:du st t=C l):dU st t=(if ∀i,i<Y l->se st t.many i (l.getD i bp)=J then C (l.take t.many.toNat) else O)/\t.many.toNat<=Y l:=by
 obtain⟨d,e⟩:=EO h0 t.depth.toNat h (λq c=>by rw[gI] at c;subst c;exact⟨hr,hb⟩);have a:t.many.toNat<=Y l:=by rw[e,hd];simpa using abZ hm
 refine⟨?_,a⟩;have ht:da st t=ik (iH st t.many) 0 l:=by
  unfold da;have:fI t.many 0 16=J:=by simp[fI,hm]
  rw[this,hr,h];simp[hd]
 have f:(cv st t).take t.many.toNat=l.take t.many.toNat:=by unfold cv;rw[h];exact tP a
 unfold dU;rw[ht,f];have b:∀i,i<Y l->se st t.many i (l.getD i bp)=iH st t.many i (l.getD i bp):=λi hi=>Zm (d _ (by rw[eX,c8 hi];exact B5 hi)).2;by_cases ha:∀i,i<Y l->se st t.many i (l.getD i bp)=J;rw[ai ha,ai];rw[qP];intro i hi;rw[kz,<-b i hi];exact ha i hi;rw[af ha,af];intro hc;rw[qP] at hc;apply ha;intro i hi;rw[b i hi];have:=hc i hi;rwa [kz] at this
def A7 (h:¬(0<=t.many/\t.many<=16)\/t.depth≠bR t.many\/aQ t.bU=U\/du st t=O):dU st t=O:=by unfold dU;rw[af];intro hc;simp only[da,ep,gv,fI] at hc;obtain⟨⟨⟨c,d⟩,a⟩,b⟩:=hc;obtain h|h|h|h:=h;exact h c;exact h d;rw[h] at a;cases a;rw[h] at b;cases b
def wi (h0:0<=st.dm)(h:st.dm<t.bU.bE):dU st t=O:=by
 unfold dU;rw[af];intro hc;simp only[da,ep,gv] at hc;obtain⟨⟨_,e⟩,a⟩:=hc;have c:av t.bU=U:=by
  cases c:av t.bU with
  |false=>rfl
  |true=>have:=kP.1 c;rw[this] at h;exact absurd h (by show ¬st.dm<0;omega)
 unfold du at a;cases hn:t.depth.toNat with
 |zero=>rw[hn] at a;simp only[du.go,ik,iH,c,ep,km,gv,tA] at a;obtain a|a:=a;exact absurd a aq;omega
 |succ n=>
  rw[hn,du.go] at a;have:down st (n+1:Nat) [t.bU]=O:=by
   cases hd:down st (n+1:Nat) [t.bU] with
   |none=>rfl
   |some r=>obtain⟨k,f,d,_,_⟩:=fy hd;obtain⟨_,_,b⟩:=hY d;obtain⟨b,_⟩|⟨_,_,b,_⟩:=b;rw[c] at b;cases b;omega
  rw[this] at a;cases a
def ph (h:dU st t=C l):da st t=J/\l=(cv st t).take t.many.toNat/\fU st t=l.map (b0 st):=by unfold dU at h;split at h;rename_i ht;cases h;exact⟨ht,rfl,rfl⟩;cases h
def bI (st:ae)(t:bt):List (Option dX):=(fU st t).map bY
def QR (h:av p=J):b0 st p=[]:=by unfold b0;rw[xr h];rfl
def gN (st:ae)(t:bt):dL st t=J↔da st t=J/\∀p∈(cv st t).take t.many.toNat,av p=J\/(dD st p≠O->∃n,bY (b0 st p)=C n/\da st n.aO=J)/\dD st p≠O:=by
 unfold dL;rw[ep];refine and_congr_right λht=>?_;have hr:∀p∈(cv st t).take t.many.toNat,dD st p≠O:=by
  intro p a;simp only[da,ep,gv] at ht;obtain⟨_,c⟩:=ht;cases hl:du st t with
  |none=>rw[hl] at c;cases c
  |some l=>rw[hl] at c;unfold cv at a;rw[hl] at a;have a:=An a;obtain a|a:=cG.1 a;rw[lI] at a;obtain⟨i,hi,rfl⟩:=si a;have:=(qP _ l 0).1 c i hi;rw[kz,eX,c8 hi] at this;simp only[lI,iH,km,ep] at this;intro hn;obtain d|d:=this;rw[xr d] at hn;cases hn;rw[hn] at d;exact absurd d.1.1.1 aq;rw[kh a];intro h;cases h
 unfold fU;rw[List.all_map,o5];refine forall_congr' λp=>forall_congr' λa=>?_;have g:=hr p a;simp only[Function.comp,km,gv];cases f:av p with
 |true=>simp[QR f]
 |false=>
  cases hs:dD st p with
  |none=>exact absurd hs g
  |some s=>
   have b:=Zl f hs;(have e:b0 st p=s:=by unfold b0;rw[hs];rfl);rw[e];cases hn:bY s with
   |none=>simp[b]
   |some n=>simp[b]
end Go.Pg
namespace Go.Pl
open Go Go.Ev Go.Lg Go.Proofs
variable {E:hJ}{X:fb}{Γ:ng}{l:Kn}{L R:cq}{K:KO}{g:FuncId}{xs:List Operand}{ts:Array TypeId}{vs:aV}{a:aP}{n sz c e m:Nat}{cs:aV}{r:Value}{x y o:Operand}{α:Type}{enc:au α sz}{p:List α}{q:Bool}
section
variable {t:TypeId}{b:Nat}{v:SA}{st:ae}
def ab0 {A B:IntKind}[ht:TT E t e sz α enc](Q:Ev l x (H a n c))(S:Ev l y (I A (m:Int)))(N:Ev l o (I B (m:Int)))(hm:It.aU (H a n c) e sz (ab (sz:=sz) p)∈L)(hn:n=Y p)(hu:n<cl)(hj:m<=n)
  (h:∀i,Sub sz a p a (p.take m)->K (H a m m) L i i (λb=>b∈ah a) Z):WO E X Γ l (.slice t x O (C y) (C o)) L K:=λd s hl hi=>by
 obtain⟨zz,hr,_⟩:=ht.h;obtain⟨z,ii,z1,F,G,hi3,hi4,hi5,hi6,hi7⟩:=hr.h;have u:size E e=C sz:=by unfold size;rw[F];simp[G]
 have f:Sub sz a p a (p.take m):=⟨⟨0,m,aq,aa,⟨by by_cases h0:m=0;exact .inr ⟨h0,.inl rfl⟩;left;unfold TN;split;simp;rfl⟩⟩⟩;obtain⟨D,V⟩|⟨b,n',k',w,rest,D,V,h3,h4⟩:=hi.it _ hm;cases D;obtain rfl:m=0:=by omega
 refine eM.pure (v:=ew) (s':=s) (λcall=>?_) ⟨L,_,Z,hi,iS.id,h _ f⟩;show fX E s t (aM d x) (dN (aM d) O) (dN (aM d) (C y)) (dN (aM d) (C o))=_;show fX E s t (aM d x) O (C (aM d y)) (C (aM d o))=_;rw[Q.eval hl,S.eval hl,N.eval hl];unfold fX;rw[z];show ob (size E e) _=_;rw[u];rfl;cases D;have j:=hi.may hm (b:=b) (by simp[It.bC,nH]);have k:cQ sz (ko b) n n O (C (I A (m:Int))) (C (I B (m:Int)))=C (H (ko b) m m)/\∀c,n<=c->cQ sz (ko b) n c O (C (I A (m:Int))) (C (I B (m:Int)))=C (H (ko b) m m):=by
  have key:∀c,n<=c->cQ sz (ko b) n c O (C (I A (m:Int))) (C (I B (m:Int)))=C (H (ko b) m m):=λc hc=>by show ob (bo (ble m c) (C m) O) (λT=>ob (bo (ble m T) (C m) O) λh=>ob (C 0) λl=>C (Value.slice (bo (beq T l) (ko b) (oZ (ko b) (mul l sz))) (Nat.sub h l) (Nat.sub T l)))=_;rw[dQ (show m<=c by omega)];show ob (bo (ble m m) (C m) O) _=_;rw[dQ (fG m)];show C (Value.slice (bo (beq m 0) (ko b) (oZ (ko b) (mul 0 sz))) m m)=_;(have:oZ (C (⟨b,0,O⟩:Addr)) (mul 0 sz)=C ⟨b,0,O⟩:=by rw[show mul 0 sz=0 from Am sz];rfl);rw[this,dC];split<;>rfl
  exact⟨key n (fG _),key⟩
 obtain⟨h5,h6,h7⟩|⟨rfl,rfl⟩:=h4;refine eM.pure (v:=H (ko b) m m) (s':=s) (λcall=>?_) ⟨L,_,Z,hi,iS.id,h _ f⟩;show fX E s t (aM d x) O (C (aM d y)) (C (aM d o))=_;rw[Q.eval hl,S.eval hl,N.eval hl];unfold fX;rw[z];show ob (size E e) _=_;rw[u];show bo (ble cl c) _ _=_;rw[show ble cl c=U from by rw[<-tK,mm];omega];show ob (cQ sz (ko b) n c O _ _) _=_;rw[k.2 c h5];rfl;refine eM.pure (v:=H (ko b) m m) (s':=s.aL b) (λcall=>?_) ⟨L,(λi=>i∈ah (ko b)),Z,hi.aL j,cH j.1 (by simp[ah]),by rw[bh];exact h _ f⟩;show fX E s t (aM d x) O (C (aM d y)) (C (aM d o))=_;rw[Q.eval hl,S.eval hl,N.eval hl];unfold fX;rw[z];show ob (size E e) _=_;rw[u];have hz:nO O (C (I A (m:Int))) (C (I B (m:Int)))=U:=by cases m<;>rfl
 simp only[bF];show bo J _ _=_;rw[ff,hz,ey];show iF e sz (ko b) n cl O (C (I A (m:Int))) (C (I B (m:Int))) s=_;unfold iF;show s.row b (λc' W w s=>dq (bo w J (beq sz 1)&&beq W e&&beq 0 (mul (Nat.sub cl cl) sz)&&ble (Nat.add 0 (mul n sz)) (dJ c')) (dq (ble (Nat.succ n) cl) (ob (cQ sz (ko b) n n O _ _) λv=>aD v s)))=_;unfold St.row St.look;rw[V,bF];show dq (J&&beq e e&&beq 0 (mul (Nat.sub cl cl) sz)&&ble (Nat.add 0 (mul n sz)) (dJ (ab (sz:=sz) p++rest))) _=_;have hle:Nat.add 0 (mul n sz)<=Y (ab (sz:=sz) p++rest):=by rw[dB,h3];show 0+n*sz<=_;omega
 rw[show mul (Nat.sub cl cl) sz=0 by show(cl-cl)*sz=0;rw[vG,Am],cR,kY,dQ hle,dQ (show Nat.succ n<=cl from hu)];show ob (cQ sz (ko b) n n O _ _) _=_;rw[k.1];rfl
def sd (j:iu l xs vs)(hd:lN Γ)(h:∀s,fh s b v st->dy s->jA E X g vs s (mL b v++[5,1]) r)(f:eh Γ L b v st)(k:∀m d,gk L m->m<=d->K r L m d (iI (mL b v++[5,1]) [] m d) (iJ [] m d)):WC E X Γ l g xs ts L K:=
 dZ j (λs hi=>⟨λi hb=>(cG.1 hb).elim ((f.row hi).2 i) (hd.may hi i),h s (f.row hi).1 (hd.row hi).1⟩) k
def A8 (j:iu l xs vs)(hd:lN Γ)(h:∀s,fh s b v st->dy s->et E X g vs s (mL b v++[5,1]) e p q)(f:eh Γ L b v st)(k:∀m d a c,gk L m->m<=d->K (.tuple ⟨[H a (Y p) c,M q]⟩) (.aU (H a (Y p) c) e sz (ab (sz:=sz) p)::L) m d (iI (mL b v++[5,1]) [] m d) (iJ [] m d)):WC E X Γ l g xs ts L K:=
 vk j (λs hi=>⟨λi hb=>(cG.1 hb).elim ((f.row hi).2 i) (hd.may hi i),h s (f.row hi).1 (hd.row hi).1⟩) k
end
def ab1 (s:St)(b:Nat)(p k:fm)(hr:bJ s (ko b) 1 5 (nA p)):bM 165 [pv k,bk b] s [b] (M (decide (p.bE<k.bE))):=by
 have hd:Rd ⟨s,([]:cq).flatMap It.bC,[b]⟩ (ko b) 1 5 (nA p):=Rd.of hr λ_ hb=>by simpa[ah] using hb
 refine a8 f165 ?_;refine' qcx
def ab2 (s:St)(a:aP)(c:Nat)(p:cc)(S:Y p<=100000)(g:FuncId)(z:aV)(B:List Nat)(f:fm->Bool)(G:∀b∈B,b<s.next)(v:∀s',(∀b∈B,b<s'.next/\s'.heap.get b=s.heap.get b)->∀x,bM g (pv x::z) s' B (M (f x)))(hr:bJ s a (Y p) 5 (ab p)):bM 235 [H a (Y p) c,.func (.func g) ⟨[]⟩ ⟨z⟩] s (ah a++B) (iv (oI (p.findIdx? f))):=by
 have hd:Rd ⟨s,([]:cq).flatMap It.bC,ah a++B⟩ a (Y p) 5 (ab p):=Rd.of hr λ_ hb=>im _ hb;have t:∀s' L,Inv ⟨s,([]:cq).flatMap It.bC,ah a++B⟩ s' L->∀x,(∀b∈B,qW ⟨s,([]:cq).flatMap It.bC,ah a++B⟩ s' b)/\bM g (pv x::z) s' B (M (f x)):=λs' L hi x=>by have w:∀b∈B,b<s'.next:=λb hb=>vF (G b hb) hi.le;exact⟨λb hb=>⟨w b hb,.inl (dt _ hb)⟩,v s' (λb hb=>⟨w b hb,hi.fr b (G b hb) (λh=>by cases h)⟩) x⟩
 clear v;refine a8 f235 ?_;refine' iK;refine W.bu (λk l L=>∃(i:Nat),Le [(0,H a (Y p) c),(1,.func (.func g) ⟨[]⟩ ⟨z⟩),(7,iv (Y p:Int)),(8,iv (i:Int))] l/\cb [] L/\k=Y p-i/\i<=Y p/\∀j,j<i->f (p.getD j au.ad)≠J) (λl L=>cb [] L/\∀j,j<Y p->f (p.getD j au.ad)≠J) _ ⟨0,bd,ak,rfl,aa,λj N=>by omega⟩ ?_ ?_
 .rintro k l L ⟨i,hl,A,rfl,Q,u⟩;refine' cP;by_cases hi:i<Y p
  .have t:=λs' L D=>t s' L D (p.getD i au.ad);(repeat' first|(apply Jr;(exact Ev.tmp rfl);exact aj;skip)|(apply dZ;(exact vl _);(intro s' hi;exact t s' _ hi);intros)|refine' cY|fail);have e:p.findIdx? f=C i:=nU (d:=au.ad (α:=fm)) hi hc u;refine' aC;rw[e];rfl;exact⟨_,aa,i+1,bd,ak,rfl,aa,λj N=>by by_cases F:j=i;rw[F,hc];exact B3;exact u j aa⟩
  (refine' iK);all_goals exact⟨ak,λj N=>u j aa⟩
 rintro l L ⟨A,u⟩;refine aJ ?_;refine W.le ?_ (Le.nil _) A;clear A;have e:p.findIdx? f=O:=yb au.ad u;refine' eR;all_goals refine' aC
 all_goals(rw[e];rfl)
def ab3 (s:St)(a:aP)(c:Nat)(p:cc)(D:Y p<=100000)(g:FuncId)(u:aV)(B:List Nat)(f:fm->Bool)(A:∀b∈B,b<s.next)(v:∀s',(∀b∈B,b<s'.next/\s'.heap.get b=s.heap.get b)->∀x,bM g (pv x::u) s' B (M (f x)))(hr:bJ s a (Y p) 5 (ab p)):bM 164 [H a (Y p) c,.func (.func g) ⟨[]⟩ ⟨u⟩] s (ah a++B) (M (p.any f)):=by
 have hd:Rd ⟨s,([]:cq).flatMap It.bC,ah a++B⟩ a (Y p) 5 (ab p):=Rd.of hr λ_ hb=>im _ hb;have d:∀s' L,Inv ⟨s,([]:cq).flatMap It.bC,ah a++B⟩ s' L->(∀b∈ah a++B,qW ⟨s,([]:cq).flatMap It.bC,ah a++B⟩ s' b)/\bM 235 [H a (Y p) c,.func (.func g) ⟨[]⟩ ⟨u⟩] s' (ah a++B) (iv (oI (p.findIdx? f))):=λs' L hi=>by
  have t:∀b∈B,b<s'.next:=λb hb=>vF (A b hb) hi.le;have j:=(ga.rd (L:=L) hd).row hi;refine⟨λb hb=>?_,ab2 s' a c p D g u B f t (λw z x=>v w (λb hb=>⟨(z b hb).1,(z b hb).2.trans (hi.fr b (A b hb) (λh=>by cases h))⟩) x) j.1⟩;obtain hb|hb:=cG.1 hb
  exact j.2 b hb;exact⟨t b hb,.inl (dt _ hb)⟩
 have e:p.any f=(p.findIdx? f).isSome:=by rw[Rv]
 rw[e];cases hf:p.findIdx? f with
 |none=>rw[hf] at d;have k:=d;clear d;refine a8 f164 ?_;(repeat' first|(apply dZ;exact aj;(intro s' hi;exact k s' _ hi);intros)|refine' nJ|fail)
 |some i=>
  rw[hf] at d;have k:=d;clear d;refine a8 f164 ?_;(repeat' first|(apply dZ;exact aj;(intro s' hi;exact k s' _ hi);intros)|refine' cY|fail);all_goals refine' aC
  all_goals(refine congrArg Value.bool ?_;exact gZ (show(0:Int)<=(i:Int) by omega))
def ER (st:ae)(p:fm)(level:Int):cc:=if av p then cX 4 else match dD st p with
 |none=>[]
 |some s=>if p.level≠level then [] else(eY s).getD []
variable {n2 sz2:Nat}{cs2:aV}
section
variable {b:Nat}
def Vk (u:iu l xs vs)(h:∀s,bJ s a n sz cs->bJ s (ko b) n2 sz2 cs2->jA E X g vs s (ah a++[b]) r)(t:ga Γ L a n sz cs)(hb:ga Γ L (ko b) n2 sz2 cs2)(k:∀m f,gk L m->m<=f->K r L m f (iI (ah a++[b]) [] m f) (iJ [] m f)):WC E X Γ l g xs ts L K:=
 dZ u (λs hi=>⟨λi j=>by obtain d|d:=cG.1 j;exact(t.row hi).2 i d;rw[gI] at d;subst d;exact(hb.row hi).2 i (by simp[ah]),h s (t.row hi).1 (hb.row hi).1⟩) k
end
def ab4 (s:St)(a:aP)(c:Nat)(q:cc)(B:Y q<=100000)(b:Nat)(p:fm)(hr:bJ s a (Y q) 5 (ab q))(hb:bJ s (ko b) 1 5 (nA p)):bM 164 [H a (Y q) c,.func (.func 165) ⟨[]⟩ ⟨[bk b]⟩] s (ah a++[b]) (M (q.any λk=>decide (p.bE<k.bE))):=by have f:=hb;obtain⟨h0,⟨d,_⟩|⟨b',o,cs,e,w,d,t,u,v⟩⟩:=f;cases d;cases d;refine ab3 s a c q B _ _ [b] _ (λi hi=>by rw[gI] at hi;subst hi;exact t) (λs' j x=>ab1 s' b p x ?_) hr;obtain⟨z,A⟩:=j b aq;exact⟨h0,.inr ⟨b,0,cs,e,w,rfl,z,A.trans u,v⟩⟩
def Vl {st:ae}{p:fm}{level:Int}{l:cc}(h:Pg.QO st p level=C l):ER st p level=l:=by
 unfold Pg.QO at h;unfold ER;split at h;cases h;rename_i b;rw[ai b];rename_i b;rw[af b];cases hr:dD st p with
 |none=>rw[hr] at h;cases h
 |some s=>
  rw[hr] at h;dsimp only at h⊢;split at h;cases h;rename_i hl;rw[af hl];cases hf:eY s with
  |none=>rw[hf] at h;cases h
  |some q=>rw[hf] at h;dsimp only at h;split at h;cases h;cases h;rfl
def Vm (st:ae)(p:fm)(level:Int):Y (ER st p level)<=4:=by
 unfold ER;split;simp[cX];split;simp;rename_i s _;split;simp;cases hf:eY s with
 |none=>simp
 |some q=>exact Nat.le_of_eq (Pg.qD hf).1
def Vn (s:St)(b:Nat)(v:SA)(st:ae)(h:cZ 100000 st)(p:fm)(Q:aQ p=J)(level:Int)(hr:fh s b v st)(hn:dy s):et aZ aW 106 [bk b,pv p,iv level] s (mL b v++[5,1]) 31 (ER st p level) (Pg.QO st p level).isSome:=by
 refine' zaa;have hd:lN ⟨s,([]:cq).flatMap It.bC,mL b v++[5,1]⟩:=lN.of hn aq aq;have i:=λs hr=>u0 s b v st h p Q hr;unfold Pg.QO ER;cases N:av p with
 |true=>
  rw[ai rfl,ai rfl];refine a8 f106 ?_;refine W.lO (α:=fm) (e:=31) ?_;(repeat' first|(apply ag;exact aj;(first|exact λs=>bO s _|exact λs=>bO s ⟨_,_,_,_,_⟩);intros)|refine' cY|fail);all_goals refine' eu
  all_goals rfl
 |false=>
  rw[af B3,af B3];cases D:dD st p with
  |none=>rw[D] at i;have j:∀s,fh s b v st->bM 49 [bk b,pv p] s (mL b v) (.tuple ⟨[sv [],M U]⟩):=i;clear i;refine a8 f106 ?_;refine W.lO (α:=fm) (e:=31) ?_;(repeat' first|(apply ag;exact aj;(first|exact λs=>bO s _|exact λs=>bO s ⟨_,_,_,_,_⟩);intros)|(apply gY;exact aj;(exact j);(exact eh.mk ax (cJ.mk ax ax ax));intros)|refine' cY|fail);all_goals refine' zaG
  |some z=>
   (have T:Y z<=3000:=by rw[(Pg.y0 N D).2.1];exact h.row p.row.toNat);rw[D] at i;have j:∀s,fh s b v st->bM 49 [bk b,pv p] s (mL b v) (.tuple ⟨[sv z,M J]⟩):=i;clear i;dsimp only;by_cases hl:p.level=level;rw[af (λg=>g hl),af (λg=>g hl)];have d:=λs=>QN s z aa;cases hf:eY z with
   |none=>rw[hf] at d;have t:∀s,dy s->et aZ aW 163 [sv z] s [5,1] 31 ([]:cc) U:=d;clear d;refine a8 f106 ?_;refine W.lO (α:=fm) (e:=31) ?_;(repeat' first|(apply ag;exact aj;(first|exact λs=>bO s _|exact λs=>bO s ⟨_,_,_,_,_⟩);intros)|(apply gY;exact aj;(exact j);(exact eh.mk ax (cJ.mk ax ax ax));intros)|(apply mA;exact aj;assumption;(exact t);intro _ _ u A _ _)|refine' Dx|refine' cY|fail);(all_goals refine' eu);all_goals rfl
   |some q=>rw[hf] at d;have t:∀s,dy s->et aZ aW 163 [sv z] s [5,1] 31 q J:=d;clear d;have S:=(Pg.qD hf).1;(have B:=λs a c b hr hb=>ab4 s a c q aa b p hr hb);refine a8 f106 ?_;refine W.lO (α:=fm) (e:=31) ?_;(repeat' first|(apply ag;exact aj;(first|exact λs=>bO s _|exact λs=>bO s ⟨_,_,_,_,_⟩);intros)|(apply gY;exact aj;(exact j);(exact eh.mk ax (cJ.mk ax ax ax));intros)|(apply mA;exact aj;assumption;(exact t);intro _ _ u A _ _)|refine' Dx|(apply Vk;exact aj;(intro s F G;exact B s _ _ _ F G);exact ax;exact ax;intros)|refine' cY|fail);(all_goals refine' eu);all_goals first|rfl|(show(if(q.any λk=>decide (p.bE<k.bE))=J then O else C q).isSome= !(q.any λk=>decide (p.bE<k.bE));cases (q.any λk=>decide (p.bE<k.bE))<;>rfl)
   rw[ai hl,ai hl];refine a8 f106 ?_;refine W.lO (α:=fm) (e:=31) ?_;(repeat' first|(apply ag;exact aj;(first|exact λs=>bO s _|exact λs=>bO s ⟨_,_,_,_,_⟩);intros)|(apply gY;exact aj;(exact j);(exact eh.mk ax (cJ.mk ax ax ax));intros)|refine' cY|fail);all_goals exact⟨bK,_,[.aU (ew) 31 5 (ab ([]:cc))],bH,ak,O,0,rfl,rfl⟩
section
variable {q:List α}{r:Bool}{b:Nat}{v:SA}{st:ae}
abbrev sW {α:Type}{sz:Nat}[au α sz](E:hJ)(X:fb)(f:FuncId)(vs:aV)(s:St)(A:List Nat)(e:TypeId)(q:List α)(r:Bool):Prop:=eJ E X f vs s [] A λR L=>∃a a0,∃d:List α,∃h,R= .tuple ⟨[H a (Y q) (Y q),M r]⟩/\L=[.aU (H a0 (Y d) h) e sz (ab (sz:=sz) d)]/\Sub sz a0 d a q
def jP (w:iu l xs vs)(hd:lN Γ)(h:∀s,fh s b v st->dy s->sW E X g vs s (mL b v++[5,1]) e q r)(t:eh Γ L b v st)(k:∀m d a a0 (f:List α) j,Sub sz a0 f a q->gk L m->m<=d->K (.tuple ⟨[H a (Y q) (Y q),M r]⟩) (.aU (H a0 (Y f) j) e sz (ab (sz:=sz) f)::L) m d (iI (mL b v++[5,1]) [] m d) (iJ [] m d)):WC E X Γ l g xs ts L K:=
 cI (Lm:=[]) (R:=L) w (.refl _) (λs hi i hb=>(cG.1 hb).elim ((t.row hi).2 i) (hd.may hi i)) (λs hi=>h s (t.row hi).1 (hd.row hi).1) (by rintro v L' m d u hm ⟨a,a0,f,j,rfl,rfl,hs⟩;exact k m d a a0 f j hs u hm)
end
def Zn {st:ae}{n:Int}{l:cc}{i:Nat}(hi:i<Y l)(b:below st (l.getD i bp) n=O):down st n l=O:=by
 cases h:down st n l with
 |none=>rfl
 |some r=>have:=Pg.uA h (l.getD i bp) (gX bp hi);rw[b] at this;cases this
def aey {st:ae}{n:Nat}{l:cc}(h:down st ((n+1:Nat):Int) l=O):du.go st (n+1) l=O:=by rw[du.go,h]
def go_step {st:ae}{n:Nat}{l r:cc}(h:down st ((n+1:Nat):Int) l=C r):du.go st (n+1) l=du.go st n r:=by rw[du.go,h]
def Kf {α:Type}{sz:Nat}:Sub (α:=α) sz O [] O []:=⟨⟨0,0,rfl,fG _,⟨.inr ⟨rfl,.inl rfl⟩⟩⟩⟩
def sX (s:St)(b:Nat)(v:SA)(st:ae)(h:cZ 100000 st)(h0:0<=st.dm)(t:bt)(hr:fh s b v st)(hn:dy s):sW aZ aW 48 [bk b,tv t] s (mL b v++[5,1]) 31 ((Pg.dU st t).getD []) (Pg.dU st t).isSome:=by
 refine' zaa;have hd:lN ⟨s,([]:cq).flatMap It.bC,mL b v++[5,1]⟩:=lN.of hn aq aq;obtain⟨⟨D,u,F,G,N⟩,depth,many⟩:=t;by_cases hgd:(0<=many/\many<=16)/\depth=bR many/\aQ ⟨D,u,F,G,N⟩=J/\u<=st.dm
 .obtain⟨hm,hdp,hro,hbt⟩:=hgd;obtain⟨m,rfl⟩:=tI hm.1;have ab5:=Pg.eE (m:Int);obtain⟨B,hdn⟩:∃B:Nat,bR (m:Int)=(B:Int):=⟨(bR (m:Int)).toNat,aa⟩;have p1:(!fI (m:Int) 0 16)=U:=by rw[qN hm];rfl
  have p3:(!aQ ⟨D,u,F,G,N⟩)=U:=by rw[hro];rfl
  rw[hdn] at hdp;subst hdp;refine a8 f48 ?_;refine W.lO (α:=fm) (e:=31) ?_;(repeat' first|refine' uH|(apply ag;exact aj;exact λs=>uY s _;intros)|(apply ag;exact aj;(first|exact λs=>eW s _|exact λs=>eW s ⟨_,_,_,_,_⟩);intros)|refine' cY|fail);have h4:∀n:Nat,n<=2->4^ n<=16:=λn hn=>by (have:n=0\/n=1\/n=2:=by omega);obtain rfl|rfl|rfl:=this<;>decide
  have Vo:du st ⟨⟨D,u,F,G,N⟩,((B:Nat):Int),((m:Nat):Int)⟩=O->Pg.dU st ⟨⟨D,u,F,G,N⟩,((B:Nat):Int),((m:Nat):Int)⟩=O:=λhx=>Pg.A7 (.inr (.inr (.inr hx)));have agR:=λl (hl:du st ⟨⟨D,u,F,G,N⟩,((B:Nat):Int),((m:Nat):Int)⟩=C l)=>Pg.EP (t:=⟨⟨D,u,F,G,N⟩,((B:Nat):Int),((m:Nat):Int)⟩) h0 hm hdn.symm hro hbt hl;refine W.bu (λk l L=>∃(n:Nat)(q:cc)(a:aP)(c:Nat),Le [(0,bk b),(3,bk bx),(6,H a (Y q) c),(7,iv n)] l/\cb [.aU (H a (Y q) c) 31 5 (ab q),.box bx (eN ⟨⟨D,u,F,G,N⟩,((B:Nat):Int),((m:Nat):Int)⟩) 33 U,.aU (ew) 31 5 (ab ([]:cc))] L/\k=n/\Y q*4^ n<=16/\du st ⟨⟨D,u,F,G,N⟩,((B:Nat):Int),((m:Nat):Int)⟩=du.go st n q/\n<=2/\∀p∈q,aQ p=J/\p.bE<=st.dm)
   (λl L=>∃(q:cc)(a:aP)(c:Nat),Le [(0,bk b),(3,bk bx),(6,H a (Y q) c)] l/\cb [.aU (H a (Y q) c) 31 5 (ab q),.box bx (eN ⟨⟨D,u,F,G,N⟩,((B:Nat):Int),((m:Nat):Int)⟩) 33 U,.aU (ew) 31 5 (ab ([]:cc))] L/\Y q<=16/\du st ⟨⟨D,u,F,G,N⟩,((B:Nat):Int),((m:Nat):Int)⟩=C q/\∀p∈q,aQ p=J/\p.bE<=st.dm) B ⟨B,[⟨D,u,F,G,N⟩],C ⟨bl,0,O⟩,1,bd,ak,rfl,by have:=h4 B aa;simpa using this,rfl,aa,λp hp=>by rw[gI] at hp;subst hp;exact⟨hro,hbt⟩⟩ ?_ ?_
  rintro k l L ⟨n,q,a,c,hl,hL,hk,h1,h2,Wq,Z⟩;refine' cP;subst hk;cases k with
  |zero=>refine' iK;exact⟨q,a,c,bd,ak,by simpa using h1,h2,Z⟩
  |succ n=>
   (have ab6:Y q<=16:=by have:1<=4^ (n+1):=Nat.pow_pos aa;exact jR (Gv _ this) h1);refine W.lO (α:=fm) (e:=31) ?_;refine' iK;refine W.bu (λk l L=>∃(i:Nat)(r:cc)(a2:aP)(c2:Nat),Le [(0,bk b),(3,bk bx),(54,H a (Y q) c),(55,iv (Y q)),(56,iv i),(7,iv ((n+1:Nat):Int)),(8,H a2 (Y r) c2)] l/\cb [.aU (H a2 (Y r) c2) 31 5 (ab r),.aU (H a (Y q) c) 31 5 (ab q),.box bx (eN ⟨⟨D,u,F,G,N⟩,((B:Nat):Int),((m:Nat):Int)⟩) 33 U,.aU (ew) 31 5 (ab ([]:cc))] L/\k=Y q-i/\i<=Y q/\down st ((n+1:Nat):Int) (q.take i)=C r)
    (λl L=>∃(r:cc)(a2:aP)(c2:Nat),Le [(0,bk b),(3,bk bx),(7,iv ((n+1:Nat):Int)),(8,H a2 (Y r) c2)] l/\cb [.aU (H a2 (Y r) c2) 31 5 (ab r),.box bx (eN ⟨⟨D,u,F,G,N⟩,((B:Nat):Int),((m:Nat):Int)⟩) 33 U,.aU (ew) 31 5 (ab ([]:cc))] L/\down st ((n+1:Nat):Int) q=C r) (Y q) ⟨0,[],O,0,bd,ak,aa,aa,rfl⟩ ?_ ?_
   rintro k l L ⟨i,r,a2,c2,hl,hL,rfl,h3,V⟩;refine' cP;have hrl:=(Pg.pR V).1;rw[de] at hrl;by_cases hi:i<Y q;obtain⟨hqo,hqb⟩:=Z _ (a7 (show i<Y q by omega) au.ad);have d:=λs hr hn=>Vn s b v st h (q.getD i au.ad) hqo ((n+1:Nat):Int) hr hn;have TA:=Vm st (q.getD i au.ad) ((n+1:Nat):Int);have S:=Pg.QQ (st:=st) (p:=q.getD i au.ad) (level:=((n+1:Nat):Int)) (.inr hqb);generalize hlv:((n+1:Nat):Int)=lv at d TA S V;cases hf:Pg.QO st (q.getD i au.ad) lv with
   |none=>rw[hf] at d S;have hfo:∀s,fh s b v st->dy s->et aZ aW 106 [bk b,pv (q.getD i au.ad),iv lv] s (mL b v++[5,1]) 31 (ER st (q.getD i au.ad) lv) U:=d;clear d;rw[Vo (by rw[h2];exact aey (by rw[hlv];exact Zn hi S.symm))];(repeat' first|(apply A8;exact aj;assumption;(exact hfo);(exact eh.mk ax (cJ.mk ax ax ax));intro _ _ aiZ ai0 _ _)|refine' cY|fail);all_goals exact⟨bK,_,[.aU (ew) 31 5 (ab ([]:cc))],bH,ak,O,O,[],0,rfl,rfl,Kf⟩
   |some w=>rw[hf] at d S;rw[Vl hf] at d TA;have hfo:∀s,fh s b v st->dy s->et aZ aW 106 [bk b,pv (q.getD i au.ad),iv lv] s (mL b v++[5,1]) 31 w J:=d;clear d;(repeat' first|(apply A8;exact aj;assumption;(exact hfo);(exact eh.mk ax (cJ.mk ax ax ax));intro _ _ aiZ ai0 _ _)|refine' cY|fail);refine⟨_,?_,i+1,r++w,_,_,bd,ak,rfl,aa,by first|exact zM hi V S.symm|(rw[hlv];exact zM hi V S.symm)⟩;omega
   (have hi:i=Y q:=by omega);subst hi;rw[lG] at V;refine' iK;exact⟨r,_,_,bd,ak,V⟩;rintro l L ⟨r,a2,c2,hl,hL,h3⟩;refine' gh;have hrl:=(Pg.pR h3).1;refine' iK;refine⟨n,aa,n,r,a2,c2,by rw[show(((n+1:Nat):Int)-1)=(n:Int) by omega];exact bd,ak,rfl,?_,by rw[h2];exact go_step h3,aa,Pg.xu h0 h3⟩;rw[hrl];rw[qm,<-GG] at h1;rw[GG];omega
  rintro l L ⟨q,a,c,hl,hL,ab6,h1,Z⟩;refine' gh;obtain⟨hI,hmq⟩:=agR q h1;refine' iK;refine W.bu (λk l L=>∃(i:Nat),Le [(0,bk b),(3,bk bx),(6,H a (Y q) c),(74,H a (Y q) c),(75,iv (Y q)),(76,iv i)] l/\cb [.aU (H a (Y q) c) 31 5 (ab q),.box bx (eN ⟨⟨D,u,F,G,N⟩,((B:Nat):Int),((m:Nat):Int)⟩) 33 U,.aU (ew) 31 5 (ab ([]:cc))] L/\k=Y q-i/\i<=Y q/\∀j,j<i->Pg.se st (m:Int) j (q.getD j bp)=J)
   (λl L=>Le [(3,bk bx),(6,H a (Y q) c)] l/\cb [.aU (H a (Y q) c) 31 5 (ab q),.box bx (eN ⟨⟨D,u,F,G,N⟩,((B:Nat):Int),((m:Nat):Int)⟩) 33 U,.aU (ew) 31 5 (ab ([]:cc))] L/\∀j,j<Y q->Pg.se st (m:Int) j (q.getD j bp)=J) (Y q) ⟨0,bd,ak,aa,aa,λj hj=>absurd hj (Nat.not_lt_zero j)⟩ ?_ ?_
  rintro k l L ⟨i,hl,hL,rfl,h3,V⟩;refine' cP;by_cases hi:i<Y q;obtain⟨hqo,hqb⟩:=Z _ (a7 (show i<Y q by omega) au.ad);have A:=λs hr=>u0 s b v st h (q.getD i au.ad) hqo hr;(have hnx:Pg.se st (m:Int) i (q.getD i au.ad)=J->∀j,j<i+1->Pg.se st (m:Int) j (q.getD j bp)=J:=λhx j hj=>by by_cases hji:j=i;subst hji;exact hx;exact V j aa);(have IW:Pg.se st (m:Int) i (q.getD i au.ad)=U->Pg.dU st ⟨⟨D,u,F,G,N⟩,((B:Nat):Int),((m:Nat):Int)⟩=O:=λhx=>by rw[hI,af];intro T;have:=T i hi;rw[show q.getD i bp=(q.getD i au.ad) from rfl,hx] at this;cases this);cases hq:dD st (q.getD i au.ad) with
  |none=>rw[hq] at A;have hrd:∀s,fh s b v st->bM 49 [bk b,pv (q.getD i au.ad)] s (mL b v) (.tuple ⟨[sv [],M U]⟩):=A;clear A;rw[IW (by unfold Pg.se;rw[hq];rfl)];(repeat' first|(apply ag;exact aj;(first|exact λs=>bO s _|exact λs=>bO s ⟨_,_,_,_,_⟩);intros)|(apply gY;exact aj;(exact hrd);(exact eh.mk ax (cJ.mk ax ax ax));intros)|refine' cY|fail);all_goals exact⟨bK,_,[.aU (ew) 31 5 (ab ([]:cc))],bH,ak,O,O,[],0,rfl,rfl,Kf⟩
  |some z=>
   rw[hq] at A;have hrd:∀s,fh s b v st->bM 49 [bk b,pv (q.getD i au.ad)] s (mL b v) (.tuple ⟨[sv z,M J]⟩):=A;clear A;(have hlf:Pg.se st (m:Int) i (q.getD i au.ad)=(decide (((q.getD i au.ad)).level=0)&&(decide ((i:Int)<(m:Int))||av (q.getD i au.ad))):=by unfold Pg.se;rw[hq];rfl);(repeat' first|(apply ag;exact aj;(first|exact λs=>bO s _|exact λs=>bO s ⟨_,_,_,_,_⟩);intros)|(apply gY;exact aj;(exact hrd);(exact eh.mk ax (cJ.mk ax ax ax));intros)|refine' cY|fail);all_goals first
    |(rw[IW (by
      rw[hlf];cases hbb:(decide (((q.getD i au.ad)).level=0)&&(decide ((i:Int)<(m:Int))||av (q.getD i au.ad))) with
      |false=>rfl
      |true=>
       exfalso;simp only[ep,km,gv] at hbb;obtain⟨hb1,Q⟩:=hbb;first
                                                                                                          |omega
                                                                                                          |(obtain Q|Q:=Q
                                                                                                            .omega
                                                                                                            .exact absurd Q (by rw[‹av (q.getD i au.ad)=U›];exact B3)))]
      exact⟨bK,_,[.aU (ew) 31 5 (ab ([]:cc))],bH,ak,O,O,[],0,rfl,rfl,Kf⟩)
    |exact⟨_,aa,i+1,bd,ak,rfl,aa,hnx (by rw[hlf];simp only[ep,km,gv];exact⟨aa,by first|exact .inl aa|exact .inr aT⟩)⟩
  (have hi:i=Y q:=by omega);subst hi;refine' iK;exact⟨bd,ak,V⟩;rintro l L ⟨hl,hL,T⟩;refine' gh;rw[hI,ai T];have ai1:m<=Y q:=by simpa using hmq
  (have hu1:Y q<cl:=by unfold cl;omega);(have RM:Y (q.take m)=m:=by rw[de];omega);(repeat' first|(apply ab0;exact bN;exact bN;exact bN;exact kD;(exact rfl);(exact hu1);(exact ai1);intro _ ajR)|refine' cY|fail);refine⟨bK,_,[.aU (H a (Y q) c) 31 5 (ab q)],bH,ak,a,a,q,c,?_,rfl,aT⟩;rw[show((C (List.take (((m:Nat):Int)).toNat q)).getD [])=q.take m from rfl,RM];rfl
 have he:Pg.dU st ⟨⟨D,u,F,G,N⟩,depth,many⟩=O:=by
  by_cases Q:u<=st.dm;refine Pg.A7 ?_;by_cases h1:0<=many/\many<=16;by_cases h2:depth=bR many;refine .inr (.inr (.inl ?_));cases hp:aQ ⟨D,u,F,G,N⟩ with
  |false=>rfl
  |true=>exact absurd ⟨h1,h2,hp,Q⟩ hgd
  exact .inr (.inl h2);exact .inl h1;exact Pg.wi h0 (by show st.dm<u;omega)
 rw[he];refine a8 f48 ?_;refine W.lO (α:=fm) (e:=31) ?_;(repeat' first|refine' uH|(apply ag;exact aj;exact λs=>uY s _;intros)|(apply ag;exact aj;(first|exact λs=>eW s _|exact λs=>eW s ⟨_,_,_,_,_⟩);intros)|refine' cY|fail);all_goals first|exact⟨bK,_,[.aU (ew) 31 5 (ab ([]:cc))],bH,ak,O,O,[],0,rfl,rfl,Kf⟩|skip
 all_goals(exfalso;exact hgd ⟨aT,aT,aT,aT⟩)
variable {s:St}{z w:aw}
abbrev NW (b:Nat)(p:aP)(a:aP)(c:Nat)(z:aw):cq:=[.box b [.pointer p,H a (Y z) c] 110 U,.aU (H a (Y z) c) 5 1 (ab z)]
section
variable {b c:Nat}{p:aP}{x y:It}
def ES {v:Value}{e:TypeId}(j:iu l xs [bk b])(i:l3 [.box b [.pointer p,v] e U] L R)(h:∀s,eJ E X g [bk b] s [.box b [.pointer p,v] e U] [] λR L=>R= .tuple ⟨[]⟩/\L=[.box b [bk b,v] e U])(k:∀m d,gk L m->m<=d->K (.tuple ⟨[]⟩) (.box b [bk b,v] e U::R) m d (iI [] [.box b [.pointer p,v] e U] m d) (iJ [.box b [.pointer p,v] e U] m d)):WC E X Γ l g xs ts L K:=
 cI (Lm:=[.box b [.pointer p,v] e U]) (R:=R) (A:=[]) j i.bX (λs hi b hb=>by cases hb) (λs hi=>h s) (by rintro t L' m d f hm ⟨rfl,rfl⟩;exact k m d f hm)
abbrev QS (E:hJ)(X:fb)(g:FuncId)(vs:aV)(s:St)(b:Nat)(p a:aP)(c:Nat)(z w:aw)(r:Value):Prop:=eJ E X g vs s (NW b p a c z) [] λR L=>R=r/\∃a' c',(c'=0\/c'=cl)/\L=NW b (ko b) a' c' (z++w)
end
def y1 (s:St)(b:Nat)(p:aP)(v:Value)(d:p=O\/p=C ⟨b,0,O⟩):Ht 110 [bk b] s [.box b [.pointer p,v] 110 U] [] λR L=>R= .tuple ⟨[]⟩/\L=[.box b [bk b,v] 110 U]:=by
 obtain rfl|rfl:=d
 .refine a8 f110 ?_;(repeat' first|refine' Bp|((with_reducible apply MI (u:=110));(exact(by kernel_rfl));(exact(by kernel_rfl));(exact cx);exact bN;exact kD;(exact Nat.succ_pos _);intro _)|(apply ag;exact aj;(intro s;exact abC (fn:=f170) (by kernel_rfl) rfl cx rfl);intros)|((with_reducible apply MJ (u:=110));(exact rfl);(exact(by kernel_rfl));(exact(by kernel_rfl));exact bN;exact kD;(exact rfl);intro _)|((with_reducible apply MK (u:=110));(exact(by kernel_rfl));exact bN;exact bN;intro _)|refine' eI|fail);all_goals try refine Dk
  all_goals exact⟨bK,_,_,bH,ak,rfl,rfl⟩
 refine a8 f110 ?_;(repeat' first|refine' Bp|((with_reducible apply MI (u:=110));(exact(by kernel_rfl));(exact(by kernel_rfl));(exact cx);exact bN;exact kD;(exact Nat.succ_pos _);intro _)|(apply ag;exact aj;(intro s;exact abC (fn:=f170) (by kernel_rfl) rfl cx rfl);intros)|((with_reducible apply MJ (u:=110));(exact rfl);(exact(by kernel_rfl));(exact(by kernel_rfl));exact bN;exact kD;(exact rfl);intro _)|((with_reducible apply MK (u:=110));(exact(by kernel_rfl));exact bN;exact bN;intro _)|refine' eI|fail);all_goals try refine Dk
 all_goals exact⟨bK,_,_,bH,ak,rfl,rfl⟩
def nE (s:St)(b:Nat)(p a:aP)(c:Nat)(z w:aw)(j:p=O\/p=C ⟨b,0,O⟩)(hc:c=0\/c=cl)(hl:Y z+Y w<=1000000):QS aZ aW 53 [bk b,sv w] s b p a c z w (.tuple ⟨[iv (Y w:Nat),.nilIface]⟩):=by
 refine a8 f53 ?_;dsimp only[NW];(repeat' first|(apply ES;exact aj;exact cK;(intro s;exact y1 s _ _ _ j);intros)|(apply P8;(exact λ_=>rfl);exact bN;exact bN;exact Bn;exact mv;intro _ _ f i _ _ _ d)|refine' eI|fail);all_goals try refine Dk
 all_goals exact⟨bK,_,_,bH,ak,rfl,f,i,d.elim (λh=>h▸hc) .inr,rfl⟩
def ET (s:St)(b:Nat)(p a:aP)(z:aw)(h0:0<Y z)(hn:Y z<=1000000):Ht 54 [bk b] s (NW b p a cl z) [] λR L=>R=sv z/\L=[]:=by
 refine a8 f54 ?_;dsimp only[NW];(repeat' first|(apply JT;exact bN;exact kD;exact mv;intro _)|((with_reducible apply yH (e:=5));(exact λ_=>rfl);(exact(by kernel_rfl));exact bN;exact bN;exact Bn;exact mv;exact mv;intro _)|refine' eI|fail);all_goals try refine Dk
 all_goals exact⟨bK,_,_,bH,ak,rfl,rfl⟩
section
variable {sz n sz2 e b c:Nat}{enc:au α sz}{q:List α}{p:aP}
def EU (i:iu l xs vs)(hd:lN Γ)(f:ga Γ L a n sz2 cs)(h:∀s,dy s->bJ s a n sz2 cs->eD E X g vs s (ah a++[5,1]) e q)(k:∀m d a' c',gk L m->m<=d->K (H a' (Y q) c') (.aU (H a' (Y q) c') e sz (ab (sz:=sz) q)::L) m d (iI (ah a++[5,1]) [] m d) (iJ [] m d)):WC E X Γ l g xs ts L K:=
 oG i (λs hi=>⟨λb hb=>by obtain hb|hb:=cG.1 hb;exact(f.row hi).2 b hb;exact hd.may hi b hb,h s (hd.row hi).1 (f.row hi).1⟩) k
def qe (j:iu l xs vs)(i:l3 (NW b p a c z) L R)(h:∀s,QS E X g vs s b p a c z w r)(k:∀m d a' c',(c'=0\/c'=cl)->gk L m->m<=d->K r (.box b [bk b,H a' (Y (z++w)) c'] 110 U:: .aU (H a' (Y (z++w)) c') 5 1 (ab (z++w))::R) m d (iI [] (NW b p a c z) m d) (iJ (NW b p a c z) m d)):WC E X Γ l g xs ts L K:=
 cI (Lm:=NW b p a c z) (R:=R) (A:=[]) j i.bX (λs hi b hb=>by cases hb) (λs hi=>h s) (by rintro t L' m d f hm ⟨rfl,a',c',hc,rfl⟩;exact k m d a' c' hc f hm)
def Vp (i:iu l xs [bk b])(f:ga Γ L (ko b) n sz2 cs)(h:∀s,bJ s (ko b) n sz2 cs->jA E X g [bk b] s (ah (ko b)) r)(k:∀m d,gk L m->m<=d->K r L m d (iI (ah (ko b)) [] m d) (iJ [] m d)):WC E X Γ l g xs ts L K:=
 dZ i (λs hi=>⟨(f.row hi).2,h s (f.row hi).1⟩) k
def xv (j:iu l xs vs)(i:l3 (NW b p a c z) L R)(h:∀s,eJ E X g vs s (NW b p a c z) [] λR L=>R=r/\L=[])(k:∀m d,gk L m->m<=d->K r R m d (iI [] (NW b p a c z) m d) (iJ (NW b p a c z) m d)):WC E X Γ l g xs ts L K:=
 cI (Lm:=NW b p a c z) (R:=R) (A:=[]) j i.bX (λs hi b hb=>by cases hb) (λs hi=>h s) (by rintro t L' m d f hm ⟨rfl,rfl⟩;exact k m d f hm)
def NX {x y:Operand}{t t2:TypeId}{sz:Nat}{α:Type}{enc:au α sz}{e c c2:Nat}{a a2:aP}{p q:List α}[ht:TT E t e sz α enc][ht2:TT E t2 e sz α enc](F:Ev l x (H a (Y p) c))(G:Ev l y (H a2 (Y q) c2))(hr:Bm (.aU (H a (Y p) c) e sz (ab (sz:=sz) p)) L R)(hs:ga Γ L a2 (Y q) sz (ab (sz:=sz) q))(hn:Y p+Y q<=1000000)
  (k:∀b b' a' c',gk L b->b<=b'->(∀i∈ah a',i∈ah a\/i=b)->(c'=c\/c'=cl)->K (H a' (Y (p++q)) c') (.aU (H a' (Y (p++q)) c') e sz (ab (sz:=sz) (p++q))::R) b b' (λi=>i∈ah a2\/i∈ah a\/i=b) (λi=>i∈ah a\/i=b)):WO E X Γ l (.call ⟨.builtin .append,⟨[x,y]⟩,⟨[t,t2]⟩⟩) L K:=by obtain⟨z,u,d,P⟩:=ht.h;obtain⟨S,v,N,Q⟩:=ht2.h;obtain⟨j,_⟩:=v.h;refine wP (ht:=u) (a2:=a2) j rfl F G hr (λs h=>h) (λs hi=>⟨⟨(hs.row hi).1.1,(hs.row hi).2⟩,λk=>CW (hs.row hi).1 k⟩) (vj q) hn λb b' a' c' A f B D=>?_;have:=k b b' a' c' A f B D;rwa[ir,dB] at this
def W.SM {Q:Ex->Kn->cq->Prop}{f:Code}(hm:It.aU (H a n c) e sz cs∈L)(h0:0<n)(h:c≠0->W E X Γ f l L Q):W E X Γ f l L Q:=λu s k i=>h (by rintro rfl;obtain⟨d,_⟩|⟨b,n',v,w,rest,d,_,_,t⟩:=i.it _ hm;have:=(Value.slice.inj d).2.1;omega;cases d;obtain⟨j,_⟩|⟨j,_⟩:=t;omega;exact absurd j cx) u s k i
end
def Kg (s:St)(b:Nat)(p a:aP)(c:Nat)(z:aw)(w:UInt8)(j:p=O\/p=C ⟨b,0,O⟩)(hc:c=0\/c=cl)(hl:Y z<=999999):QS aZ aW 276 [bk b,bv w] s b p a c z [w] .nilIface:=by
 refine a8 f276 ?_;dsimp only[NW];(repeat' first|refine' AG|(apply ES;exact aj;exact cK;(intro s;exact y1 s _ _ _ j);intros)|((with_reducible apply gb (α:=UInt8) (xs:=[_]));exact nI;exact rfl;exact rfl;intro bl _)|(apply NX;exact bN;exact bN;exact Bn;exact ax;(simp only[fS,jm];omega);intro _ _ f i _ _ _ d)|refine' gL|fail);all_goals try refine Dk
 all_goals exact⟨bK,_,_,bH,ak,rfl,f,i,d.elim (λh=>h▸hc) .inr,rfl⟩
def ab7 (s:St)(b:Nat)(p a:aP)(n c:Nat)(hr:bJ s (ko b) 1 2 [.pointer p,H a n c]):bM 169 [bk b] s (ah (ko b)) (iv (n:Int)):=by have d:Rd ⟨s,([]:cq).flatMap It.bC,ah (ko b)⟩ (ko b) 1 2 [.pointer p,H a n c]:=Rd.of hr λ_ hb=>hb;refine a8 f169 ?_;refine' qcx
def F9 (s:St)(a:aP)(c:Nat)(p:List aw)(h0:0<Y p)(Z:Y p<=60)(hz:Y (fieldsOf p)<=2048)(hr:bJ s a (Y p) 1 (ab p))(hn:dy s):bM 251 [H a (Y p) c] s (ah a++[5,1]) (.tuple ⟨[sv (fieldsOf p),M J]⟩):=by
 refine' zaJ;refine a8 f251 ?_;refine' iK;refine W.lO (α:=UInt8) (e:=5) ?_;refine W.bu (λm l L=>∃(i j:Nat)(pp d:aP)(b:Nat),Le [(4,bk j),(10,H a (Y p) c),(11,iv (Y p:Int)),(12,iv (i:Int))] l/\cb [.box j [.pointer pp,H d (Y (fieldsOf (p.take i))) b] 110 U,.aU (H d (Y (fieldsOf (p.take i))) b) 5 1 (ab (fieldsOf (p.take i)))] L/\m=Y p-i/\i<=Y p/\(pp=O\/pp=C ⟨j,0,O⟩)/\(b=0\/b=cl))
                                     (λl L=>∃(j:Nat)(pp d:aP)(b:Nat),Le [(4,bk j)] l/\cb [.box j [.pointer pp,H d (Y (fieldsOf p)) b] 110 U,.aU (H d (Y (fieldsOf p)) b) 5 1 (ab (fieldsOf p))] L/\(b=0\/b=cl)) _ ⟨0,_,O,O,0,bd,ak,rfl,aa,.inl rfl,.inl rfl⟩ ?_ ?_
 .rintro m l L ⟨i,j,pp,d,b,hl,G,rfl,T,S,hc⟩;refine' cP;by_cases hi:i<Y p
  ·(have u:fieldsOf (p.take (i+1))=fieldsOf (p.take i)++(dec (Y (p.getD i au.ad):Nat))++[58]++p.getD i au.ad:=by rw[dS p au.ad hi,Pg.sV,Pg.cS,Pg.yX];simp only[iD,jk,kG,fT];rfl);(have hle:Y (fieldsOf (p.take (i+1)))<=2048:=by have F:p=p.take (i+1)++p.drop (i+1):=(vC _ _).symm;(have V:Y (fieldsOf p)=Y (fieldsOf (p.take (i+1)))+Y (fieldsOf (p.drop (i+1))):=by conv=>lhs;rw[F,Pg.sV,dB]);omega);(have D:Y (fieldsOf (p.take i))+Y (dec (Y (p.getD i au.ad):Nat))+1+Y (p.getD i au.ad)<=2048:=by rw[u] at hle;simp only[dB,fS,jm] at hle;omega);(repeat' first|refine' AG|(apply bq;exact aj;assumption;(intro s h;exact SL s _ aa aa h);intros)|(apply qe;exact aj;exact cK;(intro s;exact nE s _ _ _ _ _ _ (by first|assumption|exact .inr rfl) aT mv);intro _ _ f k t _ _)|(apply qe;exact aj;exact cK;(intro s;exact Kg s _ _ _ _ _ 58 (by first|assumption|exact .inr rfl) aT mv);intro _ _ f k t _ _)|((with_reducible apply Vp (n:=1) (sz2:=2));exact aj;(exact ga.box kD rfl rfl);(intro s hr;exact ab7 s _ _ _ _ _ hr);intros)|refine' gL|fail);(all_goals first|(exfalso;omega;done)|(exfalso;rw[<-u] at ki;omega;done)|contradiction|skip);all_goals exact⟨_,aa,i+1,_,_,f,k,bd,by(rw[u];exact ak),rfl,aa,.inr rfl,aT⟩
  have v:i=Y p:=by omega
  subst v;rw[lG];refine' iK;all_goals exact⟨_,_,d,b,bd,ak,aT⟩
 rintro l L ⟨j,pp,d,b,hl,G,hc⟩;refine' gh;have N:=Pg.ux p;have A:0<Y (fieldsOf p):=by omega
 have Q:Y (fieldsOf p)<=1000000:=by omega
 refine W.SM (a:=d) (n:=Y (fieldsOf p)) (c:=b) (by exact dI _ ed) A λB=>?_;obtain rfl:=hc.resolve_left B;generalize fieldsOf p=z at *
 (repeat' first|refine' AG|(apply xv;exact aj;exact cK;(intro s;exact ET s _ _ _ _ aT aT);intros)|refine' qgx|fail)
def A9 (s:St)(a:aP)(c:Nat)(p:List Int)(B:Y p<=5)(hb:∀x∈p,0<=x/\x<=999999999)(hr:bJ s a (Y p) 1 (ab p))(hn:dy s):eD aZ aW 252 [H a (Y p) c] s (ah a++[5,1]) 9 (p.map dec):=by
 refine' zaJ;refine a8 f252 ?_;refine W.lO (α:=aw) (e:=9) ?_;refine' iK;refine W.bu (λm l L=>∃(i:Nat)(q:List aw)(b:aP)(d:Nat),Le [(3,H b (Y q) d),(6,H a (Y p) c),(7,iv (Y p:Int)),(8,iv (i:Int))] l/\cb [.aU (H b (Y q) d) 9 1 (ab q)] L/\m=Y p-i/\i<=Y p/\q=(p.take i).map dec)
  (λl L=>∃(b:aP)(d:Nat),Le [(3,H b (Y (p.map dec)) d)] l/\cb [.aU (H b (Y (p.map dec)) d) 9 1 (ab (p.map dec))] L) _ ⟨0,[],O,0,bd,ak,rfl,aa,rfl⟩ ?_ ?_
 rintro m l L ⟨i,q,b,d,hl,k,rfl,A,f⟩;refine' cP;have t:Y q<=5:=by rw[f,fH,de];omega
 by_cases hi:i<Y p
 .obtain⟨u,v⟩:=hb _ (a7 hi au.ad);(repeat' first|refine' AG|(apply bq;exact aj;assumption;(intro s h;exact EK s _ aa aa h);intros)|((with_reducible apply gb (α:=aw) (xs:=[_]));exact nI;exact rfl;exact rfl;intro bl _)|refine' qgb|fail);exact⟨_,aa,i+1,q++[dec (p.getD i au.ad)],_,_,bd,ak,rfl,aa,by rw[dS p au.ad hi,qR,<-f];rfl⟩
 have j:i=Y p:=by omega
 subst j;rw[lG] at f;subst f;refine' iK;exact⟨_,_,bd,ak⟩;rintro l L ⟨b,d,hl,k⟩;refine' gh;refine' eR;all_goals exact⟨bK,_,_,bH,ak,_,_,rfl,rfl⟩
def EV (s:St)(t:bt)(h1:0<=t.depth)(h2:t.depth<=999999999)(k:0<=t.many)(u:t.many<=999999999)(hn:dy s):eD aZ aW 253 [tv t] s [5,1] 9 [b9 t.bU,dec t.depth,dec t.many]:=by obtain⟨⟨v,A,B,D,F⟩,d,m⟩:=t;have hd:lN ⟨s,([]:cq).flatMap It.bC,[5,1]⟩:=lN.of hn aq aq;have i:=hn.lt;refine a8 f253 ?_;refine W.lO (α:=aw) (e:=9) ?_;(repeat' first|refine' AG|(apply bq;exact aj;assumption;(intro s h;first|exact qc s _ h|exact qc s ⟨_,_,_,_,_⟩ h);intros)|(apply EU;exact aj;assumption;exact ax;(intro s h hr;exact A9 s _ _ _ aq (by intro x j;simp only[cA,k6,k7] at j;obtain rfl|rfl:=j<;>exact⟨aT,aT⟩) hr h);intro _ _ b f _ _)|((with_reducible apply gb (α:=Int) (xs:=[_,_]));exact nI;exact rfl;exact rfl;intro bl _)|((with_reducible apply gb (α:=aw) (xs:=[_]));exact nI;exact rfl;exact rfl;intro bl _)|refine' qgb|fail);all_goals exact⟨bK,_,_,bH,ak,_,_,rfl,rfl⟩
def qO (s:St)(n:dX)(hn:dy s):bM 201 [nv n] s [5,1] (sv (dK n)):=by
 have hd:lN ⟨s,([]:cq).flatMap It.bC,[5,1]⟩:=lN.of hn aq aq;have v:=hn.lt;cases b:cM n with
 |false=>
  have d:∀s,bM 47 [nv n] s [] (M U):=λs=>b▸xn s n;have e:dK n=[]:=by unfold dK;rw[b];rfl
  rw[e];refine a8 f201 ?_;(repeat' first|refine' AG|(apply ag;exact aj;(exact d);intros)|refine' qgy|fail)
 |true=>
  have d:∀s,bM 47 [nv n] s [] (M J):=λs=>b▸xn s n;have e:=Pg.sJ b;obtain⟨hk,hs,V,hm,B,Z,S,_⟩:=Pg.ef b;have D:=Pg.eE n.aO.many;have hb:=Pg.kQ (fw n) (Pg.pc b);have T:Y (fw n)=7:=rfl;have i:=λs hn=>EV s n.aO aa aa aa aa hn;have F:0<=n.kind:=by omega
  have G:n.kind<=999999999:=by omega
  have hs0:0<=n.size:=by omega
  have GS:n.size<=999999999:=by omega
  have N:0<=n.aX:=by omega
  have Q:n.aX<=999999999:=by omega
  have f:=λs a c hr hn=>F9 s a c (fw n) aa aa aa hr hn;rw[e];generalize hz:fieldsOf (fw n)=z at f;refine a8 f201 ?_;(repeat' first|refine' AG|(apply ag;exact aj;(exact d);intros)|(apply Vi;exact aj;assumption;(exact i);intro _ _ k u _ _)|(apply EU;exact aj;assumption;exact ax;(intro s h hr;exact A9 s _ _ _ aq (by intro x A;simp only[cA,k6,k7] at A;obtain rfl|rfl|rfl:=A<;>exact⟨aT,aT⟩) hr h);intro _ _ j t _ _)|(apply qd;exact aj;assumption;exact ax;(intro s h hr;exact f s _ _ hr h);intros)|((with_reducible apply gb (α:=Int) (xs:=[_,_,_]));exact nI;(exact rfl);(exact rfl);intro bl _)|((with_reducible apply gb (α:=aw) (xs:=[_]));exact nI;exact rfl;exact rfl;intro bl _)|refine' qgy|fail)
abbrev Ip (x y w:aw):bt:=⟨(cy x).getD bp,((aA y).getD 0:Nat),((aA w).getD 0:Nat)⟩
def QT (s:St)(a:aP)(c:Nat)(x y w:aw)(i:Y x<=100000)(hr:bJ s a 3 1 (ab [x,y,w]))(hn:dy s):bM 200 [H a 3 c] s (ah a++[5,1]) (.tuple ⟨[tv (Ip x y w),M ((cy x).isSome&&((aA y).isSome&&(aA w).isSome))]⟩):=by
 have hd:lN ⟨s,([]:cq).flatMap It.bC,ah a++[5,1]⟩:=lN.of hn aq aq;have u:Rd ⟨s,([]:cq).flatMap It.bC,ah a++[5,1]⟩ a 3 1 (ab [x,y,w]):=Rd.of hr λ_ hb=>im _ hb;have k:=λs hn=>EN s x i hn;have t:=λs=>ia s y;have j:=λs=>ia s w;cases d:(cy x).isSome<;>cases f:(aA y).isSome<;>cases b:(aA w).isSome;all_goals
  rw[d] at k;rw[f] at t;rw[b] at j;dsimp only[Ip];generalize(cy x).getD bp=B at *
  generalize(aA y).getD 0=A at *
  generalize(aA w).getD 0=v at *
  refine a8 f200 ?_;(repeat' first|(apply bq;exact aj;assumption;(exact k);intros)|(apply bq;exact aj;assumption;(exact t);intros)|(apply bq;exact aj;assumption;(exact j);intros)|refine' nJ|fail)
def xq (f:iu l xs vs)(hd:lN Γ)(h:∀s,dy s->bJ s a n sz cs->jA E X g vs s (ah a++[5,1]) r)(d:ga Γ L a n sz cs)(k:∀m b,gk L m->m<=b->K r L m b (iI (ah a++[5,1]) [] m b) (iJ [] m b)):WC E X Γ l g xs ts L K:=qd f hd d h k
def Kh (n0 b n2:Int):Nat->aV
 |0=>[iv 0,iv 0,iv 0,iv 0,iv 0,iv 0,iv 0,iv 0,iv 0,iv 0]
 |1=>[iv n0,iv 0,iv 0,iv 0,iv 0,iv 0,iv 0,iv 0,iv 0,iv 0]
 |2=>[iv n0,iv b,iv 0,iv 0,iv 0,iv 0,iv 0,iv 0,iv 0,iv 0]
 |_=>[iv n0,iv b,iv n2,iv 0,iv 0,iv 0,iv 0,iv 0,iv 0,iv 0]
abbrev node3 (b:Nat):List (aP):=[C ⟨b,0,O⟩,C ⟨b,1,O⟩,C ⟨b,2,O⟩]
def nn {x:aw}(h:(aA x).isSome=U):aA x=O:=by cases b:aA x with
 |none=>rfl
 |some n=>rw[b] at h;cases h
def np {x:aw}(h:(cy x).isSome=U):cy x=O:=by cases b:cy x with
 |none=>rfl
 |some n=>rw[b] at h;cases h
end Go.Pl
