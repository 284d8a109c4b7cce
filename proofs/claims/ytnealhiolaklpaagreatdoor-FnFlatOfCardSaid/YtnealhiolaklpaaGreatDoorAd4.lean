/- Lemmas of the proof. No conditions. -/
import Derived.Test.YtnealhiolaklpaaGreatDoorAd3
set_option maxRecDepth 100000
set_option maxHeartbeats 4000000
set_option linter.all false
open Bool renaming false->U,true->J
open Option renaming none->O,some->C
open List renaming length->Y
open Go.Value renaming slice->H,bool->M,int->I
open Go.Proofs.Tryz
open Nat (beq ble mul)
open Go.Result (andThen_ok)
open Go.Sem (run_bind)
open Go.Region (binds)
open List (replicate)
open Int (toNat)
open Go.Builtin (firstCells)
open Go.Instr (checkKey)
namespace Go.Pl
open Go Go.Ev Go.Lg Go.Proofs
variable {E:hJ}{X:fb}{Γ:ng}{L R:cq}{K:KO}{xs:List Operand}{ts:Array TypeId}{vs:aV}{A:List Nat}{st:ae}{q:cc}{n:Int}{v:SA}{Lm:cq}{i:Nat}{bB:ae}{p:fm}
def DG (s:St)(v:SA)(st:ae)(h:cZ 80000 st)(t:bt)(ht:ee t)(many:Int)(x:0<=many/\many<=16):
  eS aZ aW 244 [eg v st,tv t,iv many] s [] v st (sG st t many).1 (sG st t many).2.2 (aiI (sG st t many).2.1 (sG st t many).2.2):=by
 have h1:cZ 100000 st:=h.mono aa;have h9:cZ 90000 st:=h.mono aa;have B:=ht.rt;obtain⟨_,hw,D⟩:=qK (st:=st) ht;have d:sG st t many=if many=t.many then(st,t,J) else
   match iG st t (cv st t) many with
   |(fB,O)=>(fB,t,U)
   |(fB,C t2)=>(dA ((cv st t).drop many.toNat) fB,t2,J):=rfl
 by_cases F:many=t.many;have Q:=gZ F;rw[d,ai F];refine a8 f244 ?_;dsimp only[db];refine' eR;refine' fg;rfl;intro hc;cases hc;have Q:=kX F;rw[af F] at d;have g:=vu (t:=t) (lv:=cv st t) (many:=many) h B hw D x;rcases m:iG st t (cv st t) many with⟨fB,o⟩;have hlc:∀(j:SA) s a c,bJ s a (Y (cv st t)) 5 (ab (cv st t))->(∀b∈ah a,b∉(db j st).flatMap It.bC)->tg s a (Y (cv st t)) c 31 5->eS aZ aW 73 [eg j st,tv t,H a (Y (cv st t)) c,iv many] s (ah a) j st fB o.isSome (Yw o):=λj s a c hr hm hv=>by have:=yK s j st h9 t B a c (cv st t) hw many x hr hm hv;rwa[m] at this
 rw[m] at d g;cases o with
 |none=>simp only at d;rw[d];have T:=g.2.1 rfl;refine a8 f244 ?_;dsimp only[db];(repeat' first|refine' Du|refine' DC|refine' eI|fail);refine' fg;rw[show eg DD fB=eg DD st from T.eg _];rw[uI rfl];rfl;exact λ_=>uI rfl
 |some t2=>
  simp only at d g;rw[d];refine a8 f244 ?_;dsimp only[db];repeat' first|refine' Du|refine' DC|refine' eI|fail
  generalize cv st t=w at *
  have aj1:Y w=16:=hw;have V:many.toNat<=Y w:=by omega
  refine W.bu (λk l L=>∃(i:Nat)(y:ae)(j:SA)(G:aP)(N r u e f:Nat),Le [(6,bk r),(7,bk u),(9,H G (Y w) N),(10,bk e),(11,bk f),(13,iv i)] l/\cb (.aU (H G (Y w) N) 31 5 (ab w):: .box r [ew,ew,ew,dP,ew,dP,ew,M U] 29 U:: .box u [dP,dP,dP,dP,dP,dP,dP] 33 U:: .box e (lL j y) 29 U:: .box f (eN t2) 33 U::db j y) L/\k=Y w-i/\i<=Y w/\cZ (80020+i) y/\dA (w.drop many.toNat) fB=dA (w.drop i) y)
   (λl L=>∃(y:ae)(j:SA)(r u e f:Nat),Le [(6,bk r),(7,bk u),(10,bk e),(11,bk f)] l/\cb (.box r [ew,ew,ew,dP,ew,dP,ew,M U] 29 U:: .box u [dP,dP,dP,dP,dP,dP,dP] 33 U:: .box e (lL j y) 29 U:: .box f (eN t2) 33 U::db j y) L/\dA (w.drop many.toNat) fB=y) (Y w-many.toNat) ⟨many.toNat,fB,DD,_,_,_,_,_,_,(by rw[Ar x.1];exact bd),ak,rfl,V,g.1.mono aa,rfl⟩ ?_ ?_
  rintro k l L ⟨i,y,j,G,N,r,u,e,f,hl,hL,rfl,hi,hy,hf⟩;refine' cP;have hy1:cZ 100000 y:=hy.mono aa;by_cases z:i<Y w
  .have Z:aQ (w.getD i au.ad)=J:=D _ (a7 z _);rw[drop_cons z] at hf;(repeat' first|refine' Mo|refine' zK|fail);refine⟨_,?_,i+1,_,_,_,_,_,_,_,_,bd,ak,rfl,aa,hy.free Z,hf⟩;omega
  (have S:i=Y w:=by omega);subst S;rw[re] at hf;refine' OP;exact⟨y,j,_,_,_,_,bd,ak,hf⟩;rintro l L ⟨y,j,r,u,e,f,hl,hL,hf⟩;refine' gh;rw[hf];refine' eR;refine' fg;rfl;intro hc;cases hc
section
variable {n:Nat}
def ee.no:ee fC:=⟨cx,cx,cx⟩
def kW {st:ae}{t:bt}{k:Nat}{z:aw}(h:cZ n st)(ht:ee t)(w:k<16)(u:Y z<=3000):cZ (n+30) (lh st t k z).1/\ee (lh st t k z).2.1/\((lh st t k z).2.2=U->Kp st (lh st t k z).1):=by
 obtain⟨_,s,e⟩:=qK (st:=st) ht;have m:=ht.mn;have c:aQ ((cv st t).getD k bp)=J:=e _ (a7 aa _);have d:lh st t k z=if b0 st ((cv st t).getD k bp)=z/\max t.many ((k:Int)+1)=t.many then(st,t,J) else
   match(if b0 st ((cv st t).getD k bp)=z then C (st,(cv st t).getD k bp) else Jc st z) with
   |none=>(st,t,U)
   |C (st1,p)=>match iG st1 t ((cv st t).set k p) (max t.many ((k:Int)+1)) with
    |(fB,O)=>(fB,fC,U)
    |(fB,C t2)=>(if p=(cv st t).getD k bp then fB else free fB ((cv st t).getD k bp),t2,J):=rfl
 rw[d];split;exact⟨h.mono aa,ht,λhc=>(by cases hc)⟩;have b:∀r,(if b0 st ((cv st t).getD k bp)=z then C (st,(cv st t).getD k bp) else Jc st z)=C r->cZ (n+1) r.1/\Kp st r.1/\aQ r.2=J:=by intro r hr;split at hr;cases hr;exact⟨h.mono aa,Kp.refl _,c⟩;unfold Jc at hr;split at hr;cases hr;exact⟨h.mono aa,Kp.refl _,(by decide:aQ bp=J)⟩;obtain⟨st1,p⟩:=r;have:=h.bz u hr;exact⟨this.1,MW hr,this.2.1⟩
 generalize(if b0 st ((cv st t).getD k bp)=z then C (st,(cv st t).getD k bp) else Jc st z)=o at b⊢;cases o with
 |none=>exact⟨h.mono aa,ht,λ_=>Kp.refl _⟩
 |some r=>obtain⟨st1,p⟩:=r;obtain⟨g,j,l⟩:=b _ rfl;simp only;have a:=vu (t:=t) (lv:=(cv st t).set k p) (many:=max t.many ((k:Int)+1)) g ht.rt (by rwa[mV]) (λq f=>by obtain f|rfl:=oN f;exact e q f;exact l) aa;rcases hl:iG st1 t ((cv st t).set k p) (max t.many ((k:Int)+1)) with⟨fB,_|t2⟩;rw[hl] at a;exact⟨a.1.mono aa,ee.no,λ_=>j.trans (a.2.1 rfl)⟩;rw[hl] at a;simp only at a⊢;refine⟨?_,(a.2.2 _ rfl).1,λhc=>(by cases hc)⟩;split;exact a.1.mono aa;exact(a.1.free c).mono aa
def yM {st:ae}{t:bt}{many:Int}(h:cZ n st)(ht:ee t)(hm:0<=many/\many<=16):cZ (n+40) (sG st t many).1/\ee (sG st t many).2.1/\((sG st t many).2.2=U->Kp st (sG st t many).1):=by
 obtain⟨_,f,c⟩:=qK (st:=st) ht;have b:sG st t many=if many=t.many then(st,t,J) else
   match iG st t (cv st t) many with
   |(fB,O)=>(fB,t,U)
   |(fB,C t2)=>(dA ((cv st t).drop many.toNat) fB,t2,J):=rfl
 rw[b];split;exact⟨h.mono aa,ht,λhc=>(by cases hc)⟩;have a:=vu (t:=t) (lv:=cv st t) (many:=many) h ht.rt f c hm;rcases hl:iG st t (cv st t) many with⟨fB,_|t2⟩;rw[hl] at a;exact⟨a.1.mono aa,ht,λ_=>a.2.1 rfl⟩;rw[hl] at a;simp only at a⊢;have d:=cZ.dA (st:=fB) ((cv st t).drop many.toNat) a.1 (λp e=>c p (List.mem_of_mem_drop e));exact⟨d.mono (by rw[fq];omega),(a.2.2 _ rfl).1,λhc=>(by cases hc)⟩
def xi:∀(f:Nat)(z:aw),(∀s∈dv f z,Y s<=128)
 |0,z=>by simp[dv]
 |f+1,z=>by
  rw[dv];split;intro s hs;obtain rfl|hs:=cA.1 hs;rw[de];omega;exact xi f _ s hs;split;simp;intro s hs;have:s=z:=by simpa using hs
  subst this;omega
def sR (n:dX):Y (dK n)<=128:=by
 cases h:cM n with
 |true=>exact(Pg.qE h).2
 |false=>unfold dK;rw[h];simp
def rY (s:St)(v:SA)(st:ae)(h:cZ 80000 st)(t:bt)(ht:ee t)(k:Nat)(c:k<16)(n:dX):
  eS aZ aW 32 [eg v st,tv t,iv k,nv n] s [] v st (kH st t k n).1 (kH st t k n).2.2 (yL (kH st t k n).2.1 (kH st t k n).2.2):=by have hl:=sR n;unfold kH;refine a8 f32 ?_;dsimp only[db];(repeat' first|refine' af0|(apply fz;exact aj;(first|exact λs=>pW s _ _ aT _ aT _ aa _ aa|exact λs=>pW s _ _ aT ⟨⟨_,_,_,_,_⟩,_,_⟩ aT _ aa _ aa);exact cK;intro _ _ b _ _ a)|refine' eI|fail);refine' fg;rfl;exact a
def Yx (s:St)(v:SA)(st:ae)(h:cZ 70000 st)(t:bt)(ht:ee t)(z:aw)(hz:Y z<=50000):
  eS aZ aW 239 [eg v st,tv t,sv z] s [] v st (kv st t z).1 J (yL (kv st t z).2.1 (kv st t z).2.2):=by
 have Q:=xi (Y z+1) z;have b:kv st t z=if 16<Y (dv (Y z+1) z) then(st,t,U) else match lj (dv (Y z+1) z) 0 st t with
  |(st,t,U)=>(st,t,U)
  |(st,t,J)=>sG st t (Y (dv (Y z+1) z)):=rfl
 generalize V:dv (Y z+1) z=w at *
 refine a8 f239 ?_;dsimp only[db];by_cases x:16<Y w
 .rw[ai x] at b;rw[b];have hR:∀s,eD aZ aW 274 [sv z] s [] 9 w:=λs=>by have:=AL s z aa;rwa [V] at this
  refine' ac9;all_goals try exact z_3
  refine' fg;rfl;intro hc;cases hc
 rw[af x] at b;have hR:∀s,eD aZ aW 274 [sv z] s [] 9 w:=λs=>by have:=AL s z aa;rwa [V] at this
 refine' ac9;all_goals try exact z_3
 refine W.bu (λk l L=>∃(i:Nat)(y:ae)(u:bt)(e:SA)(f:aP)(r g j m o:Nat),Le [(3,bk g),(4,bk j),(6,bk m),(7,bk o),(9,H f (Y w) r),(10,iv i)] l/\cb (.aU (H f (Y w) r) 9 1 (ab w):: .box g (lL e y) 29 U:: .box j (eN u) 33 U:: .box m [ew,ew,ew,dP,ew,dP,ew,M U] 29 U:: .box o [dP,dP,dP,dP,dP,dP,dP] 33 U::db e y) L/\k=Y w-i/\i<=Y w/\cZ (70000+30*i) y/\ee u/\lj w 0 st t=lj (w.drop i) i y u)
  (λl L=>∃(y:ae)(u:bt)(e:SA)(f:aP)(r g j m o:Nat),Le [(3,bk g),(4,bk j),(6,bk m),(7,bk o),(9,H f (Y w) r)] l/\cb (.aU (H f (Y w) r) 9 1 (ab w):: .box g (lL e y) 29 U:: .box j (eN u) 33 U:: .box m [ew,ew,ew,dP,ew,dP,ew,M U] 29 U:: .box o [dP,dP,dP,dP,dP,dP,dP] 33 U::db e y) L/\cZ 80000 y/\ee u/\lj w 0 st t=(y,u,J)) (Y w) ⟨0,st,t,v,_,_,_,_,_,_,bd,ak,aa,aa,h,ht,rfl⟩ ?_ ?_
 rintro k l L ⟨i,y,u,e,f,r,g,j,m,o,hl,hL,rfl,hi,S,hu,c⟩;refine' cP;have F:cZ 80000 y:=S.mono aa;by_cases B:i<Y w;have hsl:=Q _ (a7 B au.ad);have a:=kW (k:=i) (z:=w.getD i au.ad) S hu aa aa;rw[drop_cons B,lj] at c;rcases D:lh y u i (w.getD i au.ad) with⟨T,Z,ok⟩;(have abc:∀(d:SA) s,eS aZ aW 29 [eg d y,tv u,iv i,sv (w.getD i au.ad)] s [] d y T ok (yL Z ok):=λd s=>by have:=pW s d y F u hu i aa (w.getD i au.ad) aa;rwa[D] at this);rw[D] at c a;cases ok with
 |true=>simp only at c a;(repeat' first|refine' DF|refine' zK|fail);refine⟨_,?_,i+1,T,Z,_,_,_,_,_,_,_,bd,ak,rfl,aa,a.1.mono aa,a.2.1,c⟩;omega
 |false=>simp only at c a;have N:=a.2.2 trivial;rw[c] at b;simp only at b;rw[b];(repeat' first|refine' DF|refine' zK|fail);refine' fg;rw[show eg yA T=eg yA y from N.eg _];rw[Mp rfl];rfl;intro hc;cases hc
 have G:i=Y w:=by omega
 subst G;rw[re] at c;refine' OP;exact⟨y,u,e,_,_,_,_,_,_,bd,ak,F,hu,c⟩;rintro l L ⟨y,u,e,f,r,g,j,m,o,hl,hL,S,hu,c⟩;refine' gh;rw[c] at b;simp only at b;rw[b];repeat' first|refine' ac0|refine' eI|fail
 refine' fg;rfl;intro hc;cases hc
end
def zO (a:Int):∀(l:List aw)(k m:Nat),m<=k->mr a k m l<=k+Y l
 |[],k,m,h=>by simpa[mr] using h
 |s::l,k,m,h=>by rw[mr,fS];split;exact jR (zO a l (k+1) _ aa) aa;exact jR (zO a l (k+1) _ aa) aa
def MX {st:ae}{t:bt}{n:Nat}(h:cZ n st)(hn:n<=100000)(ht:ee t)(a:Int):qz st t a<=16:=by have:=zO a (fU st t) 0 0 (fG _);have b:=(j9 (h.mono hn) ht).1;have c:=ht.mn;unfold qz;omega
def Qe (s:St)(v:SA)(st:ae)(h:cZ 50000 st)(t:bt)(ht:ee t)(q:Nat)(hq:q<16)(o:cc)(ho:pG 200 st [((ju st t q).getD aK).aO.bU] []=C o)(hol:Y o<=1000)(V:∀p∈o,aQ p=J):
  eS aZ aW 183 [eg v st,tv t,iv q] s [] v st (fJ st t q).1 J (yL (fJ st t q).2.1 (fJ st t q).2.2):=by
 have G:cZ 100000 st:=h.mono aa;have hg:∀s,cr s v st->bM 241 [eg v st,tv t,iv q] s (iB v) (uN (ju st t q)):=λs hr=>zH s v st G t ht q aa hr;have T:∀s,cr s v st->bM 242 [eg v st,tv t,iv q] s (iB v) (iv (qz st t q)):=λs hr=>Qc s v st G t ht q hr;have hD:=MX h aa ht q;have a:fJ st t q=match lh (dA o st) t q [] with
   |(st,t,U)=>(st,t,U)
   |(fB,t2,J)=>sG fB t2 (qz st t q):=by
  have Q:wL st ((ju st t q).getD aK).aO=o:=by unfold wL;rw[ho];rfl
  unfold fJ;simp only[Q,px];rfl
 have N:∀s,cr s v st->eD aZ aW 243 [eg v st,tv ((ju st t q).getD aK).aO] s (iB v) 31 o:=λs hr=>Ys s v st G ((ju st t q).getD aK).aO o ho hr;generalize hDv:qz st t q=D at *
 refine a8 f183 ?_;dsimp only[db];(repeat' first|(apply eV;exact aj;exact λs hr=>hg s hr;exact dO;intros)|(apply eV;exact aj;exact λs hr=>T s hr;exact dO;intros)|(apply n3;exact aj;exact λs hr=>N s hr;exact dO;intro _ _ m r _ _)|refine' cY|fail);refine W.bu (λk l L=>∃(i:Nat)(y:ae)(d:SA)(B:aP)(F e f g j:Nat),Le [(2,iv q),(11,iv D),(3,bk e),(4,bk f),(6,bk g),(7,bk j),(12,H B (Y o) F),(13,iv i)] l/\cb (.aU (H B (Y o) F) 31 5 (ab o):: .box e (lL d y) 29 U:: .box f (eN t) 33 U:: .box g [ew,ew,ew,dP,ew,dP,ew,M U] 29 U:: .box j [dP,dP,dP,dP,dP,dP,dP] 33 U::db d y) L/\k=Y o-i/\i<=Y o/\cZ (50000+i) y/\dA o st=dA (o.drop i) y)
  (λl L=>∃(y:ae)(d:SA)(e f g j:Nat),Le [(2,iv q),(11,iv D),(3,bk e),(4,bk f),(6,bk g),(7,bk j)] l/\cb (.box e (lL d y) 29 U:: .box f (eN t) 33 U:: .box g [ew,ew,ew,dP,ew,dP,ew,M U] 29 U:: .box j [dP,dP,dP,dP,dP,dP,dP] 33 U::db d y) L/\cZ 51000 y/\dA o st=y) (Y o) ⟨0,st,v,_,_,_,_,_,_,bd,ak,aa,aa,by simpa using h,rfl⟩ ?_ ?_
 rintro k l L ⟨i,y,d,B,F,e,f,g,j,hl,hL,rfl,hi,u,hf⟩;refine' cP;have hy1:cZ 100000 y:=u.mono aa;by_cases w:i<Y o
 .have Z:=V _ (a7 w au.ad);rw[drop_cons w] at hf;(repeat' first|refine' Mo|refine' zK|fail);refine⟨_,?_,i+1,_,X1,_,_,_,_,_,_,bd,ak,rfl,aa,(u.free Z).mono aa,hf⟩;omega
 have S:i=Y o:=by omega
 subst S;rw[re] at hf;refine' OP;exact⟨y,d,_,_,_,_,bd,ak,u.mono aa,hf⟩;rintro l L ⟨y,d,e,f,g,j,hl,hL,u,hf⟩;refine' gh;rw[hf] at a;have hy8:cZ 80000 y:=u.mono aa;rcases x:lh y t q [] with⟨y2,t2,ok⟩;have b:=kW (k:=q) (z:=[]) u ht hq aq;rw[x] at b a;have abc:∀(c:SA) s,eS aZ aW 29 [eg c y,tv t,iv q,sv []] s [] c y y2 ok (yL t2 ok):=λc s=>by have:=pW s c y hy8 t ht q hq [] aq;rwa[x] at this
 cases ok with
 |false=>simp only at a;rw[a];(repeat' first|refine' DF|refine' cY|fail);refine' fg;rfl;intro hc;cases hc
 |true=>simp only at a;have hy3:cZ 80000 y2:=b.1.mono aa;have ht2:=b.2.1;rw[a];(repeat' first|refine' DF|refine' ac0|refine' cY|fail);refine' fg;rfl;intro hc;cases hc
def HV (st:ae)(n:dX):dE st n=(cM n&&decide (n.kind=1)&&da st n.aO&&dE.go n 0 (fU st n.aO)):=rfl
def MY (s:St)(v:SA)(st:ae)(h:cZ 100000 st)(n:dX)(hr:cr s v st):bM 96 [eg v st,nv n] s (iB v) (M (dE st n)):=by
 have y:=Rd.Bt hr;have u:=Rd.off hr;have x:=Rd.y8 hr;cases e:(cM n&&decide (n.kind=1)&&da st n.aO) with
 |false=>
  rw[HV,e,tO];refine a8 f96 ?_;repeat' first|refine' PV|refine' Dy|refine' eI|fail
  all_goals first|(exfalso;simp_all;done)|((refine' aC);rfl)
 |true=>
  rw[HV,e,wo];obtain⟨⟨c,g⟩,m⟩:(cM n=J/\n.kind=1)/\da st n.aO=J:=by simpa using e
  have hn:ka n:=ka.of c;have ht:=hn.tr;have N:=hn.sz;obtain⟨hl,j⟩:=j9 h ht;have hm:=ht.mn;have B:(!cM n)=U:=by rw[c];rfl
  have D:(!decide (n.kind=1))=U:=by simp[g]
  have F:(!da st n.aO)=U:=by rw[m];rfl
  refine a8 f96 ?_;repeat' first|refine' PV|refine' Dy|refine' ad8|refine' eI|fail
  all_goals first|(exfalso;simp_all;done)|skip
  generalize fU st n.aO=w at *
  refine W.bu (λk l L=>∃(i bs d:Nat),Le [(2,bk bs),(3,bk d),(5,H gV (Y w) gW),(6,iv i)] l/\cb [.aU (H gV (Y w) gW) 9 1 (ab w),.box bs (lL v st) 29 U,.box d (jg n) 67 U] L/\k=Y w-i/\i<=Y w/\dE.go n 0 w=dE.go n i (w.drop i))
   (λl L=>dE.go n 0 w=J) (Y w) ⟨0,_,_,bd,ak,aa,aa,rfl⟩ ?_ ?_
  .rintro k l L ⟨i,bs,d,b,t,rfl,r,a⟩;refine W.le ?_ b t;clear b t;by_cases hi:i<Y w
   .have G:=j _ (a7 hi au.ad);rw[drop_cons hi,dE.go] at a;(have z:eC n.size i<=12/\ -10000<=eC n.size i:=by unfold eC;omega);(repeat' first|refine' acU|(apply ag;exact aj;exact λs=>HB s _ aa;intros)|refine' zK|fail);(have o:dE.go n 0 w=U:=by rw[a,kX ki];simp);rw[o];refine' aC;rfl;refine⟨_,?_,i+1,_,_,bd,ak,rfl,aa,by rw[a,gZ ki,gZ sN];rfl⟩;omega;(have o:dE.go n 0 w=U:=by rw[a,kX aa];rfl);rw[o];refine' aC;rfl
   (have f:i=Y w:=by omega);subst f;rw[re,dE.go] at a;refine' eR;all_goals first|(exfalso;omega;done)|exact a
  rintro l L r;refine aJ ?_;refine W.le ?_ (Le.nil _) (cb.nil _);rw[r];refine' eR;refine' aC;rfl
def F0 (l:List aw)(h:l≠[]):l.getLastD []=l.getD (Y l-1) au.ad:=by have hl:0<Y l:=wq.2 h;rw[eX,List.getLastD_eq_getLast?,List.getLast?_eq_getElem?,c8 aa];rfl
def PY (s:St)(z:aw)(e:Y z<=90000)(a:bQ z=J)(hn:aH z≠[]):bM 177 [sv z] s [] (sv (Fs.base z)):=by
 obtain⟨c,b⟩:=BV a;have hl:0<Y (aH z):=wq.2 hn;rw[show Fs.base z=(aH z).getD (Y (aH z)-1) au.ad from F0 _ hn];have d:Y (aH z)<=4:=by unfold bQ at a;split at a;rename_i h;exfalso;apply hn;unfold aH;rw[ai h];split at a;cases a;simp only[ep,gv] at a;exact a.2
 rw[show(aH z).length-1=((Y (aH z):Int)-1).toNat by omega];refine a8 f177 ?_;repeat' first|refine' Un|refine' eI|fail
 refine' aC;rfl
def D0 (n:dX)(ok:Bool):Value->Value:=λV=>.tuple ⟨[V,nv n,M ok]⟩
def ka.aO {n:dX}(h:ka n){t:bt}(ht:ee t):ka {n with aO:=t}:=⟨ht,h.sz⟩
def Ss (s:aw):Y (kC s)<=Y s:=by unfold kC;rw[Rw];have:=(List.dropWhile_sublist (l:=s.reverse) (λx=>decide (x=0))).length_le;rwa[Rw] at this
def v8 (z:aw):∀(m k n:Nat)(st:ae)(u:dX),cZ n st->ka u->k+m<=16->cZ (n+30*m) (ke z m k st u).1/\ka (ke z m k st u).2.1
 |0,k,n,st,u,h,hu,_=>⟨h,hu⟩
 |m+1,k,n,st,u,h,hu,c=>by
  have hc:=Ss ((z.take (min (Y z) ((k+1)*12))).drop (k*12));have a:=kW (k:=k) (z:=kC ((z.take (min (Y z) ((k+1)*12))).drop (k*12))) h hu.tr aa (by rw[fq,de] at hc;omega);rw[ke];rcases b:lh st u.aO k (kC ((z.take (min (Y z) ((k+1)*12))).drop (k*12))) with⟨fB,t2,ok⟩;rw[b] at a;cases ok with
  |true=>have:=v8 z m (k+1) (n+30) fB {u with aO:=t2} a.1 (hu.aO a.2.1) aa;exact⟨this.1.mono aa,this.2⟩
  |false=>exact⟨a.1.mono aa,hu⟩
def HW (s:St)(v:SA)(st:ae)(h:cZ 50000 st)(n:dX)(hn:ka n)(z:aw)(hz:Y z<=1000)(a b:Nat)(hab:a<=b+1)(hb:b<16)(hbz:b*12<=Y z):
  eS aZ aW 247 [eg v st,nv n,sv z,iv a,iv b] s [] v st (gS st n z a b).1 J (D0 (gS st n z a b).2.1 (gS st n z a b).2.2):=by
 have N:ka {n with size:=Y z}:=⟨hn.tr,⟨vP _,by show(Y z:Int)<=10000;omega⟩⟩;refine a8 f247 ?_;dsimp only[db];refine' eR;refine W.bu (λk l L=>∃(j:Nat)(y:ae)(u:dX)(m:SA)(o r d e:Nat),Le [(2,sv z),(5,bk o),(6,bk r),(10,bk d),(11,bk e),(4,iv b),(13,iv j)] l/\cb (.box o (lL m y) 29 U:: .box r (jg u) 67 U:: .box d [ew,ew,ew,dP,ew,dP,ew,M U] 29 U:: .box e [dP,dP,dP,dP,dP,dP,dP,dP,dP,dP] 67 U::db m y) L/\k=b+1-j/\j<=b+1/\a<=j/\cZ (50000+30*(j-a)) y/\ka u/\gS st n z a b=ke z (b+1-j) j y u)
  (λl L=>∃(y:ae)(u:dX)(m:SA)(o r d e:Nat),Le [(5,bk o),(6,bk r),(10,bk d),(11,bk e)] l/\cb (.box o (lL m y) 29 U:: .box r (jg u) 67 U:: .box d [ew,ew,ew,dP,ew,dP,ew,M U] 29 U:: .box e [dP,dP,dP,dP,dP,dP,dP,dP,dP,dP] 67 U::db m y) L/\gS st n z a b=(y,u,J)) (b+1-a) ⟨a,st,{n with size:=Y z},v,_,_,_,_,bd,ak,rfl,aa,fG _,by simpa using h,N,rfl⟩ ?_ ?_
 rintro k l L ⟨j,y,u,m,o,r,d,e,hl,Z,rfl,hj,haj,T,hu,f⟩;refine' cP;have Q:cZ 80000 y:=T.mono aa;have B:=hu.tr;by_cases hj2:j<=b;have hc:=Ss ((z.take (min (Y z) ((j+1)*12))).drop (j*12));(have D:Y (kC ((z.take (min (Y z) ((j+1)*12))).drop (j*12)))<=12:=by rw[fq,de] at hc;omega);have c:=kW (k:=j) (z:=kC ((z.take (min (Y z) ((j+1)*12))).drop (j*12))) T B aa aa;rw[show b+1-j=(b+1-(j+1))+1 by omega,ke] at f;(have x:List.take ((min (↑(List.length z)) (((j:Int)+1)*12)).toNat-((j:Int)*12).toNat) (List.drop ((j:Int)*12).toNat z)=(z.take (min (Y z) ((j+1)*12))).drop (j*12):=by rw[List.drop_take];congr 1<;>first|omega|(congr 1;omega));generalize hw:kC ((z.take (min (Y z) ((j+1)*12))).drop (j*12))=w at f c D;rcases t:lh y u.aO j w with⟨S,V,ok⟩;(have abc:∀(g:SA) s,eS aZ aW 29 [eg g y,tv u.aO,iv j,sv (kC (List.take ((min (↑(List.length z)) (((j:Int)+1)*12)).toNat-((j:Int)*12).toNat) (List.drop ((j:Int)*12).toNat z)))] s [] g y S ok (yL V ok):=λg s=>by have:=pW s g y Q u.aO B j aa w aa;rw[t] at this;rwa[x,hw]);rw[t] at f c;(have hjz:j*12<=Y z:=by omega);cases ok with
 |true=>simp only at f c;(repeat' first|refine' ac3|refine' DF|refine' zK|fail);refine⟨_,?_,j+1,S,{u with aO:=V},_,_,_,_,_,bd,ak,rfl,aa,aa,c.1.mono aa,hu.aO c.2.1,f⟩;omega
 |false=>simp only at f c;have G:=c.2.2 trivial;rw[f];(repeat' first|refine' ac3|refine' DF|refine' zK|fail);refine' fg;rw[show eg yA S=eg yA y from G.eg _];rw[Mp rfl];rfl;intro hc;cases hc
 have F:j=b+1:=by omega
 subst F;rw[vG,ke] at f;refine' OP;exact⟨y,u,m,_,_,_,_,bd,ak,f⟩;rintro l L ⟨y,u,m,o,r,d,e,hl,Z,f⟩;refine' gh;rw[f];refine' eR;refine' fg;rfl;intro hc;cases hc
variable {s:St}{aI bW:List Int}
def Su.r {s:St}{v:SA}{st:ae}(h:yJ s v st):Rd ⟨s,([]:cq).flatMap It.bC,FZ v⟩ v.r 64 1 (ab st.dV):=Rd.of h.a.r λ_ hb=>im _ (uO hb)
def Su.f {s:St}{v:SA}{st:ae}(h:yJ s v st):Rd ⟨s,([]:cq).flatMap It.bC,FZ v⟩ v.f 64 1 (ab st.aI):=Rd.of h.a.f λ_ hb=>im _ (uP hb)
def Su.l {s:St}{v:SA}{st:ae}(h:yJ s v st):Rd ⟨s,([]:cq).flatMap It.bC,FZ v⟩ v.l 64 1 (ab st.bW):=Rd.of h.a.l λ_ hb=>im _ (uQ hb)
def Su.g {s:St}{v:SA}{st:ae}(h:yJ s v st):Rd ⟨s,([]:cq).flatMap It.bC,FZ v⟩ v.g (Y st.aS) 5 (ab st.aS):=Rd.of h.g λ_ hb=>dt _ (im _ hb)
def Su.d {s:St}{v:SA}{st:ae}(h:yJ s v st):Rd ⟨s,([]:cq).flatMap It.bC,FZ v⟩ v.d (Y st.bL) 5 (ab st.bL):=Rd.of h.d λ_ hb=>dt _ (dt _ hb)
abbrev Sv (E:hJ)(X:fb)(f:FuncId)(vs:aV)(s:St)(A:List Nat)(aI bW:List Int):Prop:=eJ E X f vs s [] A λr L=>∃a c b d,r= .agg ⟨[H a 64 c,H b 64 d]⟩/\L=[.aU (H b 64 d) 3 1 (ab bW),.aU (H a 64 c) 3 1 (ab aI)]
section
variable {l:Kn}{f:FuncId}
def Yy (g:iu l xs vs)(h:∀s,cr s v st->Sv E X f vs s (iB v) aI bW)(d:cJ Γ L v st)(k:∀m b a c a2 c2,gk L m->m<=b->K (.agg ⟨[H a 64 c,H a2 64 c2]⟩) (.aU (H a2 64 c2) 3 1 (ab bW):: .aU (H a 64 c) 3 1 (ab aI)::L) m b (iI (iB v) [] m b) (iJ [] m b)):WC E X Γ l f xs ts L K:=
 cI (Lm:=[]) (R:=L) g (.refl _) (λs hi=>(d.row hi).2) (λs hi=>h s (d.row hi).1) (by rintro r L' m b e hm ⟨a,c,a2,c2,rfl,rfl⟩;exact k m b a c a2 c2 e hm)
def UJ (g:iu l xs vs)(h:∀s,Sv E X f vs s [] aI bW)(k:∀m d a c a2 c2,gk L m->m<=d->K (.agg ⟨[H a 64 c,H a2 64 c2]⟩) (.aU (H a2 64 c2) 3 1 (ab bW):: .aU (H a 64 c) 3 1 (ab aI)::L) m d (iI [] [] m d) (iJ [] m d)):WC E X Γ l f xs ts L K:=
 cI (Lm:=[]) (R:=L) g (.refl _) (λs hi b hb=>by cases hb) (λs hi=>h s) (by rintro r L' m d e hm ⟨a,c,a2,c2,rfl,rfl⟩;exact k m d a c a2 c2 e hm)
def afS {rs:List ResultVar}{x:Ex}{bB:ae}{a a2 b c d:aP}{e c2 g h j:Nat}(m:x= .normal\/x= .ret)(hr:AE E l L rs [.agg ⟨[H a 64 e,H a2 64 c2,H b 64 g,iv bB.dm,H c (Y bB.aS) h,iv bB.iz,H d (Y bB.bL) j,M bB.same]⟩])
  (k:cb [.aU (H a 64 e) 9 1 (ab bB.dV),.aU (H a2 64 c2) 3 1 (ab bB.aI),.aU (H b 64 g) 3 1 (ab bB.bW),.aU (H c (Y bB.aS) h) 31 5 (ab bB.aS),.aU (H d (Y bB.bL) j) 31 5 (ab bB.bL)] L):
  zt E rs (λr L=>∃v':SA,r=id (eg v' bB)/\L=db v' bB) x l L:=⟨m,_,_,hr,k,⟨a,e,a2,c2,b,g,c,h,d,j⟩,rfl,rfl⟩
def aij {rs:List ResultVar}{x:Ex}{a a2:aP}{c c2:Nat}(d:x= .normal\/x= .ret)(hr:AE E l L rs [.agg ⟨[H a 64 c,H a2 64 c2]⟩])(b:cb [.aU (H a2 64 c2) 3 1 (ab bW),.aU (H a 64 c) 3 1 (ab aI)] L):
  zt E rs (λr L=>∃a c a2 c2,r= .agg ⟨[H a 64 c,H a2 64 c2]⟩/\L=[.aU (H a2 64 c2) 3 1 (ab bW),.aU (H a 64 c) 3 1 (ab aI)]) x l L:=⟨d,_,_,hr,b,a,c,a2,c2,rfl,rfl⟩
end
def UK (s:St)(v:SA)(st:ae)(h:cZ 100000 st)(hr:cr s v st):Sv aZ aW 124 [.agg ⟨[H v.f 64 v.fc,H v.l 64 v.lc]⟩] s (iB v) st.aI st.bW:=by have a:=Rd.off hr;have b:=Rd.y8 hr;have c:=h.lf;have d:=h.ll;refine a8 f124 ?_;refine' eR;refine' acQ
def MZ (s:St):Sv aZ aW 114 [] s [] (replicate 64 (0:Int)) (replicate 64 (0:Int)):=by refine a8 f114 ?_;refine' eR;refine' acQ
def Uv (s:St)(v:SA)(st:ae)(h:cZ 100000 st)(hr:yJ s v st):MR aZ aW 68 [eg v st] s (FZ v) st id:=by have u:=Su.r hr;have m:=Su.f hr;have t:=Su.l hr;have o:=Su.g hr;have k:=Su.d hr;have x:=h.lr;have w:=h.gl;have j:=h.dl;refine a8 f68 ?_;(repeat' first|(apply Yy;exact aj;exact λs hr=>UK s _ _ aT hr;exact dO;intro _ _ a b c e _ _)|refine' eI|fail);refine' XQ
def M0 (s:St)(b:Bool):MR aZ aW 62 [M b] s [] (b7 b) id:=by refine a8 f62 ?_;(repeat' first|(apply UJ;exact aj;exact λs=>MZ s;intro _ _ a c d e _ _)|refine' eI|fail);refine' XQ
def abu (st:ae):next st={(st.aS.foldl (λst p=>drop st p.row) st) with aS:=[],dm:=st.dm+1}:=rfl
def HX (s:St)(v:SA)(st:ae)(h:cZ 70000 st)(hn:Y st.aS<=30000):eS aZ aW 67 [eg v st] s [] v st (next st) J id:=by
 rw[abu];refine a8 f67 ?_;dsimp only[db];refine' eR;refine W.bu (λk l L=>∃(i:Nat)(y:ae)(v':SA)(b c:Nat),Le [(1,bk b),(2,bk c),(3,iv i)] l/\cb (.box b (lL v' y) 29 U:: .box c [ew,ew,ew,dP,ew,dP,ew,M U] 29 U::db v' y) L/\k=Y st.aS-i/\i<=Y st.aS/\cZ (70000+i) y/\y.aS=st.aS/\y.dm=st.dm/\st.aS.foldl (λst p=>drop st p.row) st=(st.aS.drop i).foldl (λst p=>drop st p.row) y)
  (λl L=>∃(y:ae)(v':SA)(b c:Nat),Le [(1,bk b),(2,bk c)] l/\cb [.box b (lL v' y) 29 U,.box c [ew,ew,ew,dP,ew,dP,ew,M U] 29 U,.aU (H v'.r 64 v'.rc) 9 1 (ab y.dV),.aU (H v'.f 64 v'.fc) 3 1 (ab y.aI),.aU (H v'.l 64 v'.lc) 3 1 (ab y.bW),.aU (H v'.d (Y y.bL) v'.dc) 31 5 (ab y.bL)] L/\cZ 100000 y/\y.dm=st.dm/\st.aS.foldl (λst p=>drop st p.row) st=y) (Y st.aS) ⟨0,st,v,_,_,bd,ak,aa,aa,h,rfl,rfl,rfl⟩ ?_ ?_
 rintro k l L ⟨i,y,v',b,c,hl,u,rfl,hi,g,e,a,hf⟩;refine' cP;have o:cZ 100000 y:=g.mono aa;have w:Y y.aS=Y st.aS:=by rw[e]
 by_cases m:i<Y st.aS
 .have t:0<=(y.aS.getD i au.ad).row/\(y.aS.getD i au.ad).row<64:=g.gr _ (a7 aa _);rw[drop_cons m,xE] at hf;(repeat' first|refine' acY|refine' zK|fail);refine⟨_,?_,i+1,_,XY,_,_,bd,ak,rfl,aa,g.drop,e,a,?_⟩;omega;rw[hf,e]
 have j:i=Y st.aS:=by omega
 subst j;rw[re] at hf;refine' OP;exact⟨y,v',_,_,bd,ak,o,a,hf⟩;rintro l L ⟨y,v',b,c,hl,u,g,a,hf⟩;refine' gh;have x:=g.tx;rw[hf,<-a];refine' eR;refine FP (v':=⟨v'.r,v'.rc,v'.f,v'.fc,v'.l,v'.lc,C ⟨bl,0,O⟩,0,v'.d,v'.dc⟩) bK bH ak ?_ (λhc=>(by cases hc));rfl
def M3 (s:St)(v:SA)(st:ae)(h:cZ 50000 st)(n:dX)(hn:ka n)(a:Nat)(z:aw)(ha:a+Y z<=192)(hf:Y (a6 st n)<=192):
  eS aZ aW 185 [eg v st,nv n,iv a,sv z] s [] v st (fR st n a z).1 J (D0 (fR st n a z).2.1 (fR st n a z).2.2):=by
 have u:cZ 100000 st:=h.mono aa;have o:Y (kx (a6 st n) a z)<=192/\a+Y z<=Y (kx (a6 st n) a z):=by unfold kx jt;simp only[dB,de,fq,sk];omega
 refine a8 f185 ?_;dsimp only[db];by_cases m:z=[];subst m;have l:fR st n a []=(st,n,J):=rfl;rw[l];refine' eR;refine' fg;rfl;intro hc;cases hc;have l:fR st n a z=gS st n (kx (a6 st n) a z) (a/ 12) ((a+Y z-1)/ 12):=by unfold fR;rw[af m]
 rw[l];have r:0<Y z:=wq.2 m;have f:((min (Y (a6 st n++jt ((a:Int)-(Y (a6 st n):Int))):Int) ((a:Int)+(Y z:Int))).toNat)=min (Y (a6 st n++jt ((a:Int)-(Y (a6 st n):Int)))) (a+Y z):=by omega
 have g:=λ(b:SA) s=>HW s b st h n hn (kx (a6 st n) a z) aa (a/ 12) ((a+Y z-1)/ 12) aa aa aa;have j:((a:Int)).tdiv 12=((a/ 12:Nat):Int):=by rw[KS aa];omega
 have k:((a:Int)+(Y z:Int)-1).tdiv 12=(((a+Y z-1)/ 12:Nat):Int):=by rw[KS aa];omega
 have t:Y (jt ((a:Int)-(Y (a6 st n):Int)))=a-Y (a6 st n):=by unfold jt;rw[sk];omega
 have e:∀(b:SA) s,eS aZ aW 247 [eg b st,nv n,sv (List.take a (a6 st n++jt ((a:Int)-(Y (a6 st n):Int)))++z++List.drop (min (Y (a6 st n++jt ((a:Int)-(Y (a6 st n):Int))):Int) ((a:Int)+(Y z:Int))).toNat (a6 st n++jt ((a:Int)-(Y (a6 st n):Int)))),iv (((a:Int)).tdiv 12),iv (((a:Int)+(Y z:Int)-1).tdiv 12)] s [] b st (gS st n (kx (a6 st n) a z) (a/ 12) ((a+Y z-1)/ 12)).1 J (D0 (gS st n (kx (a6 st n) a z) (a/ 12) ((a+Y z-1)/ 12)).2.1 (gS st n (kx (a6 st n) a z) (a/ 12) ((a+Y z-1)/ 12)).2.2):=λb s=>by rw[j,k,f];exact g b s
 (repeat' first|refine' yB|refine' Dz|(apply fz;exact aj;exact λs=>e _ s;exact cK;intro _ _ d _ _ c)|refine' cY|fail);refine' fg;rfl;intro hc;cases hc
def UL (s:St)(v:SA)(st:ae)(h:cZ 40000 st)(n:dX)(hn:ka n)(a:Nat)(ha:a<=192)(hs:n.size<=192)(hf:(Y (a6 st n):Int)=n.size)(hm:n.aO.many=cV n.size 12):
  eS aZ aW 186 [eg v st,nv n,iv a] s [] v st (fN st n a).1 J (D0 (fN st n a).2.1 (fN st n a).2.2):=by
 have N:cZ 100000 st:=h.mono aa;have y:cZ 80000 st:=h.mono aa;have j:=hn.tr;have F:=hn.sz;have c:cV a 12=((a+11)/ 12:Nat):=by unfold cV;omega
 have G:Y (jt ((a:Int)-(Y (a6 st n):Int)))=a-Y (a6 st n):=by unfold jt;rw[sk];omega
 have t:12*((a+11)/ 12)<=a+11/\a+11<12*((a+11)/ 12)+12:=by omega
 generalize(a+11)/ 12=K at c t;have VV:∀s,bM 248 [iv a,iv 12] s [] (iv K):=λs=>by have:=yD s a 12 aa aa;rwa [c] at this
 by_cases f:n.size<=a
 .by_cases o:(K:Int)=n.aO.many
  ·(have g:fN st n a=(st,{n with size:=(a:Int)},J):=by unfold fN;simp only[c];rw[ai f,ai o]);rw[g];refine a8 f186 ?_;dsimp only[db];(repeat' first|refine' yB|refine' Dz|refine' Mv|refine' cY|fail);refine' fg;rfl;intro hc;cases hc
  have B:1<=K:=by unfold cV at hm;omega
  (have m:((K:Int)-1)=((K-1:Nat):Int):=by omega);rcases r:lh st n.aO (K-1) [] with⟨fB,t2,ok⟩;have g:fN st n a=(fB,{n with size:=(a:Int),aO:=t2},ok):=by unfold fN;simp only[c];rw[ai f,af o,m,px];simp only[r]
  rw[g];have abc:∀(b:SA) s,eS aZ aW 29 [eg b st,tv n.aO,iv ((K:Int)-1),sv []] s [] b st fB ok (yL t2 ok):=λb s=>by have:=pW s b st y n.aO j (K-1) aa [] aq;rw[r] at this;rwa[m]
  refine a8 f186 ?_;dsimp only[db];(repeat' first|refine' yB|refine' Dz|refine' Mv|refine' DF|refine' cY|fail);refine' fg;rfl;intro hc;cases hc
 rcases e:sG st n.aO K with⟨fB,t2,ok⟩;have d:=yM (many:=(K:Int)) h j aa;rw[e] at d;have hcc:∀(b:SA) s,eS aZ aW 244 [eg b st,tv n.aO,iv K] s [] b st fB ok (yL t2 ok):=λb s=>by have:=DG s b st y n.aO j (K:Int) aa;rwa[e] at this
 cases ok with
 |false=>
  have g:fN st n a=(fB,n,U):=by unfold fN;simp only[c];rw[af f];simp only[e]
  rw[g];have u:=d.2.2 rfl;refine a8 f186 ?_;dsimp only[db];(repeat' first|refine' yB|refine' Dz|refine' Mv|refine' X4|refine' cY|fail);refine' fg;rw[show eg Mw fB=eg Mw st from u.eg _];rw[X5 rfl];rfl;intro hc;cases hc
 |true=>
  by_cases z:K=0
  ·(have g:fN st n a=(fB,{n with size:=(a:Int),aO:=t2},J):=by unfold fN;simp only[c];rw[af f];simp only[e];rw[ai aa]);rw[g];refine a8 f186 ?_;dsimp only[db];(repeat' first|refine' yB|refine' Dz|refine' Mv|refine' X4|refine' cY|fail);refine' fg;rfl;intro hc;cases hc
  have g:fN st n a=gS fB {n with size:=(a:Int),aO:=t2} ((a6 st n).take a) (K-1) (K-1):=by unfold fN;simp only[c];rw[af f];simp only[e];rw[af aa,show((K:Int)-1).toNat=K-1 by omega]
  rw[g];have w:ka {n with size:=(a:Int),aO:=t2}:=⟨d.2.1,⟨vP _,by show(a:Int)<=10000;omega⟩⟩;have D:Y ((a6 st n).take a)=a:=by rw[de];omega
  have x:∀(b:SA) s,eS aZ aW 247 [eg b fB,nv {n with size:=(a:Int),aO:=t2},sv ((a6 st n).take a),iv ((K:Int)-1),iv ((K:Int)-1)] s [] b fB (gS fB {n with size:=(a:Int),aO:=t2} ((a6 st n).take a) (K-1) (K-1)).1 J (D0 (gS fB {n with size:=(a:Int),aO:=t2} ((a6 st n).take a) (K-1) (K-1)).2.1 (gS fB {n with size:=(a:Int),aO:=t2} ((a6 st n).take a) (K-1) (K-1)).2.2):=λb s=>by have:=HW s b fB (d.1.mono aa) _ w ((a6 st n).take a) aa (K-1) (K-1) aa aa aa;rwa[show((K:Int)-1)=((K-1:Nat):Int) by omega]
  refine a8 f186 ?_;dsimp only[db];(repeat' first|refine' yB|refine' Dz|refine' Mv|refine' X4|(apply fz;exact aj;exact λs=>x _ s;exact cK;intro _ _ l _ _ k)|refine' cY|fail);refine' fg;rfl;intro hc;cases hc
variable {l:Kn}{x y:Operand}{t t2:TypeId}
def UM {n:Int}(h:0<=n/\n<=1000000):IntKind.wrap .u64 n=n:=by refine' zaT
def M4 [h1:yg E t .i64][h2:yg E t2 .u64](a:Ev l x (iv n))(hn:0<=n/\n<=1000000)(h:∀i,K (I .u64 n) L i i Z Z):WO E X Γ l (.convert t t2 x) L K:=BH (h1:=h1) (h2:=h2) (k:=.i64) a (UM hn) h
def M6 [h1:yg E t .u64][h2:yg E t2 .i64](a:Ev l x (I .u64 n))(hn:0<=n/\n<=1000000)(h:∀i,K (iv n) L i i Z Z):WO E X Γ l (.convert t t2 x) L K:=BH (h1:=h1) (h2:=h2) (k:=.u64) a (pM ⟨aa,aa⟩) h
def Sw {m:Nat}(a:Ev l x (I .u64 n))(b:Ev l y (I .u64 1))(d:n/ 2=(m:Int))(hn:0<=n)(h:∀i,K (I .u64 (m:Int)) L i i Z Z):WO E X Γ l (.binOp .shr t x y t2) L K:=fZ a b (λc=>by
 obtain⟨k,rfl⟩:=tI hn;show C (Value.int .u64 (.ofNat (Nat.shiftRight k (Cp 1 (GL .u64)))))=_;have:Nat.shiftRight k (Cp 1 (GL .u64))=m:=by show k>>> 1=m;rw[Nat.shiftRight_eq_div_pow];omega
 rw[this];rfl) h
def Yz (s:St)(n:Int):bM 111 [iv n] s [] (M U):=by
 refine a8 f111 ?_;refine' eR;all_goals refine' aC
 all_goals(first|rfl|simp[fj])
def UN (s:St)(a b:Int):bM 57 [iv a,iv b] s [] (iv (Lu a b)):=by
 refine a8 f57 ?_;(repeat' first|(apply ag;exact aj;exact λs=>Yz s _;intros)|refine' cY|fail);all_goals refine' aC
 all_goals(simp only[fj];unfold Lu)
 all_goals first|rfl|(rw[ai aT])|(rw[af aa,ai aa])|(rw[af aa,af aa])
def HY (s:St)(x:eF)(k:Int):bM 56 [.agg ⟨au.cells x⟩,iv k] s [] (iv (Lu x.id k)):=by refine a8 f56 ?_;(repeat' first|(apply ag;exact aj;exact λs=>UN s _ _;intros)|refine' Ux|fail)
def UO (s:St)(a b:aw):bM 151 [sv a,sv b] s [] (iv (Ev.ya a b)):=λd e f=>lE.Ji (fn:=f151) bV (s':=s) (v:=iv (Ev.ya a b)) (λk=>rfl) ⟨[],⟨λ_ _ _=>rfl,fG _,λx c=>(by cases c),λx c=>(by cases c),ta,λb hb=>.inl hb,λb hb=>.inl hb,λb hb=>.inl hb,λb hb=>.inl hb⟩,rfl,rfl⟩
def Qf (s:St)(a b:aw):bM 90 [sv a,sv b] s [] (iv (Ev.ya a b)):=by refine a8 f90 ?_;(repeat' first|(apply ag;exact aj;exact λs=>UO s _ _;intros)|refine' Ux|fail)
def ad3 (s:St)(a:aP)(c:Nat)(q:ot)(hs:nM q)(F:Y q<=1000)(k:Int)(hr:bJ s a (Y q) 3 (ab q)):bM 55 [H a (Y q) c,iv k,.func (.func 56) ⟨[]⟩ ⟨[]⟩] s (ah a) (.tuple ⟨[iv (Bl q k:Int),M (decide (Bl q k<Y q/\(q.getD (Bl q k) au.ad).id=k))]⟩):=by
 have g:=Rd.of (A:=ah a) hr λ_ hb=>hb;have hle:=adD q k;refine a8 f55 ?_;refine' eR;refine W.bu (λm l L=>∃(i j:Nat),Le [(0,H a (Y q) c),(1,iv k),(2,.func (.func 56) ⟨[]⟩ ⟨[]⟩),(8,iv (Y q:Int)),(9,iv (i:Int)),(10,iv (j:Int))] l/\cb [] L/\m=j-i/\i<=Bl q k/\Bl q k<=j/\j<=Y q)
  (λl L=>Le [(0,H a (Y q) c),(1,iv k),(2,.func (.func 56) ⟨[]⟩ ⟨[]⟩),(8,iv (Y q:Int)),(9,iv (Bl q k:Int))] l/\cb [] L) _ ⟨0,Y q,bd,ak,rfl,aa,hle,fG _⟩ ?_ ?_
 .rintro m l L ⟨i,j,hl,f,rfl,e,w,z⟩;refine' cP;by_cases o:i<j
  .obtain⟨h,u,B,D⟩:∃h:Nat,((i:Int)+(j:Int))/ 2=(h:Int)/\i<=h/\h<j:=⟨(i+j)/ 2,aa,aa,aa⟩;have r:=BE hs k au.ad (h:=h) aa;have d:=aau (a:=(q.getD h au.ad).id) (b:=k);(repeat' first|refine' zC|(apply ag;exact aj;exact λs=>HY s _ _;intros)|(apply M4;exact bN;exact mv;intro _)|(apply M6;exact bN;exact mv;intro _)|(apply Sw;exact bN;exact bN;assumption;exact mv;intro _)|refine' cY|fail);exact⟨_,aa,h+1,j,bd,ak,rfl,aa,aa,aa⟩;exact⟨_,aa,i,h,bd,ak,rfl,aa,aa,aa⟩
  have hi:i=Bl q k:=by omega
  subst hi;refine' iK;all_goals exact⟨bd,ak⟩
 rintro l L ⟨hl,f⟩;refine' gh;have d:=aav (a:=(q.getD (Bl q k) au.ad).id) (b:=k);(repeat' first|refine' zC|(apply ag;exact aj;exact λs=>HY s _ _;intros)|refine' eI|fail);(refine' aC);(have e:Bl q k<Y q:=by omega);show Value.tuple ⟨[iv (Bl q k:Int),M (decide (Lu (q.getD (Bl q k) au.ad).id k=0))]⟩=_;refine congrArg (λb=>Value.tuple ⟨[_,M b]⟩) ?_;rw[tT];exact⟨λh=>⟨e,d.1 h⟩,λh=>d.2 h.2⟩;(refine' aC);(have e:¬Bl q k<Y q:=by omega);exact congrArg (λb=>Value.tuple ⟨[_,M b]⟩) (kX (λh=>e h.1)).symm
def vq (s:St)(a b c:Int):bM 22 [iv a,iv b,iv c] s [] (M (fI a b c)):=by
 refine a8 f22 ?_;refine' eR;all_goals refine' aC
 show Value.bool (decide (a<=c))= M (fI a b c);unfold fI;simp[sN];show Value.bool U= M (fI a b c);unfold fI;simp;omega
def oI:Option Nat->Int
 |none=>-1
 |some k=>(k:Int)
def iT:aw->Option Nat
 |[]=>O
 |c::s=>match iT s with
  |some i=>C (i+1)
  |none=>if c=47 then C 0 else O
def qM:∀z:aw,(∀j,j<Y z->z.getD j 0≠47)->iT z=O
 |[],_=>rfl
 |c::z,h=>by unfold iT;rw[qM z λj a=>by have:=h (j+1) (by simpa using a);simpa using this];have:=h 0 aq;exact af (by simpa using this)
def AN:∀(z:aw)(i:Nat),i<Y z->z.getD i 0=47->(∀j,i<j->j<Y z->z.getD j 0≠47)->iT z=C i
 |[],i,h,_,_=>by simp at h
 |c::z,0,_,a,b=>by unfold iT;rw[qM z λj e=>by have:=b (j+1) aa (by simpa using e);simpa using this];exact ai (by simpa using a)
 |c::z,i+1,h,a,b=>by unfold iT;rw[AN z i (by simpa using h) (by simpa using a) λj e d=>by have:=b (j+1) aa (by simpa using d);simpa using this]
def zP:∀(z:aw)(i:Nat),iT z=C i->i<Y z
 |[],i,h=>by cases h
 |c::z,i,h=>by unfold iT at h;split at h;rename_i j a;have:=zP z j a;cases h;simpa using this;split at h;cases h;simp;cases h
def M7 (s:St)(z:aw)(r:Y z<=100000):bM 112 [sv z,I .u8 47] s [] (iv (oI (iT z))):=by
 refine a8 f112 ?_;refine' eR;refine W.bu (λm l L=>∃(i:Int),Le [(0,sv z),(1,I .u8 47),(5,iv i)] l/\cb [] L/\m=(i+1).toNat/\ -1<=i/\i<Y z/\∀j:Nat,i<j->j<Y z->z.getD j 0≠47)
  (λl L=>Le [] l/\cb [] L/\iT z=O) _ ⟨(Y z:Int)-1,bd,ak,rfl,aa,aa,λj d f=>by omega⟩ ?_ ?_
 rintro m l L ⟨i,hl,g,rfl,d,f,b⟩;refine' cP;refine' eR;have e:iT z=C i.toNat:=AN z i.toNat aa (tz.1 (by show _=47;omega)) λj c a=>b j aa a;refine' aC;show iv i=_;rw[e];show iv i=iv ((i.toNat:Nat):Int);rw[Ar aa];refine⟨_,aa,i-1,bd,ak,rfl,aa,aa,λj c a=>?_⟩;by_cases o:(j:Int)=i;(have:i.toNat=j:=by omega);rw[this] at ki;intro k;rw[k] at ki;exact ki rfl;exact b j aa a;exact⟨bd,ak,qM z λj c=>b j aa c⟩;rintro l L ⟨hl,g,b⟩;refine' gh;rw[b];refine' qcx
def Qg (s:St)(z:aw)(a:Y z<=100000):bM 58 [sv z,I .u8 47] s [] (iv (oI (iT z))):=by refine a8 f58 ?_;(repeat' first|(apply ag;exact aj;exact λs=>M7 s _ aa;intros)|refine' Ux|fail)
def bS (z:aw):aw×aw:=match iT z with
 |none=>([],[])
 |some i=>(z.take (max i 1),z.drop (i+1))
def XU (s:St)(z:aw)(c:Y z<=100000):bM 24 [sv z] s [] (.tuple ⟨[sv (bS z).1,sv (bS z).2]⟩):=by
 have a:∀s,bM 58 [sv z,I .u8 47] s [] (iv (oI (iT z))):=λs=>Qg s z c;unfold bS;cases h:iT z with
 |none=>rw[h] at a;have a:∀s,bM 58 [sv z,I .u8 47] s [] (iv (-1)):=a;refine a8 f24 ?_;(repeat' first|(apply ag;exact aj;exact λs=>a s;intros)|refine' nJ|fail)
 |some i=>
  rw[h] at a;have a:∀s,bM 58 [sv z,I .u8 47] s [] (iv (i:Int)):=a;have b:=zP z i h;refine a8 f24 ?_;(repeat' first|(apply ag;exact aj;exact λs=>a s;intros)|refine' cY|fail);all_goals refine' aC
  all_goals(show Value.tuple ⟨[sv (z.take (max (i:Int) 1).toNat),sv (z.drop ((i:Int)+1).toNat)]⟩=_;rw[show(max (i:Int) 1).toNat=max i 1 by omega,show((i:Int)+1).toNat=i+1 by omega])
end Go.Pl
namespace Go.Pl
open Go.Lg
abbrev fp:cB:=au.ad (α:=cB)
abbrev nG:eF:=au.ad (α:=eF)
structure Acc where
 li:List (Int×Int)
 xB:List (aw×Int)
 fo:List (aw×Bool)
def tB (q:ot)(i:Nat):Bool:=fI (q.getD i nG).id 0 15&&!(decide (0<i)&&decide ((q.getD i nG).id<=(q.getD (i-1) nG).id))&&!((q.getD i nG).ej&&decide ((q.getD i nG).b0≠[]))&&!decide (192<Y (q.getD i nG).b0)
def M8 (x:cB)(fo:Bool)(A:Acc):Option Acc:=
 if 9<(cO (ig A.li x.id ((cO A.li x.id).getD 0+1)) x.id).getD 0\/(fo=J/\1<(cO (ig A.li x.id ((cO A.li x.id).getD 0+1)) x.id).getD 0) then O else C ⟨ig A.li x.id ((cO A.li x.id).getD 0+1),A.xB,ig A.fo x.ar fo⟩
def iIn (x:cB)(A:Acc):Option Acc:=
 if(cO A.fo (bS x.ar).1).getD U=U\/bG (bS x.ar).2=U then O else
 if 12<(cO (ig A.xB (bS x.ar).1 ((cO A.xB (bS x.ar).1).getD 0+1)) (bS x.ar).1).getD 0 then O else C ⟨A.li,ig A.xB (bS x.ar).1 ((cO A.xB (bS x.ar).1).getD 0+1),A.fo⟩
def D1 (p:List cB)(q:ot)(i:Nat)(A:Acc):Option Acc:=match Jh q (p.getD i fp).id with
 |none=>O
 |some t=>
  if 0<i/\bP (p.getD (i-1) fp).ar (p.getD i fp).ar=U then O else
  match if 0<i then iIn (p.getD i fp) A else C A with
  |none=>O
  |some A=>M8 (p.getD i fp) (q.getD t nG).ej A
def Z6 (p:List cB)(q:ot):Nat->Nat->Acc->Option Acc
 |0,_,A=>C A
 |n+1,i,A=>match D1 p q i A with
  |none=>O
  |some A=>Z6 p q n (i+1) A
def iok (f:Flat):Bool:=fI (Y f.aB) 1 16&&decide (Y f.names≠0)&&decide (f.names.getD 0 fp=⟨[47],0⟩)&&(List.range (Y f.aB)).all (tB f.aB)&&decide ((f.aB.getD 0 nG).id=0)&&(f.aB.getD 0 nG).ej&&match Z6 f.names f.aB (Y f.names) 0 ⟨[],[],[]⟩ with
 |none=>U
 |some A=>decide (Y A.li=Y f.aB)
def JU {q:ot}(h:∀i,i<Y q->tB q i=J):nM q:=by
 have a:∀i,i+1<Y q->(q.getD i nG).id<(q.getD (i+1) nG).id:=λi hi=>by have:=h (i+1) hi;unfold tB at this;simp at this;have:=this.1.1.2;simp;omega
 have b:∀n i,i+n+1<Y q->(q.getD i nG).id<(q.getD (i+n+1) nG).id:=λn=>by
  induction n with
  |zero=>exact a
  |succ n ih=>exact λi hi=>Int.lt_trans (ih i aa) (a (i+n+1) hi)
 refine Gm.2 λi j hi d c=>?_;have:=b (j-i-1) i aa;rwa[show i+(j-i-1)+1=j by omega,eX,c8 hi,eX,c8 d] at this
def Qh (z:aw):∀c∈(bS z).2,c∈z:=λc hc=>by unfold bS at hc;split at hc;cases hc;exact List.mem_of_mem_drop hc
variable {κ ν:Type}
section
variable [DecidableEq κ]
def yN:∀(m:List (κ×ν))(k:κ),(cO m k).isSome=J↔k∈m.map Prod.fst
 |[],k=>by simp[cO]
 |p::m,k=>by unfold cO;rw[lF,cA];by_cases h:k=p.1;rw[ai h];simp[h];rw[af h,yN m k];simp[h]
def HZ:∀(m:List (κ×ν))(k:κ)(v:ν),(ig m k v).map Prod.fst=if(cO m k).isSome then m.map Prod.fst else m.map Prod.fst++[k]
 |[],k,v=>rfl
 |p::m,k,v=>by unfold ig cO;by_cases h:k=p.1;rw[ai h,ai h];simp[h];rw[af h,af h,lF,HZ m k v];split<;>simp
def Qi (m:List (κ×ν))(k:κ)(v:ν)(h:(m.map Prod.fst).Nodup):((ig m k v).map Prod.fst).Nodup:=by rw[HZ];split;exact h;rename_i c;rw[vD];refine⟨h,aq,λa ha b hb e=>?_⟩;rw[gI] at hb;subst hb;subst e;exact c ((yN m a).2 ha)
end
def YA (p:List cB)(q:ot)(k:Nat):Bool:=match Jh q (p.getD k fp).id with
 |none=>U
 |some t=>(q.getD t nG).ej
def cN (p:List cB)(i:Nat)(z:aw):Nat:=(List.range i).countP λj=>decide (1<=j)&&decide ((bS (p.getD j fp).ar).1=z)
def cL (p:List cB)(i:Nat)(n:Int):Nat:=(List.range i).countP λj=>decide ((p.getD j fp).id=n)
def JV (p:List cB)(i:Nat)(n:Int):cL p (i+1) n=cL p i n+if(p.getD i fp).id=n then 1 else 0:=by unfold cL;rw[xN,Ag,acz];simp
def BW (p:List cB)(i:Nat)(z:aw):cN p (i+1) z=cN p i z+if 1<=i/\(bS (p.getD i fp).ar).1=z then 1 else 0:=by unfold cN;rw[xN,Ag,acz];simp
def NmC (p:List cB)(q:ot)(i:Nat):Prop:=
 (Jh q (p.getD i fp).id).isSome=J/\(1<=i->bP (p.getD (i-1) fp).ar (p.getD i fp).ar=J/\(∃k,k<i/\(p.getD k fp).ar=(bS (p.getD i fp).ar).1/\YA p q k=J)/\bG (bS (p.getD i fp).ar).2=J/\cN p (i+1) (bS (p.getD i fp).ar).1<=12)/\cL p (i+1) (p.getD i fp).id<=9/\(YA p q i=J->cL p (i+1) (p.getD i fp).id<=1)
structure D4 (p:List cB)(q:ot)(i:Nat)(A:Acc):Prop where
 li:∀n,(cO A.li n).getD 0=(cL p i n:Int)
 lk:∀n,n∈A.li.map Prod.fst↔∃j,j<i/\(p.getD j fp).id=n
 ln:(A.li.map Prod.fst).Nodup
 xB:∀z,(cO A.xB z).getD 0=(cN p i z:Int)
 fo:∀z,(cO A.fo z).getD false=true↔∃k,k<i/\(p.getD k fp).ar=z/\YA p q k=true
 so:∀j,1<=j->j<i->bP (p.getD (j-1) fp).ar (p.getD j fp).ar=true
def ade {p:List cB}{i:Nat}(h:∀j,1<=j->j<i->bP (p.getD (j-1) fp).ar (p.getD j fp).ar=J):∀(n a:Nat),a+n+1<i->bP (p.getD a fp).ar (p.getD (a+n+1) fp).ar=J
 |0,a,hl=>h (a+1) aa hl
 |n+1,a,hl=>fW _ _ _ (ade h n a aa) (h (a+n+2) aa hl)
def agu {p:List cB}{i:Nat}(h:∀j,1<=j->j<i->bP (p.getD (j-1) fp).ar (p.getD j fp).ar=J){a b:Nat}(c:a<b)(hb:b<i):(p.getD a fp).ar≠(p.getD b fp).ar:=by have:=ade h (b-a-1) a aa;rw[show a+(b-a-1)+1=b by omega] at this;exact rH this
def Qj {p:List cB}{q:ot}{i:Nat}{A:Acc}{t:Nat}(ht:Jh q (p.getD i fp).id=C t)(b:∀n,(cO A.li n).getD 0=(cL p i n:Int)):
  M8 (p.getD i fp) (q.getD t nG).ej A=if cL p (i+1) (p.getD i fp).id<=9/\(YA p q i=J->cL p (i+1) (p.getD i fp).id<=1) then C ⟨ig A.li (p.getD i fp).id (cL p (i+1) (p.getD i fp).id:Int),A.xB,ig A.fo (p.getD i fp).ar (YA p q i)⟩ else O:=by
 have a:YA p q i=(q.getD t nG).ej:=by unfold YA;rw[ht]
 have hc:(cO A.li (p.getD i fp).id).getD 0+1=(cL p (i+1) (p.getD i fp).id:Int):=by rw[b,JV,ai rfl];omega
 unfold M8;rw[hc,lu,ai rfl,<-a];show(if 9<(cL p (i+1) (p.getD i fp).id:Int)\/_ then _ else _)=_;by_cases h:cL p (i+1) (p.getD i fp).id<=9/\(YA p q i=J->cL p (i+1) (p.getD i fp).id<=1);rw[ai h,af];rintro(c|⟨c,d⟩);have:=h.1;omega;have d:(1:Int)<(cL p (i+1) (p.getD i fp).id:Int):=d;have:=h.2 c;omega;rw[af h,ai];refine B6 λhn=>h ⟨?_,λhf=>?_⟩;refine B6 λe=>hn (.inl aa);refine B6 λe=>hn (.inr ⟨hf,?_⟩);show(1:Int)<(cL p (i+1) (p.getD i fp).id:Int);omega
def H2 {p:List cB}{q:ot}{i:Nat}{A:Acc}{xB:List (aw×Int)}(h:D4 p q i A)(d:∀z,(cO xB z).getD 0=(cN p (i+1) z:Int))(o:1<=i->bP (p.getD (i-1) fp).ar (p.getD i fp).ar=J):
  D4 p q (i+1) ⟨ig A.li (p.getD i fp).id (cL p (i+1) (p.getD i fp).id:Int),xB,ig A.fo (p.getD i fp).ar (YA p q i)⟩:=by
 have b:∀j,1<=j->j<i+1->bP (p.getD (j-1) fp).ar (p.getD j fp).ar=J:=λj c a=>by by_cases l:j=i;subst l;exact o c;exact h.so j c aa
 refine⟨λn=>?_,λn=>?_,Qi _ _ _ h.ln,d,λz=>?_,b⟩;show(cO (ig A.li _ _) n).getD 0=_;rw[lu];by_cases hn:n=(p.getD i fp).id;rw[ai hn,hn];rfl;rw[af hn,h.li,JV,af (λe=>hn e.symm)];rfl;show n∈(ig A.li _ _).map Prod.fst↔_;rw[<-yN,lu];by_cases hn:n=(p.getD i fp).id;rw[ai hn];exact⟨λ_=>⟨i,aa,hn.symm⟩,λ_=>rfl⟩;rw[af hn,yN,h.lk];constructor;rintro⟨j,c,a⟩;exact⟨j,aa,a⟩;rintro⟨j,c,a⟩;by_cases l:j=i;subst l;exact absurd a.symm hn;exact⟨j,aa,a⟩;show(cO (ig A.fo _ _) z).getD U=J↔_;rw[lu];by_cases f:z=(p.getD i fp).ar;rw[ai f];constructor;intro hf;exact⟨i,aa,f.symm,hf⟩;rintro⟨k,c,a,g⟩;by_cases m:k=i;subst m;exact g;exact absurd (a.trans f) (agu b (show k<i by omega) aa);rw[af f,h.fo];constructor;rintro⟨k,c,a⟩;exact⟨k,aa,a⟩;rintro⟨k,c,a,g⟩;by_cases m:k=i;subst m;exact absurd a.symm f;exact⟨k,aa,a,g⟩
def D5 {p:List cB}{q:ot}{i:Nat}{A:Acc}(h:D4 p q i A):
  (NmC p q i->∃k,D1 p q i A=C k/\D4 p q (i+1) k)/\(¬NmC p q i->D1 p q i A=O):=by
 unfold D1;cases ht:Jh q (p.getD i fp).id with
 |none=>exact⟨λhc=>(by have:=hc.1;rw[ht] at this;cases this),λ_=>rfl⟩
 |some t=>
  dsimp only;have f:=λ(xB:List (aw×Int))=>Qj (A:=⟨A.li,xB,A.fo⟩) ht h.li;by_cases hi:0<i;by_cases b:bP (p.getD (i-1) fp).ar (p.getD i fp).ar=J;rw[af (λe=>by rw[b] at e;cases e.2),ai hi];unfold iIn;(have hc:(cO A.xB (bS (p.getD i fp).ar).1).getD 0+1=(cN p (i+1) (bS (p.getD i fp).ar).1:Int):=by rw[h.xB,BW,ai ⟨hi,rfl⟩];omega);rw[hc];by_cases a:(cO A.fo (bS (p.getD i fp).ar).1).getD U=U\/bG (bS (p.getD i fp).ar).2=U;rw[ai a];refine⟨λhn=>?_,λ_=>rfl⟩;obtain⟨_,j,c,_⟩:=hn.2.1 hi;obtain a|a:=a;rw[(h.fo _).2 j] at a;cases a;rw[c] at a;cases a;rw[af a,lu,ai rfl];have j:=(h.fo (bS (p.getD i fp).ar).1).1 (by cases hb:(cO A.fo (bS (p.getD i fp).ar).1).getD U with|true=>rfl|false=>exact absurd (.inl hb) a);(have c:bG (bS (p.getD i fp).ar).2=J:=by cases hb:bG (bS (p.getD i fp).ar).2 with|true=>rfl|false=>exact absurd (.inr hb) a);simp only[lI];by_cases d:cN p (i+1) (bS (p.getD i fp).ar).1<=12;rw[af aa];dsimp only;rw[f];by_cases hl:cL p (i+1) (p.getD i fp).id<=9/\(YA p q i=J->cL p (i+1) (p.getD i fp).id<=1);rw[ai hl];refine⟨λ_=>⟨_,rfl,H2 (A:=A) h (λz=>?_) λ_=>b⟩,λhn=>absurd ⟨by rw[ht];rfl,λ_=>⟨b,j,c,d⟩,hl⟩ hn⟩;rw[lu];by_cases g:z=(bS (p.getD i fp).ar).1;rw[ai g,g];rfl;rw[af g,h.xB,BW,af (λe=>g e.2.symm)];rfl;rw[af hl];exact⟨λhn=>absurd hn.2.2 hl,λ_=>rfl⟩;rw[ai aa];exact⟨λhn=>absurd (hn.2.1 hi).2.2.2 d,λ_=>rfl⟩;rw[ai ⟨hi,by simpa using b⟩];exact⟨λhn=>absurd (hn.2.1 hi).1 b,λ_=>rfl⟩
  rw[af (λe=>hi e.1),af hi];dsimp only;rw[f];by_cases hl:cL p (i+1) (p.getD i fp).id<=9/\(YA p q i=J->cL p (i+1) (p.getD i fp).id<=1);rw[ai hl];refine⟨λ_=>⟨_,rfl,H2 h (λz=>?_) λe=>absurd e hi⟩,λhn=>absurd ⟨by rw[ht];rfl,λe=>absurd e hi,hl⟩ hn⟩;rw[h.xB,BW,af (λe=>hi e.1)];rfl;rw[af hl];exact⟨λhn=>absurd hn.2.2 hl,λ_=>rfl⟩
def YB {p:List cB}{q:ot}:∀(n i:Nat)(A:Acc),D4 p q i A->
  ((∀j,i<=j->j<i+n->NmC p q j)->∃b,Z6 p q n i A=C b/\D4 p q (i+n) b)/\((∃j,i<=j/\j<i+n/\¬NmC p q j)->Z6 p q n i A=O)
 |0,i,A,h=>⟨λ_=>⟨A,rfl,h⟩,λ⟨j,f,g,_⟩=>by omega⟩
 |n+1,i,A,h=>by have hs:=D5 h;unfold Z6;by_cases hc:NmC p q i;obtain⟨b,f,g⟩:=hs.1 hc;rw[f];have ih:=YB n (i+1) b g;refine⟨λa=>?_,λ⟨j,d,e,k⟩=>ih.2 ⟨j,?_,aa,k⟩⟩;obtain⟨c,d,e⟩:=ih.1 λj d e=>a j aa aa;exact⟨c,d,by rw[show i+(n+1)=i+1+n by omega];exact e⟩;by_cases l:j=i;subst l;exact absurd hc k;omega;rw[hs.2 hc];exact⟨λa=>absurd (a i (fG _) aa) hc,λ_=>rfl⟩
def YC (p:List cB)(q:ot):D4 p q 0 ⟨[],[],[]⟩:=
 ⟨λn=>rfl,λn=>⟨λh=>(by cases h),λ⟨j,h,_⟩=>aa⟩,ta,λz=>rfl,λz=>⟨λh=>(by cases h),λ⟨j,h,_⟩=>aa⟩,λj a b=>by omega⟩
variable {i j t:Nat}{q:ot}
def zQ {α:Type}(P:α->Bool)(d:α):∀l:List α,(List.range (Y l)).countP (λj=>P (l.getD j d))=l.countP P
 |[]=>rfl
 |x::l=>by rw[fS,List.range_succ_eq_map,tF,List.countP_map,tF,<-zQ P d l];rfl
def Sx (p:List cB)(n:Int)(h:i<=j):cL p i n<=cL p j n:=by
 induction j with
 |zero=>rw[show i=0 by omega];exact fG _
 |succ j ih=>by_cases hi:i=j+1;rw[hi];exact fG _;have:=ih aa;rw[JV];omega
def abv (p:List cB)(z:aw)(h:i<=j):cN p i z<=cN p j z:=by
 induction j with
 |zero=>rw[show i=0 by omega];exact fG _
 |succ j ih=>by_cases hi:i=j+1;rw[hi];exact fG _;have:=ih aa;rw[BW];omega
structure OkF (f:Flat):Prop where
 tl:fI f.aB.length 1 16=true
 t0:(f.aB.getD 0 nG).id=0
 tf:(f.aB.getD 0 nG).ej=true
 tb:∀i,i<f.aB.length->tB f.aB i=true
 n0:f.names.length≠0
 nr:f.names.getD 0 fp=⟨[47],0⟩
 nm:∀i,i<f.names.length->NmC f.names f.aB i
 al:∀i,i<f.aB.length->∃j,j<f.names.length/\(f.names.getD j fp).id=(f.aB.getD i nG).id
def rZ {α:Type}[BEq α][LawfulBEq α]:∀(xs l:List α),xs.Nodup->(∀x∈xs,x∈l)->Y xs<=Y l
 |[],l,_,_=>jl _
 |x::xs,l,h,hs=>by have a:=hs x ed;have hn:=tM.1 h;have:=rZ xs (l.erase x) hn.2 λy b=>(List.mem_erase_of_ne (show y≠x from λe=>hn.1 (by rw[<-e];exact b))).2 (hs y (dI _ b));have c:=V3 a;rw[List.length_erase_of_mem a] at this;rw[fS];omega
def gX {α:Type}{l:List α}(d:α)(h:i<Y l):l.getD i d∈l:=by rw[eX,c8 h];exact B5 h
def YD {n:Int}(h:Jh q n=C t):t<Y q/\(q.getD t nG).id=n:=by obtain⟨a,b,_⟩:=Ae.1 h;refine⟨a,?_⟩;rw[eX,c8 a];simpa using b
def aej (hs:nM q)(h:t<Y q):Jh q (q.getD t nG).id=C t:=by refine nU (d:=nG) h aq λj a e=>?_;have:=uq hs nG a h;rw[gv] at e;omega
def Sy {f:Flat}{A:Acc}(l:D4 f.names f.aB (Y f.names) A)(hs:nM f.aB)(hn:∀i,i<Y f.names->(Jh f.aB (f.names.getD i fp).id).isSome=J):
  (Y A.li)=Y f.aB↔∀i,i<Y f.aB->∃j,j<Y f.names/\(f.names.getD j fp).id=(f.aB.getD i nG).id:=by
 have d:∀n∈A.li.map Prod.fst,n∈f.aB.map eF.id:=λn hm=>by obtain⟨j,o,rfl⟩:=(l.lk n).1 hm;obtain⟨t,ht⟩:=sj.1 (hn j o);obtain⟨r,g⟩:=YD ht;exact qj.2 ⟨_,gX nG r,g⟩
 have mU:(f.aB.map eF.id).Nodup:=by rw[Gn,Af];exact hs.imp λ{a b} h e=>by omega
 have hle:=rZ _ _ l.ln d;rw[fH,fH] at hle;constructor;intro u i hi;refine B6 λp=>?_;have hm:(f.aB.getD i nG).id∈f.aB.map eF.id:=qj.2 ⟨_,gX nG hi,rfl⟩;have g:∀n∈A.li.map Prod.fst,n∈(f.aB.map eF.id).erase (f.aB.getD i nG).id:=λn c=>by refine(List.mem_erase_of_ne λe=>p ?_).2 (d n c);obtain⟨j,o,k⟩:=(l.lk n).1 c;exact⟨j,o,k.trans e⟩
 have k:=rZ _ _ l.ln g;rw[List.length_erase_of_mem hm,fH,fH] at k;omega;intro m;have g:=rZ (f.aB.map eF.id) (A.li.map Prod.fst) mU λn c=>by obtain⟨x,s,rfl⟩:=qj.1 c;obtain⟨i,hi,rfl⟩:=si s;obtain⟨j,o,k⟩:=m i hi;refine(l.lk _).2 ⟨j,o,k.trans ?_⟩;rw[eX,c8 hi];rfl
 rw[fH,fH] at g;omega
def abw (f:Flat):iok f=J↔OkF f:=by
 unfold iok;simp only[ep,gv,o5,B4];have g:=YB (Y f.names) 0 ⟨[],[],[]⟩ (YC f.names f.aB);rw[kz] at g;constructor;rintro⟨⟨⟨⟨⟨⟨l,m⟩,n⟩,k⟩,o⟩,p⟩,d⟩;have a:∀j,j<Y f.names->NmC f.names f.aB j:=λj e=>B6 λhn=>by rw[g.2 ⟨j,aa,e,hn⟩] at d;cases d
 obtain⟨A,b,c⟩:=g.1 λj _ e=>a j e;rw[b] at d;have d:Y A.li=Y f.aB:=by simpa using d
 exact⟨l,o,p,k,m,n,a,(Sy c (JU k) λi hi=>(a i hi).1).1 d⟩;intro h;obtain⟨A,b,c⟩:=g.1 λj _ e=>h.nm j e;rw[b];refine⟨⟨⟨⟨⟨⟨h.tl,h.n0⟩,h.nr⟩,h.tb⟩,h.t0⟩,h.tf⟩,?_⟩;simpa using(Sy c (JU h.tb) λi hi=>(h.nm i hi).1).2 h.al
def UP (q:ot)(k:Int):Bool:=match Jh q k with
 |none=>U
 |some t=>(q.getD t nG).ej
def UQ (p:List cB)(k:Int):Nat:=p.countP λx=>decide (x.id=k)
variable {l:ot}
def xj:∀(a b:List cB),rI a->rI b->(∀x,x∈a↔x∈b)->a=b
 |[],[],_,_,_=>rfl
 |[],y::b,_,_,h=>by have:=(h y).2 ed;cases this
 |x::a,[],_,_,h=>by have:=(h x).1 ed;cases this
 |x::a,y::b,ha,hb,h=>by
  obtain⟨c,k⟩:=qQ.1 ha;obtain⟨d,m⟩:=qQ.1 hb;have n:x=y:=by obtain e|e:=cA.1 ((h x).1 ed);exact e;rcases cA.1 ((h y).2 ed) with g|g;exact g.symm;have o:=d x e;have p:=c y g;have:=fW _ _ _ o p;rw[kg] at this;cases this
  subst n;congr 1;refine xj a b k m λz=>⟨λf=>?_,λf=>?_⟩;rcases cA.1 ((h z).1 (dI _ f)) with e|e;subst e;have:=c z f;rw[kg] at this;cases this;exact e
  rcases cA.1 ((h z).2 (dI _ f)) with e|e;subst e;have:=d z f;rw[kg] at this;cases this;exact e
def D6:∀(a b:ot),nM a->nM b->(∀x,x∈a↔x∈b)->a=b
 |[],[],_,_,_=>rfl
 |[],y::b,_,_,h=>by have:=(h y).2 ed;cases this
 |x::a,[],_,_,h=>by have:=(h x).1 ed;cases this
 |x::a,y::b,ha,hb,h=>by
  obtain⟨c,k⟩:=qQ.1 ha;obtain⟨d,m⟩:=qQ.1 hb;have n:x=y:=by obtain e|e:=cA.1 ((h x).1 ed);exact e;rcases cA.1 ((h y).2 ed) with g|g;exact g.symm;have o:=d x e;have p:=c y g;omega
  subst n;congr 1;refine D6 a b k m λz=>⟨λf=>?_,λf=>?_⟩;rcases cA.1 ((h z).1 (dI _ f)) with e|e;subst e;have:=c z f;omega;exact e
  rcases cA.1 ((h z).2 (dI _ f)) with e|e;subst e;have:=d z f;omega;exact e
def D7 (x:cB):∀(l:List cB)(y:cB),y∈Ev.uo x l↔y=x\/y∈l
 |[],y=>by simp[Ev.uo]
 |z::l,y=>by unfold Ev.uo;split;simp;rw[cA,D7 x l,cA];constructor;rintro(h|h|h);exact .inr (.inl h);exact .inl h;exact .inr (.inr h);rintro(h|h|h);exact .inr (.inl h);exact .inl h;exact .inr (.inr h)
def D8 (x:eF):∀(l:ot)(y:eF),y∈Ev.FF x l↔y=x\/y∈l
 |[],y=>by simp[Ev.FF]
 |z::l,y=>by unfold Ev.FF;split;simp;rw[cA,D8 x l,cA];constructor;rintro(h|h|h);exact .inr (.inl h);exact .inl h;exact .inr (.inr h);rintro(h|h|h);exact .inr (.inl h);exact .inl h;exact .inr (.inr h)
def H3 (x:cB):∀(l:List cB),rI l->(∀y∈l,y.ar≠x.ar)->rI (Ev.uo x l)
 |[],_,_=>KH _ _
 |z::l,h,hn=>by
  obtain⟨d,e⟩:=qQ.1 h;unfold Ev.uo;split;rename_i a;exact qQ.2 ⟨λy b=>by obtain rfl|b:=cA.1 b;exact a;exact fW _ _ _ a (d y b),h⟩;rename_i a;have c:bP z.ar x.ar=J:=by
   cases hb:bP z.ar x.ar with
   |true=>rfl
   |false=>exact absurd (mF _ _ hb (by simpa using a)) (hn z ed)
  refine qQ.2 ⟨λy b=>?_,H3 x l e λy b=>hn y (dI _ b)⟩;rcases(D7 x l y).1 b with rfl|b;exact c;exact d y b
def H4 (x:eF):∀(l:ot),nM l->(∀y∈l,y.id≠x.id)->nM (Ev.FF x l)
 |[],_,_=>KH _ _
 |z::l,h,hn=>by obtain⟨c,d⟩:=qQ.1 h;unfold Ev.FF;split;rename_i b;exact qQ.2 ⟨λy a=>by obtain rfl|a:=cA.1 a;exact b;have:=c y a;omega,h⟩;rename_i b;have e:=hn z ed;refine qQ.2 ⟨λy a=>?_,H4 x l d λy a=>hn y (dI _ a)⟩;rcases(D8 x l y).1 a with rfl|a;omega;exact c y a
def lA:∀(l:List cB)(y:cB),y∈Ev.lW l↔y∈l
 |[],y=>Iff.rfl
 |x::l,y=>by show y∈Ev.uo x (Ev.lW l)↔_;rw[D7,lA l,cA]
def lB:∀(l:ot)(y:eF),y∈Ev.AA l↔y∈l
 |[],y=>Iff.rfl
 |x::l,y=>by show y∈Ev.FF x (Ev.AA l)↔_;rw[D8,lB l,cA]
def sS:∀(l:List cB),(l.map cB.ar).Nodup->rI (Ev.lW l)
 |[],_=>KM
 |x::l,h=>by rw[lF,tM] at h;exact H3 x _ (sS l h.2) λy a e=>h.1 (qj.2 ⟨y,(lA l y).1 a,e⟩)
def xk:∀(l:ot),(l.map eF.id).Nodup->nM (Ev.AA l)
 |[],_=>KM
 |x::l,h=>by rw[lF,tM] at h;exact H4 x _ (xk l h.2) λy a e=>h.1 (qj.2 ⟨y,(lB l y).1 a,e⟩)
def rI.nodup {l:List cB}(h:rI l):(l.map cB.ar).Nodup:=by rw[Gn,Af];exact h.imp λ{a b} h=>rH h
def nM.nodup (h:nM l):(l.map eF.id).Nodup:=by rw[Gn,Af];exact h.imp λ{a b} h e=>by omega
def YE {l:List cB}(h:rI l):Ev.lW l=l:=xj _ _ (sS l h.nodup) h λx=>lA l x
def YF (h:nM l):Ev.AA l=l:=D6 _ _ (xk l h.nodup) h λx=>lB l x
end Go.Pl
namespace Go.Pl
open Go Go.Ev Go.Lg Go.Proofs
def uS (c:UInt8):Bool:=decide (c.toNat<97)||decide (122<c.toNat)
def Qk (s:St)(c:UInt8):bM 60 [I .i32 (c.toNat:Int)] s [] (M (uS c)):=by
 refine a8 f60 ?_;refine' eR;all_goals refine' aC
 show Value.bool (decide ((122:Int)<c.toNat))=_;refine congrArg Value.bool ?_;unfold uS;rw[kX (by omega:¬c.toNat<97),Bool.false_or,tT];omega;show Value.bool J=_;refine congrArg Value.bool ?_;unfold uS;rw[gZ (by omega:c.toNat<97)];rfl
def M9 (s:St)(r:Nat)(h:128<=r):bM 60 [I .i32 (r:Int)] s [] (M J):=by
 refine a8 f60 ?_;refine' eR;all_goals refine' aC
 show Value.bool (decide ((122:Int)<r))=_;refine congrArg Value.bool ?_;rw[gv];omega;rfl
def JW (s:St)(z:aw)(w:Y z<=100000):bM 113 [sv z,.func (.func 60) ⟨[]⟩ ⟨[]⟩,M J] s [] (iv (oI (z.findIdx? uS))):=by
 refine a8 f113 ?_;(repeat' first|(apply TU;exact bN;intro t _)|refine' eI|fail);refine W.bu (λm l L=>∃(p b:Nat),Le [(0,sv z),(1,.func (.func 60) ⟨[]⟩ ⟨[]⟩),(2,M J),(10,bk b)] l/\cb [.iC b (.ji z p)] L/\m=Y z-p/\p<=Y z/\∀j:Nat,j<p->uS (z.getD j 0)≠J)
  (λl L=>Le [] l/\cb [] L/\z.findIdx? uS=O) _ ⟨0,_,bd,ak,rfl,aa,λj u=>by omega⟩ ?_ ?_
 .rintro m l L ⟨p,b,hl,i,rfl,v,c⟩;refine' cP;by_cases g:p<Y z
  .by_cases a:(z.getD p 0).toNat<128
   ·(repeat' first|(apply TV;exact bN;exact FO;assumption;assumption;intro _)|refine' zC|(apply ag;exact aj;exact λs=>Qk s _;intros)|refine' cY|fail);have e:z.findIdx? uS=C p:=nU g ki c;refine' aC;rw[e];rfl;refine⟨_,aa,p+1,b,bd,ak,rfl,aa,λj n=>?_⟩;by_cases f:j=p;subst f;intro k;rw[k] at hc;cases hc;exact c j aa
   (have a:128<=(z.getD p 0).toNat:=by omega);(have d:uS (z.getD p 0)=J:=by unfold uS;rw[gZ (by omega:122<(z.getD p 0).toNat),KK]);have e:z.findIdx? uS=C p:=nU g d c;(repeat' first|(apply TW;exact bN;exact Bn;assumption;assumption;intro _ x r)|refine' zC|(apply ag;exact aj;exact λs=>M9 s _ aT;intros)|refine' cY|fail);(all_goals refine' aC);all_goals(rw[e];rfl)
  have o:Y z<=p:=by omega
  (have e:z.findIdx? uS=O:=yb 0 λj n=>c j aa);(repeat' first|(apply TX;exact bN;exact kD;assumption;intro _)|refine' cY|fail);all_goals exact⟨bd,ak,e⟩
 rintro l L ⟨hl,i,c⟩;refine' gh;rw[c];refine' qcx
def JX (s:St)(z:aw)(a:Y z<=100000):bM 59 [sv z,.func (.func 60) ⟨[]⟩ ⟨[]⟩] s [] (iv (oI (z.findIdx? uS))):=by refine a8 f59 ?_;(repeat' first|(apply ag;exact aj;exact λs=>JW s _ aa;intros)|refine' Ux|fail)
def H5 (s:St)(z:aw)(e:Y z<=100000):bM 25 [sv z] s [] (M (bG z)):=by
 have hb:(oI (z.findIdx? uS)<0)↔z.all (λc=>decide (97<=c.toNat)&&decide (c.toNat<=122))=J:=by
  rw[o5];cases h:z.findIdx? uS with
  |none=>rw[V4] at h;refine⟨λ_ c hc=>?_,λ_=>by decide⟩;have:=h c hc;unfold uS at this;simp at this⊢;omega
  |some i=>obtain⟨d,b,_⟩:=Ae.1 h;refine⟨λhi=>absurd hi (by show ¬(i:Int)<0;omega),λa=>?_⟩;have:=a _ (B5 d);unfold uS at b;simp at this b;omega
 refine a8 f25 ?_;(repeat' first|refine' uH|(apply ag;exact aj;exact λs=>JX s _ aa;intros)|refine' cY|fail);all_goals refine' aC
 show Value.bool (decide (oI (z.findIdx? uS)<0))=_;refine congrArg Value.bool ?_;unfold bG;rwa[gZ (by omega:1<=Y z),gZ (by omega:Y z<=4),KR,KR,o6,gv];show Value.bool U=_;refine congrArg Value.bool ?_;unfold bG;rw[Bool.and_assoc,show(decide (1<=Y z)&&decide (Y z<=4))=U by simp at sN⊢;omega,GJ]
def DL (s:St)(z:aw)(a:Y z<=100000)(ha:∀c∈z,c.toNat<128):bM 25 [sv z] s [] (M (bG z)):=H5 s z a
variable {E:hJ}{X:fb}{Γ:ng}{l:Kn}{L R:cq}{K:KO}
abbrev tq (a:aP)(c:Nat)(p:List cB)(a':aP)(c':Nat)(q:ot):aV:=[H a (Y p) c,H a' (Y q) c']
def Uh {E:hJ}{X:fb}{Γ:ng}{l:Kn}{L:cq}{K:KO}{x:Operand}{t:TypeId}{b off m n sz:Nat}{cs r:aV}[ht:vL E t m](p:Ev l x (.pointer (C ⟨b,off,O⟩)))(j:Rd Γ (ko b) n sz cs)(hv:gE m (Go.Ev.fJ off cs)=C r)(k:∀n,K (.agg ⟨r⟩) L n n (λi=>i∈ah (ko b)) Z):WO E X Γ l (.load t x) L K:=λu s d a=>by obtain⟨hr,hm⟩:=(ga.rd (L:=L) j).row a;obtain⟨_,⟨rfl,hc|⟨b',o,q,hc,_⟩⟩|⟨b',o,c,e,w,hc,f,g,h⟩⟩:=hr;cases hc;cases hc;cases hc;refine eM.pure (v:=.agg ⟨r⟩) (s':=s.aL b) (λcall=>?_) ⟨L,(λi=>i∈ah (ko b)),Z,a.aL (hm b (by simp[ah])),cH f (by simp[ah]),by rw[bh];exact k _⟩;show tU E s t (aM u x)=_;rw[p.eval d];have:=vX h hv;rw[kz] at this;exact vi g this
def Ui {E:hJ}{X:fb}{Γ:ng}{l:Kn}{L:cq}{K:KO}{x:Operand}{t:TypeId}{b off n sz:Nat}{cs:aV}{v:Value}[ht:j7 E t](m:Ev l x (.pointer (C ⟨b,off,O⟩)))(j:Rd Γ (ko b) n sz cs)(hv:cs[off]?=C v)(k:∀n,K v L n n (λi=>i∈ah (ko b)) Z):WO E X Γ l (.load t x) L K:=λp s d a=>by obtain⟨hr,hm⟩:=(ga.rd (L:=L) j).row a;obtain⟨_,⟨rfl,hc|⟨b',o,q,hc,_⟩⟩|⟨b',o,c,e,w,hc,f,g,h⟩⟩:=hr;cases hc;cases hc;cases hc;refine eM.pure (v:=v) (s':=s.aL b) (λcall=>?_) ⟨L,(λi=>i∈ah (ko b)),Z,a.aL (hm b (by simp[ah])),cH f (by simp[ah]),by rw[bh];exact k _⟩;show tU E s t (aM p x)=_;rw[m.eval d];have:=AD h hv;rw[kz] at this;exact pN g this
def Mg {x:Operand}{a:Addr}(b:Ev l x (.pointer (C a)))(k:∀n,K (.pointer (C a)) L n n Z Z):WO E X Γ l (.nilCheck x) L K:=jw (λc s call hl=>by show K2 E (aM c x) s=_;rw[b.eval hl];rfl) k
end Go.Pl
