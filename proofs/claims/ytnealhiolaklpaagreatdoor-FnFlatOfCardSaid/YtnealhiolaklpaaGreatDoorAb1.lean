/- Lemmas of the proof. No conditions. -/
import Derived.Test.YtnealhiolaklpaaGreatDoorAa1
set_option maxRecDepth 100000
set_option maxHeartbeats 4000000
set_option linter.all false
open Bool renaming false->U,true->J
open Option renaming none->O,some->C
open List renaming length->Y
open Go.Value renaming slice->H,bool->M,int->I
open Nat (beq ble mul)
open Go.Result (andThen_ok)
open Go.Sem (run_bind)
open Go.Region (binds)
open List (replicate)
open Int (toNat)
open Go.Builtin (firstCells)
open Go.Instr (checkKey)
namespace Go
variable{P:Prop}
def zaD (h:P:=by
 rw[hf];show(vU X f args s<| match fn.body with
   |none=>OX X f args s
   |some c=>bo (beq f X.look) (GP args s)<| dq (ble (dJ args) fn.ntmps)<| RC E fn (lS E (qv E X lf [] n) lf c (k9 args (nat_lit 0) .nil) s))=_
 all_goals obtain h:=_;exact h):P:=h
def zaE (h:P:=by
 have BD:∀call:gw,IP E call (aM tm) s (.slice t x lo ‹Option Operand› none)=some (.slice a' q.length c',s'):=λcall=>by show fX E s t (aM tm x) _ _ none=_;rw[hx.eval hl,h2,cg]
 rcases h3 with rfl|⟨b,ZU,rfl⟩;all_goals obtain h:=_;exact h):P:=h
def zaO (h:P:=by cases dM h2;exact⟨hb1.1,λX A ρ w a Q hp ma ht hQ=>CD (hb1.2 X A ρ w a _ hp ma ht hQ)⟩;all_goals obtain h:=_;exact h):P:=h
def zaQ (h:P:=by cases dM h2;exact⟨hc.1,λX A ρ w a Q hp ma ht hQ=>wp_block (hc.2 X A ρ w a _ hp ma ht hQ)⟩;all_goals obtain h:=_;exact h):P:=h
def zaS (h:P:=by cases dM h2;exact⟨hx.1,λX A ρ w a Q hp ma ht hQ=>wp_seq (hx.2 X A ρ w a _ hp ma ht hQ)⟩;all_goals obtain h:=_;exact h):P:=h
def zaT (h:P:=by have h1:=h.1;have h2:=h.2;unfold IntKind.wrap;simp[IntKind.signed,IntKind.bits];omega;all_goals obtain h:=_;exact h):P:=h
end Go
namespace Go.Ev
open Go
variable {aE:List Oper}{E:hJ}{P:Program}{call:gw}
def CE (cC:Array Nat):∀(es:List Edge)(m:Nat)(i:Nat),(es.foldl (λs e=>if binds .any e then s||| 2^ e.on||| cC.getD e.on 0 else s) m).testBit i=J->
  m.testBit i=J\/∃e∈es,binds .any e=J/\(i=e.on\/(cC.getD e.on 0).testBit i=J)
 |[],m,i,h=>.inl h
 |e::es,m,i,h=>by rw[xE] at h;obtain a|⟨b,d,hb,c⟩:=CE cC es _ i h;split at a;rename_i hb;simp only[Nat.testBit_or,km] at a;obtain(a|a)|a:=a;exact .inl a;rw[Nat.testBit_two_pow] at a;exact .inr ⟨e,aq,hb,.inl (vR a).symm⟩;exact .inr ⟨e,aq,hb,.inr a⟩;exact .inl a;exact .inr ⟨b,by simp[d],hb,c⟩
def anc (aE:List Oper)(j k:Nat):Prop:=∀L:Nat->Bool,sF ⟨aE⟩ L->(∀a,aE[j]?=C a->∀e∈a.after,binds .any e=J->L e.on=J)->L k=J
def Az (p:∀j c,aE[j]?=C c->∀e∈c.after,binds .any e=J->e.on<j)(L:Nat->Bool)(B:sF ⟨aE⟩ L):∀(l:List Oper)(cC:Array Nat),(∃pre,aE=pre++l/\Y pre=cC.size)->
  (∀j c,j<cC.size->aE[j]?=C c->(∀e∈c.after,binds .any e=J->L e.on=J)->∀i,(cC.getD j 0).testBit i=J->L i=J)->
  ∀j c,aE[j]?=C c->(∀e∈c.after,binds .any e=J->L e.on=J)->∀i,((l.foldl (λcC o=>cC.push (o.after.foldl (λs e=>if binds .any e then s||| 2^ e.on||| cC.getD e.on 0 else s) 0)) cC).getD j 0).testBit i=J->L i=J
 |[],cC,⟨pre,m,r⟩,a,j,c,t,ha,i,hi=>by
  simp only[fT] at m;subst m;have b:j<cC.size:=by rw[<-r];exact(qS.1 t).1
  exact a j c b t ha i hi
 |o::l,cC,⟨pre,m,r⟩,a,j,c,t,ha,i,hi=>by
  rw[xE] at hi;refine Az p L B l _ ⟨pre++[o],by rw[m];simp,by simp[r]⟩ (λq A x d h F f=>?_) j c t ha i hi;have D:aE[cC.size]?=C o:=by rw[m,<-r];simp
  obtain b|N:=jc q cC.size;(have:(cC.push (o.after.foldl (λs e=>if binds .any e then s||| 2^ e.on||| cC.getD e.on 0 else s) 0)).getD q 0=cC.getD q 0:=by simp[Array.getElem?_push,Nat.ne_of_lt b]);rw[this] at f;exact a q A b d h F f;have y:q=cC.size:=by simp at x;omega
  subst y;rw[D] at d;cases d;have:(cC.push (o.after.foldl (λs e=>if binds .any e then s||| 2^ e.on||| cC.getD e.on 0 else s) 0)).getD cC.size 0=o.after.foldl (λs e=>if binds .any e then s||| 2^ e.on||| cC.getD e.on 0 else s) 0:=by simp
  rw[this,<-Array.foldl_toList] at f;obtain n|⟨e,K,hb,n⟩:=CE cC _ _ _ f;simp at n;have k:e∈o.after:=by simpa using K
  obtain rfl|n:=n;exact h e k hb;have z:=p _ _ D e k hb;have g:∃u,aE[e.on]?=C u:=by (have:e.on<Y aE:=by rw[m];simp;omega);exact⟨aE[e.on],c8 this⟩
  obtain⟨u,g⟩:=g;exact a e.on u z g (λG w v=>B e.on u (by simpa using g) (h e k hb) G w v) F n
def wJ (b:∀j a,aE[j]?=C a->∀e∈a.after,binds .any e=J->e.on<j){j i:Nat}{a:Oper}(c:aE[j]?=C a)(h:((Region.before ⟨aE⟩).getD j 0).testBit i=J):anc aE j i:=by
 intro L d ha;refine Az b L d aE #[] ⟨[],rfl,rfl⟩ (λj a h=>by simp at h) j a c (ha a c) i ?_;have:(Region.before ⟨aE⟩)=aE.foldl (λcC o=>cC.push (o.after.foldl (λs e=>if binds .any e then s||| 2^ e.on||| cC.getD e.on 0 else s) 0)) #[]:=by unfold Region.before;rw[<-Array.foldl_toList]
 rwa[this] at h
def G2 {j k i:Nat}(d:anc aE j k)(hi:anc aE k i):anc aE j i:=λL a ha=>
 hi L a λok b e c hb=>a k ok (by simpa using b) (d L a ha) e c hb
def O9 {j:Nat}{a:Oper}(c:aE[j]?=C a){e:Edge}(b:e∈a.after)(hb:binds .any e=J):anc aE j e.on:=λL _ ha=>ha a c e b hb
def Wy (a:∀j b,aE[j]?=C b->∀e∈b.after,binds .any e=J->e.on<j){j k:Nat}(h:anc aE j k):k<j:=by have:=h (λi=>decide (i<j)) (λi g d hi e c hb=>by have l:=a i g (by simpa using d) e c hb;simp at hi⊢;omega) (λb f e c hb=>by simpa using a j b f e c hb);simpa using this
structure o0 (E:hJ)(call:gw)(aE:List Oper)(j n:Nat)(TM:Nat->Tm)(S:Nat->St)(V:Nat->Value)(S':Nat->St):Prop where
 step:∀i o,j<=i->i<n->aE[i]?=some o->TM (i+1)=(TM i).iG o.dst (V i)/\S (i+1)=eO (S' i)/\
  ((iN aE (TM i) o.guard=true/\IP E call (aM (TM i)) (S i) o.op=some (V i,S' i))\/(iN aE (TM i) o.guard=false/\V i= .tuple ⟨[]⟩/\S' i=S i))
 clear:∀i,j<=i->i<=n->(S i).cC=0/\(S i).wr=0
 apart:∀i k,j<=i->i<k->k<n->((Region.before ⟨aE⟩).getD k 0).testBit i=true\/((∀b,¬(In (S' i).wr b/\In (S' k).cC b))/\(∀b,¬(In (S' i).cC b/\In (S' k).wr b)))
def G3 {a b:Nat}(h:beq (Nat.land a b) 0=J)(i:Nat):¬(In a i/\In b i):=by
 have c:(a&&& b)=0:=nN h;rintro⟨d,e⟩;have:(a&&& b).testBit i=J:=by rw[Nat.testBit_and,d,e];rfl
 rw[c] at this;simp at this
def G4 {b a r:Nat}:∀{l:List Seen},ze b a r l=J->∀x∈l,b.testBit x.i=J\/((∀c,¬(In x.wr c/\In a c))/\(∀c,¬(In x.cC c/\In r c)))
 |[],_,x,d=>by cases d
 |y::l,h,x,d=>by have e:bo (bo (beq (Nat.land y.wr a) 0) (beq (Nat.land y.cC r) 0) U||Nat.testBit b y.i) (ze b a r l) U=J:=h;rw[dC] at e;split at e;rename_i hc;obtain rfl|d:=cA.1 d;rw[km,dC] at hc;obtain hc|hc:=hc;split at hc;rename_i f;exact .inr ⟨G3 f,G3 hc⟩;cases hc;exact .inl hc;exact G4 e x d;cases e
def wK (aE:List Oper)(o:Oper)(l:List Oper)(j:Nat)(tm:Tm)(s:St)(seen:List Seen):ua E call aE (o::l) j tm s seen=bo (iN aE tm o.guard) (ob (IP E call (aM tm) (eO s) o.op) λp=>match p with
        |(v,s')=>tZ aE j s s' seen λs seen=>tm.put o.dst v λtm=>ua E call aE l (Nat.succ j) tm s seen)
   (tm.put o.dst (.tuple ⟨[]⟩) λtm=>ua E call aE l (Nat.succ j) tm s seen):=rfl
def jU (s:St):eO s=⟨s.heap,s.next,0,0⟩:=by cases s;rfl
def qw (b:Nat):¬In 0 b:=by simp[In]
def aft (E:hJ)(call:gw)(aE:List Oper)(j n:Nat)(tm:Tm)(s:St)(seen:List Seen)(jT:Tm)(s':St):Prop:=
    ∃TM S V S',o0 E call aE j (n) TM S V S'/\TM j=tm/\S j=eO s/\TM (n)=jT/\S (n)=eO s'/\
     (∀i,j<=i->i<n->(∀b,In (S' i).cC b->In s'.cC b)/\(∀b,In (S' i).wr b->In s'.wr b))/\(∀b,In s.cC b->In s'.cC b)/\(∀b,In s.wr b->In s'.wr b)/\
     (∀b,In s'.cC b->In s.cC b\/∃i,j<=i/\i<n/\In (S' i).cC b)/\(∀b,In s'.wr b->In s.wr b\/∃i,j<=i/\i<n/\In (S' i).wr b)/\
     (∀i,j<=i->i<n->∀x∈seen,((Region.before ⟨aE⟩).getD i 0).testBit x.i=J\/((∀b,¬(In x.wr b/\In (S' i).cC b))/\(∀b,¬(In x.cC b/\In (S' i).wr b))))
def CF (hE:cW E P)(hC:dW P call)(aE:List Oper):∀(l:List Oper)(j:Nat)(tm:Tm)(s:St)(seen:List Seen){jT:Tm}{s':St},l=aE.drop j->ua E call aE l j tm s seen=C (jT,s')->
  aft E call aE j (j+Y l) tm s seen jT s'
 |[],j,tm,s,seen,jT,s',hl,h=>by cases dM h;refine⟨λ_=>tm,λ_=>eO s,λ_=>undef,λ_=>eO s,⟨λi o g c=>by simp at c;omega,λi g c=>by rw[jU];exact⟨rfl,rfl⟩,λi k g c D=>by simp at D;omega⟩,rfl,rfl,rfl,rfl,λi g c=>by simp at c;omega,λ_ h=>h,λ_ h=>h,λ_ h=>.inl h,λ_ h=>.inl h,λi g c=>by simp at c;omega⟩
 |o::l,j,tm,s,seen,jT,s',hl,h=>by
  have hk:aE[j]?=C o:=by have:=congrArg (·[0]?) hl;simpa using this.symm
  have hl':l=aE.drop (j+1):=by have:=congrArg (List.drop 1) hl;simpa[wx,Cb] using this
  rw[wK] at h;have glue:∀(v:Value)(e:St)(n:St)(d:List Seen),ua E call aE l (j+1) (tm.iG o.dst v) n d=C (jT,s')->eO n=eO e->
                       ((iN aE tm o.guard=J/\IP E call (aM tm) (eO s) o.op=C (v,e))\/(iN aE tm o.guard=U/\v= .tuple ⟨[]⟩/\e=eO s))->
                       (∀b,In e.cC b->In n.cC b)->(∀b,In e.wr b->In n.wr b)->(∀b,In s.cC b->In n.cC b)->(∀b,In s.wr b->In n.wr b)->(∀b,In n.cC b->In s.cC b\/In e.cC b)->(∀b,In n.wr b->In s.wr b\/In e.wr b)->
                       (∀x∈seen,x∈d)->((∃x∈d,x.i=j/\x.cC=e.cC/\x.wr=e.wr)\/((∀b,¬In e.cC b)/\∀b,¬In e.wr b))->
                       (∀x∈seen,((Region.before ⟨aE⟩).getD j 0).testBit x.i=J\/((∀b,¬(In x.wr b/\In e.cC b))/\(∀b,¬(In x.cC b/\In e.wr b))))->aft E call aE j (j+Y (o::l)) tm s seen jT s':=by
   intro v e n d hd hc z X Wz Z hw2 ha3 hw3 w y F;obtain⟨TM,S,V,S',q,e1,e2,e3,e4,K,hA,hW,T,W,G⟩:=CF hE hC aE l (j+1) (tm.iG o.dst v) n d hl' hd;(have cg:j+Y (o::l)=j+1+Y l:=by simp;omega);rw[cg];refine⟨λi=>if i=j then tm else TM i,λi=>if i=j then eO s else S i,λi=>if i=j then v else V i,λi=>if i=j then e else S' i,⟨λi oi g c t=>?_,λi g c=>?_,λi k g c D=>?_⟩,?_,?_,?_,?_,λi g c=>?_,λb hb=>hA b (Z b hb),λb hb=>hW b (hw2 b hb),λb hb=>?_,λb hb=>?_,λi g c x m=>?_⟩
   .by_cases a:i=j
    .subst a;rw[hk] at t;cases t;simp only[iO,show ¬i+1=i by omega,ib];refine⟨e1,?_,?_⟩
     .rw[e2];exact hc
     .exact z
    .simp only[a,ib,show ¬i+1=j by omega];exact q.step i oi aa c t
   .by_cases a:i=j
    .subst a;rw[ai rfl,jU];exact⟨rfl,rfl⟩
    .simp only[a,ib];exact q.clear i aa c
   .have hkj:¬k=j:=by omega
    simp only[hkj,ib];by_cases a:i=j
    .subst a;simp only[iO];obtain⟨x,m,hxi,hxa,hxw⟩|⟨q1,q2⟩:=y
     .have:=G k aa D x m;rwa[hxi,hxa,hxw] at this
     .exact .inr ⟨λb hb=>q2 b hb.1,λb hb=>q1 b hb.1⟩
    .simp only[a,ib];exact q.apart i k aa c D
   .simp
   .simp
   .simp only[show ¬j+1+Y l=j by omega,ib];exact e3
   .simp only[show ¬j+1+Y l=j by omega,ib];exact e4
   .by_cases a:i=j
    .simp only[a,iO];exact⟨λb hb=>hA b (X b hb),λb hb=>hW b (Wz b hb)⟩
    .simp only[a,ib];exact K i aa c
   .rcases T b hb with f|⟨i,h5,Q,R⟩
    .rcases ha3 b f with f|f
     .exact .inl f
     .exact .inr ⟨j,fG _,aa,by simpa using f⟩
    .exact .inr ⟨i,aa,Q,by simpa[show ¬i=j by omega] using R⟩
   .rcases W b hb with f|⟨i,h5,Q,R⟩
    .rcases hw3 b f with f|f
     .exact .inl f
     .exact .inr ⟨j,fG _,aa,by simpa using f⟩
    .exact .inr ⟨i,aa,Q,by simpa[show ¬i=j by omega] using R⟩
   .by_cases a:i=j
    .subst a;simp only[iO];exact F x m
    .simp only[a,ib];exact G i aa c x (w x m)
  cases L:iN aE tm o.guard with
  |true=>
   rw[L,ff] at h;obtain⟨⟨v,e⟩,g,c⟩:=aG h;obtain⟨hg1,_⟩:=I5 (o:=o) hE hC g;have A:∀b,In e.wr b->In e.cC b:=hg1.sub (λb hb=>by rw[jU] at hb;exact absurd hb (qw b));obtain⟨h0,n0,a0,r0⟩:=s;obtain⟨N,nn,B,rr⟩:=e;simp only[tZ,Tm.put_eq] at c;cases hz:beq B 0 with
   |true=>rw[hz,ff] at c;have haa:B=0:=nN hz;subst haa;(have u:∀b,¬In rr b:=λb hb=>qw b (A b hb));exact glue v ⟨N,nn,0,rr⟩ ⟨N,nn,a0,r0⟩ seen c rfl (.inl ⟨L,g⟩) (λb hb=>absurd hb (qw b)) (λb hb=>absurd hb (u b)) (λb hb=>hb) (λb hb=>hb) (λb hb=>.inl hb) (λb hb=>.inl hb) (λx m=>m) (.inr ⟨qw,u⟩) (λx m=>.inr ⟨λb hb=>qw b hb.2,λb hb=>u b hb.2⟩)
   |false=>rw[hz,ey] at c;obtain⟨D,f⟩:=IQ c;simp only[RD] at f;refine glue v ⟨N,nn,B,rr⟩ ⟨N,nn,a0||| B,r0||| rr⟩ (⟨j,B,rr⟩::seen) f rfl (.inl ⟨L,g⟩) (λb hb=>(qT _ _ _).2 (.inr hb)) (λb hb=>(qT _ _ _).2 (.inr hb)) (λb hb=>(qT _ _ _).2 (.inl hb)) (λb hb=>(qT _ _ _).2 (.inl hb)) (λb hb=>(qT _ _ _).1 hb) (λb hb=>(qT _ _ _).1 hb) (λx m=>dI _ m) (.inl ⟨⟨j,B,rr⟩,aq,rfl,rfl,rfl⟩) (G4 D)
  |false=>rw[L,ey] at h;simp only[Tm.put_eq] at h;(have p:∀b,¬In (eO s).cC b:=λb=>by rw[jU];exact qw b);(have r:∀b,¬In (eO s).wr b:=λb=>by rw[jU];exact qw b);exact glue _ (eO s) s seen h (by simp[jU]) (.inr ⟨L,rfl,rfl⟩) (λb hb=>absurd hb (p b)) (λb hb=>absurd hb (r b)) (λb hb=>hb) (λb hb=>hb) (λb hb=>.inl hb) (λb hb=>.inl hb) (λx m=>m) (.inr ⟨p,r⟩) (λx m=>.inr ⟨λb hb=>p b hb.2,λb hb=>r b hb.2⟩)
variable {TM:Nat->Tm}{S S':Nat->St}{V:Nat->Value}{X A0:Nat->Prop}{ZV:iw}{w0:World}
section
variable {W:Nat}
def WA (S:Nat->St)(k i:Nat):Prop:=(S k).next<=i/\i<(S (k+1)).next
def Dp (aE:List Oper)(S:Nat->St)(A0:Nat->Prop)(j:Nat):Nat->Prop:=λi=>A0 i\/∃k,anc aE j k/\WA S k i
def DA (aE:List Oper)(S:Nat->St)(A0:Nat->Prop)(j:Nat):Nat->Prop:=λi=>Dp aE S A0 j i\/WA S j i
def Tp (aE:List Oper)(S S':Nat->St)(A0:Nat->Prop)(L:Nat->Bool)(b:Nat)(o:fa)(D:Nat->Prop):Prop:=
 ((∀k,L k=J->¬In (S' k).wr b)/\(S 0).heap.get b=C o/\D=A0)\/
 ∃k,L k=J/\In (S' k).wr b/\(∀a,L a=J->In (S' a).wr b->a<=k)/\(S' k).heap.get b=C o/\D=DA aE S A0 k
structure Inv (P:Program)(aE:List Oper)(S S':Nat->St)(V:Nat->Value)(X A0:Nat->Prop)(ZV:iw)(w0:World)(W:Nat)(L:Nat->Bool)(vals:Nat->Value)(w:World)(ρ:iw):Prop where
 same:∀i,(∀k,L k=true->¬WA S k i)->ρ i=ZV i
 iC:∀b o D,X b->Tp aE S S' A0 L b o D->D b/\∃x,w.heap[(ρ b).1]?=some x/\Bj P D ρ (ρ b) o x
 inj:∀b b' o o' D D',X b->X b'->Tp aE S S' A0 L b o D->Tp aE S S' A0 L b' o' D'->(ρ b).1=(ρ b').1->b=b'
 vals:∀k,L k=true->VR (DA aE S A0 k) ρ (V k) (vals k)
 gm:Fr w0 w λr=>∃c o,In W c/\X c/\(S 0).heap.get c=some o/\(ZV c).1=r
 old:∀b o D,X b->Tp aE S S' A0 L b o D->b<(S 0).next->(S 0).heap.get b≠none
 dk:∀b o D,X b->Tp aE S S' A0 L b o D->(S 0).next<=b->w0.heap.size<=(ρ b).1\/∃c o,In W c/\X c/\(S 0).heap.get c=some o/\(ρ b).1=(ZV c).1
def cU.afu {j:Nat}(a:(S (j+1)).next=(S' j).next):cU (Dp aE S A0 j) (S j).next (S' j).next=DA aE S A0 j:=by funext i;unfold cU DA WA;rw[a]
section chain
def kL (d:cW E P)(c:dW P call)(a:o0 E call aE 0 (Y aE) TM S V S'){j:Nat}(b:j<Y aE):ay (S j) (S' j):=by obtain⟨o,e⟩:∃o,aE[j]?=C o:=⟨aE[j],c8 b⟩;rcases(a.step j o (jl _) b e).2.2 with⟨_,h⟩|⟨_,_,h⟩;exact(I5 d c h).1;rw[h];exact ay.refl _
def rE (f:cW E P)(e:dW P call)(a:o0 E call aE 0 (Y aE) TM S V S'){j:Nat}(d:j<Y aE){b:Nat}(h:In (S' j).wr b):In (S' j).cC b:=
 (kL f e a d).sub (λc hc=>by rw[(a.clear j (jl _) (rk d)).2] at hc;exact absurd hc (qw c)) b h
def nS (f:cW E P)(e:dW P call)(a:o0 E call aE 0 (Y aE) TM S V S'){j:Nat}(b:j<Y aE):(S (j+1)).next=(S' j).next/\(S (j+1)).heap=(S' j).heap:=by have c:=f;have d:=e;obtain⟨o,g⟩:∃o,aE[j]?=C o:=⟨aE[j],c8 b⟩;rw[(a.step j o (jl _) b g).2.1,jU];exact⟨rfl,rfl⟩
def fL (c:cW E P)(b:dW P call)(a:o0 E call aE 0 (Y aE) TM S V S'){i j:Nat}(d:i<=j)(e:j<=Y aE):(S i).next<=(S j).next:=by
 induction j with
 |zero=>(have:i=0:=by omega);subst this;exact fG _
 |succ j ih=>
  obtain h|h:=jc i (j+1);refine jR (ih aa aa) ?_;rw[(nS c b a aa).1];exact(kL c b a aa).next
  have:i=j+1:=by omega
  subst this;exact fG _
def qy (e:cW E P)(d:dW P call)(a:o0 E call aE 0 (Y aE) TM S V S')(c:∀b,(S 0).next<=b->(S 0).heap.get b=O){j:Nat}(i:j<=Y aE):∀b,(S j).next<=b->(S j).heap.get b=O:=by
 induction j with
 |zero=>exact c
 |succ j ih=>obtain⟨f,g⟩:=nS e d a (j:=j) aa;rw[f,g];exact(kL e d a aa).dr (ih aa)
def CG (m:cW E P)(l:dW P call)(d:o0 E call aE 0 (Y aE) TM S V S')(n:∀b,(S 0).next<=b->(S 0).heap.get b=O){j:Nat}(w:j<=Y aE){b:Nat}{o:fa}(h:(S j).heap.get b=C o):((∀k,k<j->¬In (S' k).wr b)/\(S 0).heap.get b=C o)\/∃k,k<j/\In (S' k).wr b/\(∀a,a<j->In (S' a).wr b->a<=k)/\(S' k).heap.get b=C o:=by
 induction j with
 |zero=>exact .inl ⟨λk u=>by omega,h⟩
 |succ j ih=>
  obtain⟨v,s⟩:=nS m l d (j:=j) aa;rw[s] at h;by_cases f:In (S' j).wr b;exact .inr ⟨j,aa,f,λa q _=>by omega,h⟩;have p:=kL m l d (j:=j) aa;have hb:b<(S j).next:=by
   obtain e|e:=jc b (S j).next
   exact e;rcases jc b (S' j).next with c|c
   exact absurd (p.made b e c) f;rw[p.dr (qy m l d n aa) b c] at h;cases h
  rw[p.kept b hb f] at h;obtain⟨e,c⟩|⟨k,e,c,i,t⟩:=ih aa h;refine .inl ⟨λk u=>?_,c⟩;obtain i|i:=jc k j;exact e k i;(have:k=j:=by omega);subst this;exact f;refine .inr ⟨k,aa,c,λa q g=>?_,t⟩;obtain r|r:=jc a j;exact i a r g;have:a=j:=by omega
  subst this;exact absurd g f
def vd (T:cW E P)(R:dW P call)(u:∀j v,aE[j]?=C v->∀e∈v.after,binds .any e=J->e.on<j)(q:o0 E call aE 0 (Y aE) TM S V S')(B:∀b,(S 0).next<=b->(S 0).heap.get b=O){L:Nat->Bool}{j:Nat}{v:Oper}(r:aE[j]?=C v)(s:L j=U)(F:∀e∈v.after,binds .any e=J->L e.on=J)(z:sF ⟨aE⟩ L)(A:∀k,L k=J->k<Y aE)
  {b:Nat}{o:fa}(p:In (S' j).cC b)(h:(S j).heap.get b=C o):∃D,Tp aE S S' A0 L b o D/\∀i,D i->Dp aE S A0 j i:=by
 have K:j<Y aE:=(qS.1 r).1;have l:∀f,aE[j]?=C f->∀e∈f.after,binds .any e=J->L e.on=J:=λf w=>by rw[r] at w;cases w;exact F
 have later:∀c,L c=J->In (S' c).wr b->c<j:=λc a m=>by obtain g|g|g:=Ri c j;exact g;subst g;rw[s] at a;cases a;exfalso;have t:=A c a;obtain n|n:=q.apart j c (jl _) g t;obtain⟨ok,G⟩:∃o,aE[c]?=C o:=⟨aE[c],c8 t⟩;have x:=wJ u G n L z (λf w e Z hb=>z c f (by simpa using w) a e Z hb);rw[s] at x;cases x;exact n.2 b ⟨p,m⟩
 obtain⟨g,n⟩|⟨k,g,n,x,Q⟩:=CG T R q B (rk K) h;exact⟨A0,.inl ⟨λk hk N=>g k (later k hk N) N,n,rfl⟩,λi hi=>.inl hi⟩;have d:anc aE j k:=by obtain y|y:=q.apart k j (jl _) g K;exact wJ u r y;exact absurd ⟨n,p⟩ (y.1 b)
 refine⟨DA aE S A0 k,.inr ⟨k,d L z l,n,λc a m=>x c (later c a m) m,Q,rfl⟩,?_⟩;rintro i ((hi|⟨k2,hi,hr⟩)|hi);exact .inl hi;exact .inr ⟨k2,G2 d hi,hr⟩;exact .inr ⟨k,d,hi⟩
end chain
end
variable {L:Nat->Bool}{vals:Nat->Value}{w:World}{ρ:iw}{j:Nat}{oj:Oper}
section
variable {W:Nat}
def G5 (c:cW E P)(b:dW P call)(a:o0 E call aE 0 (Y aE) TM S V S'){k j:Nat}(e:k≠j)(o:k<Y aE)(n:j<Y aE){i:Nat}(h:WA S k i):¬WA S j i:=by rintro⟨f,g⟩;obtain⟨l,m⟩:=h;obtain d|d:=jc k j;have:=fL c b a (i:=k+1) (j:=j) aa aa;omega;have:=fL c b a (i:=j+1) (j:=k) aa aa;omega
def afv (d:cW E P)(c:dW P call)(b:∀j oj,aE[j]?=C oj->∀e∈oj.after,binds .any e=J->e.on<j)(a:o0 E call aE 0 (Y aE) TM S V S')(f:∀i,A0 i->i<(S 0).next){j:Nat}(m:j<Y aE):∀i,Dp aE S A0 j i->i<(S j).next:=by rintro i (h|⟨k,g,hr⟩);have:=f i h;have:=fL d c a (i:=0) (j:=j) aa aa;omega;have l:=Wy b g;have:=fL d c a (i:=k+1) (j:=j) aa aa;have:=hr.2;omega
def Tq (r:cW E P)(q:dW P call)(p:∀j oj,aE[j]?=C oj->∀e∈oj.after,binds .any e=J->e.on<j)(n:o0 E call aE 0 (Y aE) TM S V S')(l:∀b,(S 0).next<=b->(S 0).heap.get b=O)(t:∀k,k<Y aE->∀b,In (S' k).cC b->X b)(d:aE[j]?=C oj)(g:L j=U)(m:∀e∈oj.after,binds .any e=J->L e.on=J)(s:sF ⟨aE⟩ L)(i:∀k,L k=J->k<Y aE)(y:Inv P aE S S' V X A0 ZV w0 W L vals w ρ):ez P (In (S' j).cC) (Dp aE S A0 j) ρ (S j).heap.get w:=by have v:j<Y aE:=(qS.1 d).1;refine⟨λb o a h=>?_,λb b' o o' a c h z e=>?_⟩;obtain⟨D,hc,f⟩:=vd (A0:=A0) r q p n l d g m s i a h;obtain⟨A,x,B,F⟩:=y.iC b o D (t j v b a) hc;exact⟨f b A,x,B,F.mono f (λ_ _=>rfl)⟩;obtain⟨D,hc,_⟩:=vd (A0:=A0) r q p n l d g m s i a h;obtain⟨D',u,_⟩:=vd (A0:=A0) r q p n l d g m s i c z;exact y.inj b b' o o' D D' (t j v b a) (t j v b' c) hc u e
def Lo (hE:cW E P)(hC:dW P call)(Lp:∀j oj,aE[j]?=C oj->∀e∈oj.after,binds .any e=J->e.on<j)(p:o0 E call aE 0 (Y aE) TM S V S')(hab:∀b,(S 0).next<=b->(S 0).heap.get b=O)(hA:∀i,A0 i->i<(S 0).next)(hX:∀k,k<Y aE->∀b,In (S' k).cC b->X b)(hW:∀k,k<Y aE->∀b,In (S' k).wr b->In W b)(hoj:aE[j]?=C oj)(hLj:L j=U)(haf:∀e∈oj.after,binds .any e=J->L e.on=J)(hL:sF ⟨aE⟩ L)(hLn:∀k,L k=J->k<Y aE)(l:Inv P aE S S' V X A0 ZV w0 W L vals w ρ){w':World}{er:iw}{v':Value}(hv:VR (cU (Dp aE S A0 j) (S j).next (S' j).next) er (V j) v')(G:Good P (In (S' j).cC) (Dp aE S A0 j) ρ (S j) (S' j) w w' er):
  Inv P aE S S' V X A0 ZV w0 W (ij L j J) (ij vals j v') w' er:=by
 have hj:j<Y aE:=(qS.1 hoj).1;obtain⟨hn1,Wq⟩:=nS hE hC p hj;have hgr:=kL hE hC p hj;have Z:∀k F,aE[k]?=C F->L k=J->∀e∈F.after,binds .any e=J->L e.on=J:=λk F h' m=>hL k F (by simpa using h') m;have q:=λb=>rE hE hC p hj (b:=b);have u:=λb o ahN h=>vd (A0:=A0) (b:=b) (o:=o) hE hC Lp p hab hoj hLj haf hL hLn ahN h;have ahO:(S 0).next<=(S j).next:=fL hE hC p (jl _) (rk hj)
 have d:∀b o D,Tp aE S S' A0 (ij L j J) b o D->(In (S' j).wr b/\(S' j).heap.get b=C o/\D=DA aE S A0 j)\/(¬In (S' j).wr b/\Tp aE S S' A0 L b o D):=by
  intro b o D hc;have hup:∀k,L k=J->ij L j J k=J:=λk m=>by unfold ij;split<;>first|rfl|exact m
  have hjj:ij L j J j=J:=by simp[ij]
  obtain⟨f,h2,h3⟩|⟨k,f,h2,h3,h4,h5⟩:=hc;exact .inr ⟨f j hjj,.inl ⟨λk m=>f k (hup k m),h2,h3⟩⟩;by_cases g:In (S' j).wr b;(have Q:k=j:=by obtain h6|h6|h6:=Ri k j;have:=h3 j hjj g;omega;exact h6;exfalso;(have m:L k=J:=by unfold ij at f;rwa[af aa] at f);have hkn:=hLn k m;obtain⟨ok,x8⟩:∃o,aE[k]?=C o:=⟨aE[k],c8 hkn⟩;obtain h7|h7:=p.apart j k (jl _) h6 hkn;have:=wJ Lp x8 h7 L hL (λF h' e he hb=>Z k F h' m e he hb);rw[hLj] at this;cases this;exact h7.1 b ⟨g,rE hE hC p hkn h2⟩);subst Q;exact .inl ⟨g,h4,h5⟩;have Q:k≠j:=by rintro rfl;exact g h2
  (have m:L k=J:=by unfold ij at f;rwa[af Q] at f);exact .inr ⟨g,.inr ⟨k,m,h2,λk' VQ s=>h3 k' (hup k' VQ) s,h4,h5⟩⟩
 have hDA:∀k,L k=J->∀i,DA aE S A0 k i->er i=ρ i:=λk m i hi=>G.same i λhr=>by rw[<-hn1] at hr;have hkn:=hLn k m;obtain(hi|⟨k2,hi,Th⟩)|hi:=hi;have:=hA i hi;omega;have Lq:L k2=J:=hi L hL (λF h' e he hb=>Z k F h' m e he hb);exact G5 hE hC p (by rintro rfl;rw[hLj] at Lq;cases Lq) (hLn k2 Lq) hj Th hr;exact G5 hE hC p (by rintro rfl;rw[hLj] at m;cases m) hkn hj hi hr
 have n:∀b o D,Tp aE S S' A0 L b o D->∀i,D i->er i=ρ i:=by
  rintro b o D (⟨_,_,rfl⟩|⟨k,m,_,_,_,rfl⟩) i hi;exact G.same i λhr=>by have:=hA i hi;omega
  exact hDA k m i hi
 have afw:∀b,b<(S j).next->er b=ρ b:=λb hb=>G.same b λhr=>by omega
 have z:∀b o,In (S' j).wr b->(S' j).heap.get b=C o->b<(S j).next->∃v,(S j).heap.get b=C v:=λb o g h hb=>
  Ak.1 (G.old b hb (by rw[h];simp))
 have WB:∀b o,(S' j).heap.get b=C o->b<(S' j).next:=λb o h=>by
  obtain f|f:=jc b (S' j).next
  exact f;rw[G.dr b f] at h;cases h
 have y:=hX j hj;have afx:∀b b' o o' D',In (S' j).wr b->(S' j).heap.get b=C o->¬In (S' j).wr b'->X b'->Tp aE S S' A0 L b' o' D'->(er b).1=(er b').1->False:=by
  intro b b' o o' D' g h s T K e;obtain⟨hD',x',hx2,_⟩:=l.iC b' o' D' T K;rw[n b' o' D' K b' hD'] at e;obtain hb|hb:=jc b (S j).next
  obtain⟨v,R⟩:=z b o g h hb;obtain⟨D2,a,_⟩:=u b v (q b g) R;rw[afw b hb] at e;have:=l.inj b b' v o' D2 D' (y b (q b g)) T a K e;subst this;exact s g;rcases G.dk b hb (WB b o h) (by rw[h];simp) with f|⟨c,o3,N,a,A,f⟩;have:=(tJ.1 hx2).1;omega;obtain⟨D3,t,_⟩:=u c o3 a A;rw[f] at e;have:=l.inj c b' o3 o' D3 D' (y c a) T t K e;subst this;exact s N
 refine⟨λi hi=>?_,λb o D hx hc=>?_,λb b' o o' D D' hx T hc K e=>?_,λk m=>?_,?_,λb o D hx hc hb=>?_,λb o D hx hc hb=>?_⟩;rw[G.same i λhr=>hi j (by simp[ij]) (by unfold WA;rwa[hn1])];exact l.same i λk m=>hi k (by unfold ij;split<;>first|rfl|exact m);rcases d b o D hc with⟨g,h,rfl⟩|⟨g,a⟩;have:=G.state.iC b o (q b g) h;rwa[cU.afu hn1] at this;obtain⟨f,x,h2,h3⟩:=l.iC b o D hx a;have hag:=n b o D a;refine⟨f,x,?_,?_⟩;rw[hag b f,G.gm.block _ (tJ.1 h2).1 ?_];exact h2;rintro⟨c,v,A,t,hc5,e⟩;obtain⟨D2,hc6,_⟩:=u c v t hc5;have:=l.inj c b v o D2 D (y c t) hx hc6 a e;subst this;exact g A;rw[hag b f];exact h3.mono (λ_ h=>h) hag
 rcases d b o D hc with⟨g,h,rfl⟩|⟨g,a⟩;rcases d b' o' D' K with⟨s,h',rfl⟩|⟨s,B⟩;exact G.state.inj b b' o o' (q b g) (q b' s) h h' e;exact(afx b b' o o' D' g h s T B e).elim;rcases d b' o' D' K with⟨s,h',rfl⟩|⟨s,B⟩;exact(afx b' b o' o D s h' g hx a e.symm).elim;rw[n b o D a b (l.iC b o D hx a).1,n b' o' D' B b' (l.iC b' o' D' T B).1] at e;exact l.inj b b' o o' D D' hx T a B e;by_cases Q:k=j;subst Q;simp only[ij,iO];rwa[<-cU.afu hn1];have VQ:L k=J:=by unfold ij at m;rwa[af Q] at m
 simp only[ij,Q,ib];exact(l.vals k VQ).mono (λ_ h=>h) (hDA k VQ);refine⟨G.gm.os.trans l.gm.os,G.gm.tape.trans l.gm.tape,G.gm.output.trans l.gm.output,jR l.gm.size G.gm.size,λr hr ht=>?_⟩;rw[G.gm.block r (vF hr l.gm.size) ?_,l.gm.block r hr ht];rintro⟨c,o,N,a,A,e⟩;obtain⟨D,t,_⟩:=u c o a A;obtain f|f:=jc c (S 0).next
 obtain⟨v,R⟩:=Ak.1 (l.old c o D (y c a) t f);refine ht ⟨c,v,hW j hj c N,y c a,R,?_⟩;rw[<-e,l.same c λk m hrr=>by have:=fL hE hC p (i:=0) (j:=k) (jl _) (rk (hLn k m));have:=hrr.1;omega];rcases l.dk c o D (y c a) t f with h2|⟨c',o',h3,h4,h5,h6⟩;omega;exact ht ⟨c',o',h3,h4,h5,by rw[<-h6,e]⟩;rcases d b o D hc with⟨g,h,rfl⟩|⟨g,a⟩;obtain⟨v,R⟩:=z b o g h aa;obtain⟨D2,a,_⟩:=u b v (q b g) R;exact l.old b v D2 hx a hb;exact l.old b o D hx a hb;have key:∀c v,In (S' j).wr c->In (S' j).cC c->(S j).heap.get c=C v->w0.heap.size<=(ρ c).1\/∃c' o',In W c'/\X c'/\(S 0).heap.get c'=C o'/\(ρ c).1=(ZV c').1:=by
  intro c v N a A;obtain⟨D2,t,_⟩:=u c v a A;obtain f|f:=jc c (S 0).next
  obtain⟨o3,ho3⟩:=Ak.1 (l.old c v D2 (y c a) t f);refine .inr ⟨c,o3,hW j hj c N,y c a,ho3,?_⟩;rw[l.same c λk m hrr=>by have:=fL hE hC p (i:=0) (j:=k) (jl _) (rk (hLn k m));have:=hrr.1;omega];exact l.dk c v D2 (y c a) t f
 obtain⟨g,h,rfl⟩|⟨g,a⟩:=d b o D hc;rcases jc b (S j).next with f|f
 obtain⟨v,R⟩:=z b o g h f;rw[afw b f];exact key b v g (q b g) R;rcases G.dk b f (WB b o h) (by rw[h];simp) with h2|⟨c,o3,N,a,A,h2⟩;exact .inl (jR l.gm.size h2);rw[h2];exact key c o3 N a A;rw[n b o D a b (l.iC b o D hx a).1];exact l.dk b o D hx a hb
end
variable {a0:Act}{N:Nat}{tm jT:Tm}{s s':St}
section
variable {W N:Nat}
def Pa (d:cW E P)(c:dW P call)(a:o0 E call aE 0 (Y aE) TM S V S'){j:Nat}(l:j<=Y aE){b:Nat}(hb:b<(S 0).next)(e:∀k,k<j->¬In (S' k).wr b):(S j).heap.get b=(S 0).heap.get b:=by
 induction j with
 |zero=>rfl
 |succ j ih=>obtain⟨g,f⟩:=nS d c a (j:=j) aa;rw[f,(kL d c a aa).kept b (by have:=fL d c a (i:=0) (j:=j) (jl _) aa;omega) (e j aa),ih aa λk m=>e k aa]
def Pb (f:cW E P)(e:dW P call)(a:o0 E call aE 0 (Y aE) TM S V S'){j:Nat}(l:j<=Y aE){b:Nat}(h1:(S 0).next<=b)(h2:b<(S j).next):∃k,k<j/\In (S' k).wr b:=by
 induction j with
 |zero=>omega
 |succ j ih=>
  obtain⟨g,i⟩:=nS f e a (j:=j) aa;obtain c|c:=jc b (S j).next
  obtain⟨k,m,d⟩:=ih aa c;exact⟨k,aa,d⟩;exact⟨j,aa,(kL f e a aa).made b c aa⟩
def CH (f:cW E P)(e:dW P call)(a:o0 E call aE 0 (Y aE) TM S V S')(k:Nat)(vals:Nat->Value):iG ⟨aE⟩ a0 (λ_=>J) vals (k+1)=(iG ⟨aE⟩ a0 (λ_=>J) vals k).put (((⟨aE⟩:Array Oper)[k]?).bind (·.dst)) (vals k):=by
 have b:=f;have c:=e;have d:=a;conv=>lhs;unfold iG
 simp
def WE (m:cW E P)(l:dW P call)(a:o0 E call aE 0 (Y aE) TM S V S')(b:∀o∈aE,ui N o=J){j:Nat}{L:Nat->Bool}{vals:Nat->Value}{w:World}{ρ:iw}(x:∀i,A0 i->i<(S 0).next)(e:∀k,L k=J->k<Y aE)(n:Inv P aE S S' V X A0 ZV w0 W L vals w ρ)(c:OO A0 ZV N (TM 0) a0)(t:Nat):
  ∀k,k<=Y aE->(∀i o,i<k->aE[i]?=C o->o.dst=C t->anc aE j i/\L i=J)->VR (Dp aE S A0 j) ρ (lR ((TM k).get t)) ((iG ⟨aE⟩ a0 (λ_=>J) vals k).tmps.getD t undef)
 |0,_,_=>by refine(c.2 t).mono (λi hi=>.inl hi) λi hi=>?_;refine n.same i λk y hr=>?_;have:=x i hi;have:=fL m l a (i:=0) (j:=k) (jl _) (rk (e k y));have:=hr.1;omega
 |k+1,y,h=>by
  obtain⟨o,g⟩:∃o,aE[k]?=C o:=⟨aE[k],c8 aa⟩;have r:=b o (Cd g);have ih:=WE m l a b x e n c t k aa λi B hi=>h i B aa;rw[CH m l a,(a.step k o (jl _) aa g).1];have q:(⟨aE⟩:Array Oper)[k]?=C o:=by simpa using g
  rw[q];simp only[Ao];cases hd:o.dst with
  |none=>exact ih
  |some d=>have p:=nR r d hd;(have u:(iG ⟨aE⟩ a0 (λ_=>J) vals k).tmps.size=N:=by rw[oE];exact c.1);rw[Lk _ d t _ (by rwa[u])];unfold Tm.iG;simp only[T.va];by_cases f:t=d;subst f;simp only[iO];obtain⟨v,z⟩:=h k o aa g hd;refine(n.vals k z).mono (λi hi=>?_) (λ_ _=>rfl);obtain(hi|⟨A,hi,hr⟩)|hi:=hi;exact .inl hi;exact .inr ⟨A,G2 v hi,hr⟩;exact .inr ⟨k,v,hi⟩;simp only[f,ib];exact ih
end
def WG (v:cW E P)(u:dW P call)(hm:P.follows .mixedOrders=J){aE:List Oper}(R:∀o∈aE,ui N o=J)(afy:zp ⟨aE⟩=J)(h:ua E call aE aE 0 tm s []=C (jT,s')):
  ay s s'/\∀X A ρ w a Q id,nK P X A ρ s s' w->Gl A ρ->OO A ρ N tm a->(∀a' w',Left P X A ρ N s s' w a jT a' w'->Q Exit.normal a' w')->(Code.region id ⟨aE⟩ J).wp P Q a w:=by
 obtain⟨TM,S,V,S',c,e1,e2,e3,e4,y,hA1,hW1,hA2,hW2,_⟩:=CF v u aE aE 0 tm s [] aq h;rw[kz] at c e3 e4 y hA2 hW2;have n:(S 0).next=s.next/\(S 0).heap=s.heap:=by rw[e2,jU];exact⟨rfl,rfl⟩
 have hSn:(S (Y aE)).next=s'.next/\(S (Y aE)).heap=s'.heap:=by rw[e4,jU];exact⟨rfl,rfl⟩
 have acE:=Ay afy;have Lp:∀j oj,aE[j]?=C oj->∀e∈oj.after,binds .any e=J->e.on<j:=λj oj hj=>(acE.2 j oj (by simpa using hj)).1;have r:ay s s':=by
  refine⟨?_,hA1,hW1,λb m F=>?_,λhs b hb=>?_,λb hb hw=>?_,λha b hb=>?_⟩;rw[<-n.1,<-hSn.1];exact fL v u c (jl _) (fG _);obtain⟨k,f,Lq⟩:=Pb v u c (fG _) (b:=b) aa aa;exact(y k (jl _) f).2 b Lq;rcases hW2 b hb with m|⟨i,_,F,h3⟩;exact hA1 b (hs b m);exact(y i (jl _) F).1 b (rE v u c F h3);rw[<-hSn.2,<-n.2];exact Pa v u c (fG _) aa λk f hw'=>hw ((y k (jl _) f).2 b hw')
  rw[<-hSn.2];exact qy v u c (by rwa[n.1,n.2]) (fG _) b aa
 refine⟨r,λX A ρ w a Q id hp ma ht hQ=>?_⟩;have G:∀b,(S 0).next<=b->(S 0).heap.get b=O:=by rw[n.1,n.2];exact hp.dr
 have hA:∀i,A i->i<(S 0).next:=by rw[n.1];exact hp.lt
 have hX:∀k,k<Y aE->∀b,In (S' k).cC b->X b:=λk f b hb=>hp.cC b ((y k (jl _) f).1 b hb);have hW:∀k,k<Y aE->∀b,In (S' k).wr b->In s'.wr b:=λk f=>(y k (jl _) f).2;have ht0:OO A ρ N (TM 0) a:=by rwa[e1]
 refine FE hm afy (λL vals w1=>(∀k,L k=J->k<Y aE)/\∃q,Inv P aE S S' V X A ρ w.drew s'.wr L vals w1 q) (λL vals w1 i o ho hLi haf hL hLn B=>?_) (λL vals w1 WH B=>?_) ?_;obtain⟨l,q,B⟩:=B;have z:aE[i]?=C o:=by simpa using ho
 have hi:i<Y aE:=(qS.1 z).1;have hoo:=R o (Cd z);have afz:∀k,ij L i J k=J->k<Y aE:=λk f=>by unfold ij at f;split at f;omega;exact l k f
 have Ln:∀t,t∈o.looksAt ⟨aE⟩->VR (Dp aE S A i) q (lR ((TM i).get t)) ((iG ⟨aE⟩ a (λ_=>J) vals i).tmps.getD t undef):=λt RM=>
  WE v u c R hA l B ht0 t i aa λk ok f x8 hd=>by rcases(acE.2 i o ho).2.1 k ok f (by simpa using x8) with⟨e,he,hb,hon⟩|hap;subst hon;exact⟨O9 z he hb,haf e he hb⟩;exact absurd RM ((Oper.apart_spec hap).1 t hd)
 have afA:Gl (Dp aE S A i) q:=ma.mono (λj hj=>.inl hj) λj hj=>B.same j λk f hr=>by have:=hA j hj;have:=fL v u c (i:=0) (j:=k) (jl _) (rk (l k f));have:=hr.1;omega
 have FA:=Tq v u Lp c G hX z hLi haf hL l B;have Wx:Region.wanted o (yielded ⟨aE⟩ (iG ⟨aE⟩ a (λ_=>J) vals i).tmps)=iN aE (TM i) o.guard:=by
  refine zn (A:=Dp aE S A i) (ρ:=q) (N:=N) (by rw[oE];exact ht0.1) (λp hp d hd=>nR (R p hp) d hd) λg want hg d hd=>?_;refine Ln d ?_;unfold Oper.looksAt;refine dt _ ?_;have:((⟨aE⟩:Array Oper)[g]?).bind (·.dst)=C d:=by
   unfold mE at hd;rw[ec] at hd;simp only[Gx];cases hq:aE[g]? with
   |none=>rw[hq] at hd;cases hd
   |some p=>rwa[hq] at hd
  rw[hg];simp only[this];simp
 rw[Wx];rcases(c.step i o (jl _) hi z).2.2 with⟨Wz,BD⟩|⟨Wz,hv,hs⟩;refine⟨λ_=>?_,λhf=>by rw[Wz] at hf;cases hf⟩;obtain⟨hg1,ahP⟩:=I5 v u BD;have ahQ:nK P (In (S' i).cC) (Dp aE S A i) q (S i) (S' i) w1:=⟨afv v u Lp c hA hi,qy v u c G (rk hi),λb hb=>hb,FA⟩;refine Oper.wp_mono (λa' w' afB=>?_) (ahP (In (S' i).cC) (Dp aE S A i) q w1 (iG ⟨aE⟩ a (λ_=>J) vals i) _ ahQ afA λx T=>BC (Ax hoo x T) afA λt hxt=>Ln t ?_);obtain⟨v',ha',K6,hv2,hG⟩:=afB;exact⟨v',ha',afz,K6,Lo v u Lp c G hA hX hW z hLi haf hL l B hv2 hG⟩;subst hxt;exact im _ (List.mem_filterMap.2 ⟨.tmp t,by simpa using T,rfl⟩);refine⟨λhf=>(by rw[Wz] at hf;cases hf),λ_=>⟨afz,q,?_⟩⟩;refine Lo v u Lp c G hA hX hW z hLi haf hL l B ?_ ?_;rw[hv];exact VR.undef;rw[hs] at FA⊢;exact Good.refl FA (qy v u c G (rk hi));obtain⟨l,q,B⟩:=B;have W:∀i,i<Y aE->L i=J:=λi hi=>WH i (by simpa using hi);have ahR:∀i,A i->q i=ρ i:=λi hi=>B.same i λk f hr=>by have:=hA i hi;have:=fL v u c (i:=0) (j:=k) (jl _) (rk (l k f));have:=hr.1;omega
 have adC:∀k i,k<Y aE->WA S k i->s.next<=i/\i<s'.next:=λk i f hr=>by have m:=fL v u c (i:=0) (j:=k) (jl _) (rk f);have F:=fL v u c (i:=k+1) (j:=Y aE) aa (fG _);have:=hr.1;have:=hr.2;omega
 have hDA:∀k,k<Y aE->∀i,DA aE S A k i->cU A s.next s'.next i:=λk f i hi=>by obtain(hi|⟨k2,hi,hr⟩)|hi:=hi;exact .inl hi;have:=Wy Lp hi;exact .inr (adC k2 i aa hr);exact .inr (adC k i f hi)
 have Z:∀b o,s'.heap.get b=C o->((∀k,k<Y aE->¬In (S' k).wr b)/\s.heap.get b=C o/\Tp aE S S' A L b o A)\/∃k,k<Y aE/\In (S' k).wr b/\Tp aE S S' A L b o (DA aE S A k):=by intro b o hb;rw[<-hSn.2] at hb;obtain⟨m,F⟩|⟨k,m,F,h3,h4⟩:=CG v u c G (fG _) hb;exact .inl ⟨m,by rwa[<-n.2],.inl ⟨λk f=>m k (l k f),F,rfl⟩⟩;exact .inr ⟨k,m,F,.inr ⟨k,W k m,F,λk' VQ hw'=>h3 k' (l k' VQ) hw',h4,rfl⟩⟩
 have K:∀b o,s'.heap.get b=C o->∃D,Tp aE S S' A L b o D/\∀i,D i->cU A s.next s'.next i:=by intro b o hb;obtain⟨_,_,m⟩|⟨k,f,_,m⟩:=Z b o hb;exact⟨A,m,λi hi=>.inl hi⟩;exact⟨_,m,hDA k f⟩
 refine hQ _ w1 ⟨?_,q,?_,⟨r.next,λi hi=>?_,⟨λb o T hb=>?_,λb b' o o' T hx' hb ZU e=>?_⟩,?_,λb hb GX=>?_,λb hb hb2 GX=>?_,r.kept,r.dr hp.dr⟩⟩;have:∀k,(iG ⟨aE⟩ a (λ_=>J) vals k).defers=a.defers:=λk=>by
  induction k with
  |zero=>rfl
  |succ k ih=>rw[CH v u c,uj,ih]
 exact this _;have key:∀k,k<=Y aE->OO (cU A s.next s'.next) q N (TM k) (iG ⟨aE⟩ a (λ_=>J) vals k):=λk=>by
  induction k with
  |zero=>exact λ_=>ht0.mono (λi hi=>.inl hi) ahR
  |succ k ih=>intro f;obtain⟨o,ho⟩:∃o,aE[k]?=C o:=⟨aE[k],c8 aa⟩;rw[CH v u c,(c.step k o (jl _) aa ho).1];(have z:(⟨aE⟩:Array Oper)[k]?=C o:=by simpa using ho);rw[z];exact(ih aa).put ((B.vals k (W k aa)).mono (hDA k aa) (λ_ _=>rfl)) (nR (R o (Cd ho)))
 rw[<-e3];exact key (Y aE) (fG _);exact B.same i λk f hr=>hi (adC k i (l k f) hr);obtain⟨D,hc,hD⟩:=K b o hb;obtain⟨m,x,F,h3⟩:=B.iC b o D T hc;exact⟨hD b m,x,F,h3.mono hD (λ_ _=>rfl)⟩;obtain⟨D,hc,_⟩:=K b o hb;obtain⟨D',hc',_⟩:=K b' o' ZU;exact B.inj b b' o o' D D' T hx' hc hc' e;have:=B.gm;rw[n.2] at this;exact⟨this.os,this.tape,this.output,this.size,this.block⟩;obtain⟨o,ho⟩:=Ak.1 GX;obtain⟨_,m,_⟩|⟨k,f,hw,hc⟩:=Z b o ho;rw[m];simp;have:=B.old b o _ (hX k f b (rE v u c f hw)) hc aa;rwa[n.2] at this
 obtain⟨o,ho⟩:=Ak.1 GX;obtain⟨_,m,_⟩|⟨k,f,hw,hc⟩:=Z b o ho;rw[hp.dr b hb] at m;cases m;have:=B.dk b o _ (hX k f b (rE v u c f hw)) hc aa;rwa[n.2] at this;refine⟨λk f=>(by cases f),ρ,λi _=>rfl,λb o D T hc=>?_,λb b' o o' D D' T hx' hc hc' e=>?_,λk f=>(by cases f),⟨rfl,rfl,rfl,fG _,λ_ _ _=>rfl⟩,λb o D T hc hb=>?_,λb o D T hc hb=>?_⟩;rcases hc with⟨_,m,rfl⟩|⟨k,f,_⟩;rw[n.2] at m;exact hp.st.iC b o T m;cases f;rcases hc with⟨_,m,rfl⟩|⟨k,f,_⟩;rcases hc' with⟨_,F,rfl⟩|⟨k,f,_⟩;rw[n.2] at m F;exact hp.st.inj b b' o o' T hx' m F e;cases f;cases f;rcases hc with⟨_,m,rfl⟩|⟨k,f,_⟩;rw[m];simp;cases f;rcases hc with⟨_,m,rfl⟩|⟨k,f,_⟩;rw[G b hb] at m;cases m;cases f
variable {A:Nat->Prop}{a:Act}{Q:Exit->Act->World->Prop}
def codeOk (N:Nat):Code->Bool
 |.region _ aE draw=>aE.toList.all (ui N)&&(!draw||zp aE)
 |.seq a b=>codeOk N a&&codeOk N b
 |.cond c a b=>I6 c&&codeOk N a&&codeOk N b
 |.block _ c=>codeOk N c
 |.loop c=>codeOk N c
 |_=>J
def aar:Ex->Exit
 |.normal=>.normal
 |.exit id=>.exit id
 |.ret=>.ret
def CI (P:Program)(c:Code)(Q:Exit->Act->World->Prop)(a:Act)(w:World):Prop:=
 ∀(b:Frame)(k:List Item)(cs:List Frame),∃e a' w',Q e a' w'/\Arrives P (lone (b.at a (.code c:: .inLoop c::k)) cs w) b k cs e a' w'
def aas {c:Code}(h:CI P c Q a w):(Code.loop c).wp P Q a w:=λb k cs=>by obtain⟨e,a',w',f,d⟩:=h b k cs;exact⟨e,a',w',f,.of_steps (.one step_loop) d⟩
def CD {c:Code}(h:c.wp P (Exit.then (CI P c Q) Q) a w):CI P c Q a w:=λb k cs=>by
 obtain⟨e,f,g,n,d⟩:=h b (.inLoop c::k) cs;cases e with
 |normal=>obtain⟨p,o,q,m,i⟩:=n b k cs;exact⟨p,o,q,m,.of_steps (Steps.trans d (.one step_inLoop)) i⟩
 |exit id=>exact⟨_,f,g,n,.pass (x:=.inLoop c) rfl (λ_ _=>.inl aq) d⟩
 |goto l=>exact⟨_,f,g,n,.pass (x:=.inLoop c) rfl (λ_ _=>.inl aq) d⟩
 |ret=>exact⟨_,f,g,n,.pass (x:=.inLoop c) rfl (λ_ _=>.inl aq) d⟩
 |panic r=>exact⟨_,f,g,n,.pass (x:=.inLoop c) rfl (λ_ _=>.inl aq) d⟩
 |outgrown=>exact⟨_,f,g,n,.pass (x:=.inLoop c) rfl (λ_ _=>.inl aq) d⟩
def CJ (P:Program)(N:Nat)(c:Code)(s:St)(tm:Tm)(e:Ex)(jT:Tm)(s':St)(go:(Exit->Act->World->Prop)->Act->World->Prop):Prop:=
 ay s s'/\∀X A ρ w a Q,nK P X A ρ s s' w->Gl A ρ->OO A ρ N tm a->(∀a' w',Left P X A ρ N s s' w a jT a' w'->Q (aar e) a' w')->go Q a w
def Left.same (b:nK P X A ρ s s w){tm:Tm}(ht:OO A ρ N tm a):Left P X A ρ N s s w a tm a w:=
 ⟨rfl,ρ,ht.mono (λi hi=>.inl hi) (λ_ _=>rfl),Good.refl b.st b.dr⟩
def CJ.next {c c2:Code}{s u v:St}{f g:Tm}{e:Ex}{go2:(Exit->Act->World->Prop)->Act->World->Prop}(b:ay s u)(h2:CJ P N c2 u f e g v go2)(d:nK P X A ρ s v w)(p:Gl A ρ)
  (B:∀a' w',Left P X A ρ N s v w a g a' w'->Q (aar e) a' w'){l:Act}{x:World}(hl:Left P X A ρ N s u w a f l x):go2 Q l x:=by obtain⟨hd,h,r,k⟩:=hl;have n:∀i,A i->h i=ρ i:=λi hi=>k.same i (by have:=d.lt i hi;omega);refine h2.2 X _ h x l Q ⟨cU.lt d.lt b.next,k.dr,d.cC,k.state⟩ (p.mono (λi hi=>.inl hi) n) r λz D q=>B z D ?_;obtain⟨o,y,t,m⟩:=q;exact⟨o.trans hd,y,t.mono (λi hi=>cU.join b.next h2.1.next hi) (λ_ _=>rfl),Good.trans d.cC b h2.1 d.lt k m⟩
def nK.part {d e:St}(c:nK P X A ρ s e w)(f:ay d e):nK P X A ρ s d w:=⟨c.lt,c.dr,λb hb=>c.cC b (f.cC b hb),c.st⟩
def Lr {c:Code}{body:Tm->St->R4}(hb:∀tm s e jT s',body tm s=C (e,jT,s')->CJ P N c s tm e jT s' (c.wp P)):∀(n:Nat)(tm:Tm)(s:St){e:Ex}{jT:Tm}{s':St},Cr body n tm s=C (e,jT,s')->CJ P N c s tm e jT s' (CI P c)
 |0,tm,s,e,jT,s',h=>by cases h
 |n+1,tm,s,e,jT,s',h=>by
  have g:GN (body tm s) (Cr body n)=C (e,jT,s'):=h;obtain⟨⟨d,b,f⟩,i,h2⟩:=aG g;have hb1:=hb tm s d b f i;cases d with
  |normal=>have ih:=Lr hb n b f h2;refine⟨hb1.1.trans ih.1,λX A ρ w a Q hp ma ht hQ=>CD ?_⟩;(refine hb1.2 X A ρ w a _ (hp.part ih.1) ma ht λk l hl=>?_);exact CJ.next (c:=c) (c2:=c) (go2:=CI P c) hb1.1 ih hp ma hQ hl
  |exit id=>refine' zaO
  |ret=>refine' zaO
def WI (G:cW E P)(F:dW P call)(hm:P.follows .mixedOrders=J)(lf:Nat):∀(c:Code),codeOk N c=J->∀(tm:Tm)(s:St)(e:Ex)(jT:Tm)(s':St),lS E call lf c tm s=C (e,jT,s')->CJ P N c s tm e jT s' (c.wp P):=by
 intro c;induction c with
 |skip=>intro _ tm s e jT s' h;cases dM h;exact⟨ay.refl _,λX A ρ w a Q hp ma ht hQ=>wp_skip (hQ a w (Left.same hp ht))⟩
 |region id aE draw=>
  intro d tm s e jT s' h;obtain⟨aE⟩:=aE;simp only[codeOk,ep,o5] at d;obtain⟨k,r⟩:=d;have g:RB E call aE draw tm s=C (e,jT,s'):=h;cases draw with
  |false=>obtain⟨⟨f,l⟩,m,h2⟩:=aG (show GO (K3 E call aE aE tm s)=C (e,jT,s') from g);cases dM h2;obtain⟨B,D⟩:=I8 G F aE k aE 0 tm s aq m;refine⟨B,λX A ρ w a Q hp ma ht hQ=>wp_region ?_⟩;have:=D X A ρ w a Q hp ma ht hQ;rwa [List.range_eq_range']
  |true=>obtain⟨⟨f,l⟩,m,h2⟩:=aG (show GO (ua E call aE aE 0 tm s [])=C (e,jT,s') from g);cases dM h2;obtain⟨B,D⟩:=WG G F hm k (by simpa using r) m;exact⟨B,λX A ρ w a Q hp ma ht hQ=>D X A ρ w a Q id hp ma ht hQ⟩
 |seq x y n o=>
  intro d tm s e jT s' h;simp only[codeOk,ep] at d;have g:GN (lS E call lf x tm s) (lS E call lf y)=C (e,jT,s'):=h;obtain⟨⟨q,f,l⟩,m,h2⟩:=aG g;have hx:=n d.1 tm s q f l m;cases q with
  |normal=>have p:=o d.2 f l e jT s' h2;refine⟨hx.1.trans p.1,λX A ρ w a Q hp ma ht hQ=>wp_seq ?_⟩;(refine hx.2 X A ρ w a _ (hp.part p.1) ma ht λu z hl=>?_);exact CJ.next (c:=x) (c2:=y) (go2:=y.wp P) hx.1 p hp ma hQ hl
  |exit id=>refine' zaS
  |ret=>refine' zaS
 |cond c x y n o=>
  intro d tm s e jT s' h;simp only[codeOk,ep] at d;have g:RA (aM tm c) (lS E call lf x tm s) (lS E call lf y tm s)=C (e,jT,s'):=h;unfold RA at g;split at g;rename_i b hb;cases b with
  |true=>have hx:=n d.1.2 tm s e jT s' g;refine⟨hx.1,λX A ρ w a Q hp ma ht hQ=>wp_cond_true ?_ (hx.2 X A ρ w a Q hp ma ht hQ)⟩;(have:=BC (tm:=tm) (a:=a) d.1.1 ma λt _=>ht.2 t);rw[hb] at this;exact this.su
  |false=>have p:=o d.2 tm s e jT s' g;refine⟨p.1,λX A ρ w a Q hp ma ht hQ=>wp_cond_false ?_ (p.2 X A ρ w a Q hp ma ht hQ)⟩;(have:=BC (tm:=tm) (a:=a) d.1.1 ma λt _=>ht.2 t);rw[hb] at this;exact this.su
  cases g
 |block id c ih=>
  intro d tm s e jT s' h;have g:adx id (lS E call lf c tm s)=C (e,jT,s'):=h;obtain⟨⟨q,f,l⟩,m,h2⟩:=aG g;have hc:=ih (by simpa[codeOk] using d) tm s q f l m;cases q with
  |normal=>refine' zaQ
  |ret=>refine' zaQ
  |exit i=>have v:bo (beq i id) (C (Ex.normal,f,l)) (C (Ex.exit i,f,l))=C (e,jT,s'):=h2;rw[dC] at v;split at v;rename_i hi;(have hi:i=id:=by simpa using hi);cases dM v;refine⟨hc.1,λX A ρ w a Q hp ma ht hQ=>wp_block (hc.2 X A ρ w a _ hp ma ht λu z hl=>?_)⟩;simp only[aar,Exit.inBlock,hi,iO];exact hQ u z hl;rename_i hi;(have hi:¬i=id:=by simpa using hi);cases dM v;refine⟨hc.1,λX A ρ w a Q hp ma ht hQ=>wp_block (hc.2 X A ρ w a _ hp ma ht λu z hl=>?_)⟩;simp only[aar,Exit.inBlock,hi,ib];exact hQ u z hl
 |loop c ih=>intro d tm s e jT s' h;have g:Cr (lS E call lf c) lf tm s=C (e,jT,s'):=h;have:=Lr (c:=c) (λtm s e jT s'=>ih (by simpa[codeOk] using d) tm s e jT s') lf tm s g;exact⟨this.1,λX A ρ w a Q hp ma ht hQ=>aas (this.2 X A ρ w a Q hp ma ht hQ)⟩
 |exit id=>intro _ tm s e jT s' h;cases dM h;exact⟨ay.refl _,λX A ρ w a Q hp ma ht hQ=>wp_exit (hQ a w (Left.same hp ht))⟩
 |ret=>intro _ tm s e jT s' h;cases dM h;exact⟨ay.refl _,λX A ρ w a Q hp ma ht hQ=>wp_ret (hQ a w (Left.same hp ht))⟩
 |rangeFunc _ _ _ _ _ _=>intro _ tm s e jT s' h;cases h
 |scope _ _=>intro _ tm s e jT s' h;cases h
 |label _=>intro _ tm s e jT s' h;cases h
 |goto _=>intro _ tm s e jT s' h;cases h
 |refuse _=>intro _ tm s e jT s' h;cases h
abbrev Ent:=Empty
noncomputable section
def pEq (a b:aP):Bool:=match a,b with
 |O,O=>J
 |C ⟨b,o,O⟩,C ⟨b',o',O⟩=>beq b b'&&beq o o'
 |_,_=>U
def Pc (a b:Bool):Bool:=bo a b (!b)
mutual
def Fo:Value->Value->Bool
 |.bool a,.bool b=>Pc a b
 |.int k a,.int j b=>pA k j&&xP a b
 |.string ⟨⟨a⟩⟩,.string ⟨⟨b⟩⟩=>gP a b
 |.pointer a,.pointer b=>pEq a b
 |.slice a l c,.slice b m d=>pEq a b&&beq l m&&beq c d
 |.agg ⟨a⟩,.agg ⟨b⟩=>lEq a b
 |.tuple ⟨a⟩,.tuple ⟨b⟩=>lEq a b
 |.func (.func f) ⟨a⟩ ⟨b⟩,.func (.func g) ⟨c⟩ ⟨d⟩=>beq f g&&lEq a c&&lEq b d
 |.map O,.map O=>J
 |.map (C a),.map (C b)=>beq a b
 |.nilFunc,.nilFunc=>J
 |.nilIface,.nilIface=>J
 |_,_=>U
def lEq:aV->aV->Bool
 |[],[]=>J
 |a::x,b::y=>Fo a b&&lEq x y
 |_,_=>U
end
def qv (E:hJ)(X:fb)(lf:Nat)(tab:List Ent)(n:Nat):gw:=
 Nat.rec (λ_ _ _=>O) (λ_ ih f args s=>ob (E.fn.get f) λfn=>vU X f args s<| match fn.body with
     |none=>OX X f args s
     |some c=>bo (beq f X.look) (GP args s)<| dq (ble (dJ args) fn.ntmps)<| RC E fn (lS E ih lf c (k9 args (nat_lit 0) .nil) s)) n
end
def nT (P:Program)(f:FuncId)(h:wD):Prop:=∀args s v s',h args s=C (v,s')->ay s s'/\∀Z A ρ w b,nK P Z A ρ s s' w->Gl A ρ->LR A ρ args b->js P f ⟨b⟩ w λc w'=>oT P Z A ρ s s' w v c w'
structure WJ (E:hJ)(P:Program)(X:fb):Prop where
 vT:∀p∈X.vT,nT P p.1 p.2
 enter:∀f fn c,E.fn.get f=some fn->fn.body=some c->∀args w,(callFunc f args).run P w= .ok (.enter f args) w
 code:∀f fn c,E.fn.get f=some fn->f≠X.look->fn.body=some c->codeOk fn.ntmps c=true
 rp:∀x w,(callFunc X.rp #[x]).run P w= .ok (.value x) w
 indexByte:∀(z:List UInt8)(c:Nat) w,c<256->(callFunc X.indexByte #[.string ⟨⟨z⟩⟩,.int .u8 (.ofNat c)]).run P w= .ok (.value (.int .i64 (wC c z 0))) w
 byte:P.cellsOf X.byte=1
 sr:∀fn,E.fn.get X.sr=some fn->∀(n:Nat) w,n<=1000000->∃cs:aV,(callFunc X.sr #[.int .i64 (.ofNat n)]).run P w= .ok (.value (.slice (some ⟨w.heap.size,0,none⟩) n cs.length)) (w.drew.drew.alloc (.cells ⟨cs⟩ X.byte))/\cs.length<=maxLen
 look:∀fn,E.fn.get X.look=some fn->∀(b o n c:Nat)(a:aP)(k:Nat)(g:Value)(i:Nat)(z:List UInt8) w,i<n->w.cell? ⟨b,o+i,none⟩=some (.string ⟨⟨z⟩⟩)->
  Calls P X.look #[.agg ⟨[.slice (some ⟨b,o,none⟩) n c,.slice a 0 k,g]⟩,.int .i64 (.ofNat i)] w λe w'=>e= .returned (.string ⟨⟨z⟩⟩)/\Fr w w' λ_=>False
section
def ve (r:ResultVar)(l:List ResultVar)(s:St):Cs E tm (r::l) s=match r with
  |.tmp t=>ob (Cs E tm l s) λp=>C (lR (tm.get t)::p.1,p.2)
  |.cell a t=>VO (lR (tm.get a)) λb o=>ob (tc E s t b o) λq=>ob (Cs E tm l q.2) λp=>C (q.1::p.1,p.2):=rfl
def I9 (u:cW E P):∀(l:List ResultVar)(s:St){vs:aV}{s':St},Cs E tm l s=C (vs,s')->ay s s'/\s'.heap=s.heap/\s'.next=s.next/\∀X A ρ w (a:Act),(∀b,In s'.cC b->X b)->ez P X A ρ s.heap.get w->(∀t,VR A ρ (lR (tm.get t)) (a.tmps.getD t undef))->
  ∃c,(l.mapM (λ(r:ResultVar)=>match r with|.tmp t=>pure (a.tmps.getD t undef)|.cell x t=>do loadVar t (<-asAddr (a.tmps.getD x undef))):Sem (aV)).run P w= .ok c w/\LR A ρ vs c
 |[],s,vs,s',h=>by cases dM h;exact⟨ay.refl _,rfl,rfl,λX A ρ w a _ _ _=>⟨[],aq,LR.nil⟩⟩
 |r::l,s,vs,s',h=>by
  rw[ve] at h;cases r with
  |tmp t=>obtain⟨⟨z,T⟩,m,n⟩:=aG h;cases dM n;obtain⟨g,i,k,y⟩:=I9 u l s m;refine⟨g,i,k,λX A ρ w a f d ht=>?_⟩;obtain⟨c,p,q⟩:=y X A ρ w a f d ht;refine⟨a.tmps.getD t undef::c,?_,LR.cons (ht t) q⟩;simp only[tR,run_bind,Sem.run_pure,andThen_ok,p]
  |cell x t=>obtain⟨b,o,R,m⟩:=O0 h;obtain⟨⟨v,T⟩,n,p⟩:=aG m;obtain⟨⟨z,Z⟩,q,B⟩:=aG p;cases dM B;obtain⟨rfl,hl⟩:=K8 u n;obtain⟨g,i,k,y⟩:=I9 u l _ q;refine⟨(ay.aL s b).trans g,by rw[i];simp,by rw[k];simp,λX A ρ w a f d ht=>?_⟩;obtain⟨W,D,F⟩:=hl X A ρ w (f b (g.cC b (eP s b))) d;obtain⟨c,G,K⟩:=y X A ρ w a f (by simpa using d) ht;refine⟨W::c,?_,LR.cons F K⟩;have hv:=ht x;rw[R] at hv;(have e:(asAddr (a.tmps.getD x undef)).run P w= .ok ⟨(ρ b).1,o,O⟩ w:=by rw[hv.pE];rfl);simp only[tR,run_bind,e,Sem.run_pure,andThen_ok,D,G]
def aat {vs b:aV}(h:LR A ρ vs b):VR A ρ (fj vs) (if h:(⟨b⟩:Array Value).size=1 then(⟨b⟩:Array Value)[0] else .tuple ⟨b⟩):=by
 have hl:=h.akc;unfold fj;split;rename_i v;obtain⟨u,us,rfl,hu,f⟩:=h.iP;have:us=[]:=jG (by simpa using hl);subst this;simpa using hu;rename_i c;rw[dif_neg];exact VR.tuple h;intro d;have e:Y vs=1:=by rw[<-hl];simpa using d
 match vs,e with
 |[v],_=>exact c v rfl
def Ja (v:Value)(l:aV)(i:Nat)(tm:Tm):k9 (v::l) i tm=k9 l (i+1) (tm.set (Nat.succ i) i (C v)):=by have h:k9 (v::l) i tm=V7 v λv=>(tm.set (Nat.succ i) i (C v)).now λtm=>k9 l (Nat.succ i) tm:=rfl;rw[h,aad,T.OY]
def uk:∀(l:aV)(i:Nat)(tm:Tm)(t:Nat),(k9 l i tm).get t=if i<=t/\t<i+Y l then l[t-i]? else tm.get t
 |[],i,tm,t=>by have:k9 [] i tm=tm:=rfl;rw[this,af (by simp only[jm];omega)]
 |v::l,i,tm,t=>by rw[Ja,uk l,T.va];by_cases h:t=i;subst h;rw[af aa,ai rfl,ai aq];simp;simp only[h,ib];by_cases b:i+1<=t/\t<i+1+Y l;rw[ai b,ai (by simp;omega)];rw[show t-i=(t-(i+1))+1 by omega];simp;rw[af b,af (by simp;omega)]
def ahS {a b:Bool}:bo a b U=(a&&b):=by cases a<;>rfl
def Tr {a b:Bool}(h:Pc a b=J):a=b:=by cases a<;>cases b<;>simp_all [Pc]
def WK {a b:aP}(h:pEq a b=J):a=b:=by unfold pEq at h;split at h;rfl;rw[ep] at h;have c:=nN h.1;have d:=nN h.2;subst c d;rfl;cases h
mutual
def WL:∀(x y:Value),Fo x y=J->x=y
 |.bool a,y,h=>by cases y<;>simp only[Fo,jS] at h;rw[Tr h]
 |.int k a,y,h=>by cases y<;>simp only[Fo,jS,ep] at h;rw[vb h.1];have:=h.2;rw[kl] at this;simp at this;rw[this]
 |.string ⟨⟨a⟩⟩,y,h=>by cases y<;>simp only[Fo,jS] at h;rw[fk] at h;simp at h;rw[h]
 |.pointer a,y,h=>by cases y<;>simp only[Fo,jS] at h;rw[WK h]
 |.slice a l c,y,h=>by cases y<;>simp only[Fo,jS,ep] at h;rw[WK h.1.1,nN h.1.2,nN h.2]
 |.agg ⟨a⟩,y,h=>by cases y<;>simp only[Fo,jS] at h;rw[CK _ _ h]
 |.tuple ⟨a⟩,y,h=>by cases y<;>simp only[Fo,jS] at h;rw[CK _ _ h]
 |.func fn ⟨a⟩ ⟨b⟩,y,h=>by cases fn<;>cases y<;>(try(simp only[Fo,jS] at h;done));rename_i f e c d;cases e<;>(try(simp only[Fo,jS] at h;done));simp only[Fo,ep] at h;rw[nN h.1.1,CK _ _ h.1.2,CK _ _ h.2]
 |.nilFunc,y,h=>by cases y<;>first|rfl|(simp only[Fo,jS] at h;done)
 |.nilIface,y,h=>by cases y<;>first|rfl|(simp only[Fo,jS] at h;done)
 |.float _ _,y,h=>by cases y<;>simp only[Fo,jS] at h
 |.complex _ _ _,y,h=>by cases y<;>simp only[Fo,jS] at h
 |.map a,y,h=>by
  cases y;case map b=>
   (cases a<;>cases b<;>first|rfl|(simp only[Fo,jS] at h;done)|skip);rename_i a b;simp only[Fo] at h;rw[nN h]
  all_goals cases a<;>simp only[Fo,jS] at h
 |.chan _,y,h=>by cases y<;>simp only[Fo,jS] at h
 |.iface _ _,y,h=>by cases y<;>simp only[Fo,jS] at h
def CK:∀(x y:aV),lEq x y=J->x=y
 |[],[],_=>rfl
 |[],_::_,h=>by simp only[lEq,jS] at h
 |_::_,[],h=>by simp only[lEq,jS] at h
 |a::x,b::y,h=>by simp only[lEq,ep] at h;rw[WL a b h.1,CK x y h.2]
end
def js.mono {f:FuncId}{args:Array Value}{R i:Value->World->Prop}(h:js P f args w R)(hr:∀v w,R v w->i v w):js P f args w i:=by obtain⟨v,w',c,d⟩|⟨g,b,w',c,d⟩:=h;exact .inl ⟨v,w',c,hr _ _ d⟩;exact .inr ⟨g,b,w',c,d.mono λe m ⟨v,k,l⟩=>⟨v,k,hr _ _ l⟩⟩
def WM {X:fb}(f:WJ E P X){fn:Func}(g:E.fn.get X.sr=C fn){args:aV}{v:Value}(h:zeroV X args s=C (v,s')):
  ay s s'/\∀Z A ρ w d,nK P Z A ρ s s' w->Gl A ρ->LR A ρ args d->js P X.sr ⟨d⟩ w λv' w'=>oT P Z A ρ s s' w v v' w':=by unfold zeroV at h;split at h;rename_i n;obtain⟨hc,k⟩:=bw h;simp only[ep,mm] at hc;cases aF k;refine⟨ay.gx s _,λZ A ρ w d i m hl=>.inl ?_⟩;obtain⟨x',r,rfl,p,hr⟩:=hl.iP;have:r=[]:=jG (by simpa using hr.akc);subst this;rw[p.kJ];obtain⟨cs,e,cg⟩:=f.sr fn g n w hc.2;refine⟨_,_,e,ρ.at s.next (w.heap.size,Y cs,0),?_,?_⟩;have:=VR.slice (A:=cU A s.next (s.new (.cells [] X.byte J)).next) (ρ:=ρ.at s.next (w.heap.size,Y cs,0)) (b:=s.next) (o:=0) (l:=n) (c:=cl) (.inr ⟨fG _,aq⟩);simpa[bA,cj] using this;refine Good.alloc (o:=.cells [] X.byte J) (x:=.cells ⟨cs⟩ X.byte) i.st i.dr i.lt (λc=>by simp) aq (iV s _) (fG _) ?_ ?_ ?_;have:=heap_alloc_new w.drew.drew (.cells ⟨cs⟩ X.byte);exact this;refine⟨[],cs,(0,0),rfl,LR.nil,λ_=>⟨rfl,?_,?_,cg⟩,λh=>by cases h⟩;rw[f.byte];simp;rw[f.byte];exact Nat.one_pos;have:=Fr.alloc w.drew.drew (.cells ⟨cs⟩ X.byte);exact⟨this.os,this.tape,this.output,this.size,this.block⟩;cases h
def Good.Pd {g:St}{l:World}(c:ez P X A ρ s.heap.get w)(f:∀b,s.next<=b->s.heap.get b=O)(hn:g.next=s.next)(d:g.heap=s.heap)(hf:Fr w l λ_=>False):Good P X A ρ s g w l ρ:=by refine⟨aa,λ_ _=>rfl,?_,⟨hf.os,hf.tape,hf.output,hf.size,λr hr _=>hf.block r hr λh=>h⟩,λb _ h=>by rwa[d] at h,λb k e=>by omega,λb _ _=>by rw[d],λb hb=>by rw[d];exact f b aa⟩;rw[d];refine⟨λb o n hb=>?_,c.inj⟩;obtain⟨k,x,e,m⟩:=c.iC b o n hb;refine⟨.inl k,x,?_,m.mono (λi hi=>.inl hi) (λ_ _=>rfl)⟩;rw[hf.block _ (tJ.1 e).1 λh=>h];exact e
def WN {X:fb}(hF:WJ E P X)(D:∀args w,(callFunc X.look args).run P w= .ok (.enter X.look args) w){fn:Func}(F:E.fn.get X.look=C fn){args:aV}{v:Value}(h:GP args s=C (v,s')):
  ay s s'/\∀Z A ρ w d,nK P Z A ρ s s' w->Gl A ρ->LR A ρ args d->js P X.look ⟨d⟩ w λv' w'=>oT P Z A ρ s s' w v v' w':=by
 unfold GP at h;split at h
 .rename_i b o n c a k g i;obtain⟨hi,h2⟩:=bw h;have hi:i<n:=xA hi;obtain⟨cs,e,u,hg,h3⟩:=mq h2;obtain⟨v1,p,B⟩:=aG h3;split at B;rotate_left;cases B;rename_i z;cases aF B;rw[ec] at p;refine⟨ay.aL s b,λZ A ρ w d y ma hl=>.inr ?_⟩;obtain⟨x',r,rfl,hx,hr⟩:=hl.iP;obtain⟨y',W,rfl,hy,G⟩:=hr.iP;have:W=[]:=jG (by simpa using G.akc);subst this;rw[hy.kJ];obtain⟨xs,rfl,f⟩:=hx.RF;obtain⟨x1,xs,rfl,R,f⟩:=f.iP;obtain⟨x2,xs,rfl,t,f⟩:=f.iP;obtain⟨x3,xs,rfl,hx3,f⟩:=f.iP;have:xs=[]:=jG (by simpa using f.akc);subst this;obtain⟨hA,c',rest,fr,r1,W,r3,r4,r5,r6⟩:=y.st.row (y.cC b (eP s b)) hg;obtain⟨v',l,q⟩:=W.get p;have l:c'[o+i]?=C v':=l;have x:∃a' T,x2= .slice a' 0 T:=by
   cases a with
   |none=>exact⟨O,k,t.j5⟩
   |some a=>obtain⟨a',K⟩:=t.wG;exact⟨C a',_,K⟩
  obtain⟨a',T,rfl⟩:=x;rw[R.gj];have m:w.cell? ⟨(ρ b).1,o+i,O⟩=C v':=by rw[sx r1,tw (qS.1 l).1];exact l
  have:=q.ub;subst this;refine⟨_,_,w,D _ _,(hF.look fn F (ρ b).1 o n _ a' T x3 i z w hi m).mono λe w' hh=>?_⟩;obtain⟨rfl,hf⟩:=hh;exact⟨_,rfl,ρ,q.mono (λi hi=>.inl hi) (λ_ _=>rfl),Good.Pd y.st y.dr aq aq hf⟩
 cases h
def Ls {X:fb}{f:FuncId}{args:aV}{k:Option (Value×St)}{r:Value×St}(h:vU X f args s k=C r):k=C r\/∃p∈X.vT,p.1=f/\p.2 args s=C r:=by
 have key:∀l:List (Nat×wD),List.rec (motive:=λ_=>Option (Value×St)) k (λp _ ih=>bo (beq p.1 f) (p.2 args s) ih) l=C r->k=C r\/∃p∈l,p.1=f/\p.2 args s=C r:=by
  intro l;induction l with
  |nil=>exact λh=>.inl h
  |cons p l ih=>intro h;have h:bo (beq p.1 f) (p.2 args s) (List.rec (motive:=λ_=>Option (Value×St)) k (λp _ ih=>bo (beq p.1 f) (p.2 args s) ih) l)=C r:=h;rw[dC] at h;split at h;rename_i hb;exact .inr ⟨p,aq,by simpa using hb,h⟩;rcases ih h with h|⟨q,c,b⟩;exact .inl h;exact .inr ⟨q,by simp[c],b⟩
 exact key X.vT h
def CL (hE:cW E P){X:fb}(y:WJ E P X)(hm:P.follows .mixedOrders=J)(lf:Nat){tab:List Ent}(hT:∀e∈tab,False):∀n,dW P (qv E X lf tab n)
 |0=>λf args s v s' h=>by cases h
 |n+1=>λf args s v s' h=>by
  obtain⟨fn,l,d⟩:=aG h;obtain hk|⟨p,m,Pe,hk⟩:=Ls d;case inr=>subst Pe;exact y.vT p m args s v s' hk
  clear d;have d:=hk;clear hk;split at d;unfold OX at d;rw[dC,dC,dC] at d;split at d;rename_i hf;(have hf:f=X.rp:=by simpa using hf);subst hf;obtain⟨u,hu,h2⟩:=aG d;cases aF h2;refine⟨ay.refl _,λZ A ρ w b m K hl=>.inl ?_⟩;unfold id1 at hu;split at hu;rename_i x;have:=dM hu;subst this;obtain⟨x',r,rfl,hx,hr⟩:=hl.iP;have:r=[]:=jG (by simpa using hr.akc);subst this;exact⟨x',w,y.rp x' w,ρ,hx.mono (λi hi=>.inl hi) (λ_ _=>rfl),Good.refl m.st m.dr⟩;cases hu;split at d;rename_i hf;(have hf:f=X.indexByte:=by simpa using hf);subst hf;obtain⟨u,hu,h2⟩:=aG d;cases aF h2;refine⟨ay.refl _,λZ A ρ w b m K hl=>.inl ?_⟩;unfold Wd at hu;split at hu;rename_i z c;obtain⟨F,hu⟩:=bw hu;have:=dM hu;subst this;obtain⟨x',r,rfl,hx,hr⟩:=hl.iP;obtain⟨y',r2,rfl,hy,Th⟩:=hr.iP;have:r2=[]:=jG (by simpa using Th.akc);subst this;rw[hx.ub,hy.kJ];exact⟨_,w,y.indexByte z c w (xA F),ρ,VR.int _ _,Good.refl m.st m.dr⟩;cases hu;split at d;rename_i hf;(have hf:f=X.sr:=by simpa using hf);subst hf;exact WM y l d;cases d;rename_i c hc;rw[dC] at d;split at d;rename_i hf;(have hf:f=X.look:=by simpa using hf);subst hf;exact WN y (y.enter _ fn c l hc) l d;rename_i o;(have o:f≠X.look:=by simpa using o);obtain⟨hla,h2⟩:=bw d;have hla:Y args<=fn.ntmps:=by simpa using hla
  obtain⟨⟨e,tm,s1⟩,h3,h4⟩:=aG h2;have ih:=CL hE y hm lf hT n;have g:=WI hE ih hm lf c (y.code f fn c l o hc) _ _ _ _ _ h3;have key:∀(GX:e= .normal\/e= .ret),(ob (Cs E tm fn.results.toList s1) λp=>C (fj p.1,p.2))=C (v,s')->ay s s'/\∀Z A ρ w b,nK P Z A ρ s s' w->Gl A ρ->LR A ρ args b->js P f ⟨b⟩ w λv' w'=>oT P Z A ρ s s' w v v' w':=by intro GX h5;obtain⟨⟨vs,s2⟩,h6,h7⟩:=aG h5;cases dM h7;obtain⟨G,e1,e2,ahT⟩:=I9 hE _ _ h6;refine⟨g.1.trans G,λZ A ρ w b m K hl=>.inr ⟨f,⟨b⟩,w,y.enter f fn c l hc _ _,?_⟩⟩;refine calls_of_wp (hE.fn f fn l) hc ?_;have acD:Y b=Y args:=hl.akc;(have ht:OO A ρ fn.ntmps (k9 args 0 .nil) {tmps:=(⟨b⟩:Array Value)++Array.replicate (fn.ntmps-(⟨b⟩:Array Value).size) undef,defers:=[]}:=by refine⟨by simp;omega,λt=>?_⟩;rw[uk,T.get_nil];by_cases h8:0<=t/\t<0+Y args;rw[ai h8,Nat.sub_zero];(have h9:t<Y args:=by omega);obtain⟨u',hu1,hu2⟩:=hl.get (c8 h9);rw[c8 h9];(have D:((⟨b⟩:Array Value)++Array.replicate (fn.ntmps-(⟨b⟩:Array Value).size) undef).getD t undef=u':=by rw[Ro,Rq (by simp;omega)];simp[hu1]);rwa[D];rw[af h8];(have D:((⟨b⟩:Array Value)++Array.replicate (fn.ntmps-(⟨b⟩:Array Value).size) undef).getD t undef=undef:=by rw[Ro,Array.getElem?_append_right (by simp;omega)];simp only[Array.getElem?_replicate];split<;>rfl);rw[D];exact VR.undef);have hp1:nK P Z A ρ s s1 w:=m.part G;refine g.2 Z A ρ w _ _ hp1 K ht λa1 W R=>?_;obtain⟨hd,ρ1,ht1,hG⟩:=R;obtain⟨k,h8,h9⟩:=ahT Z (cU A s.next s1.next) ρ1 W a1 m.cC hG.state ht1.2;(have B:(results fn a1.tmps).run P W= .ok (if h:(⟨k⟩:Array Value).size=1 then(⟨k⟩:Array Value)[0] else .tuple ⟨k⟩) W:=by unfold results;rw[Array.mapM_eq_mapM_toList];simp only[map_eq_pure_bind,run_bind,Sem.run_pure];generalize hXX:Sem.run P (List.mapM _ fn.results.toList) W=XX;have hx2:XX= .ok k W:=hXX.symm.trans h8;rw[hx2];rfl);(have q:∃v,Ending.returned (if h:(⟨k⟩:Array Value).size=1 then(⟨k⟩:Array Value)[0] else .tuple ⟨k⟩)= .returned v/\oT P Z A ρ s s2 w (fj vs) v W:=by refine⟨_,rfl,ρ1,?_,?_⟩;rw[e2];exact aat h9;exact Good.trans m.cC g.1 G m.lt hG (Good.Wf hG.state hG.dr e2 e1 rfl rfl rfl rfl));(obtain rfl|rfl:=GX);exact⟨hd,_,B,q⟩;exact⟨hd,_,B,q⟩
  cases e with
  |normal=>exact key (.inl rfl) h4
  |ret=>exact key (.inr rfl) h4
  |exit id=>cases h4
end
end Go.Ev
namespace Go.Pl
abbrev aw:=List UInt8
def fI (n lo hi:Int):Bool:=decide (lo<=n)&&decide (n<=hi)
def fu (n:Nat):aw:=if h:n<10 then [UInt8.ofNat (48+n)] else fu (n/ 10)++[UInt8.ofNat (48+n% 10)]
def dec (n:Int):aw:=match n with
 |.ofNat n=>fu n
 |.negSucc n=>45::fu (n+1)
def gR (c:UInt8):Bool:=decide (48<=c.toNat)&&decide (c.toNat<=57)
def lU (s:aw):aw:=(s.take 9).takeWhile gR
def numOf (s:aw):Nat:=s.foldl (λn c=>10*n+(c.toNat-48)) 0
def kA (s:aw):Nat×Nat:=
 let d:=lU s
 if 1<Y d/\s.headD 0=48 then(0,1) else(numOf d,Y d)
def aA (s:aw):Option Nat:=
 let r:=kA s
 if r.2=0\/r.2≠Y s then O else C r.1
def cut (c:UInt8):aw->List aw
 |[]=>[[]]
 |x::s=>if x=c then []::cut c s else match cut c s with
  |[]=>[[x]]
  |w::r=>(x::w)::r
def fieldsOf (l:List aw):aw:=(l.map λs=>fu (Y s)++58::s).flatten
def jJ:List aw->aw->Option aw
 |[],out=>C out
 |s::l,out=>if 2048<Y s then O else
  let o:=out++(fu (Y s)++58::s)
  if 2048<Y o then O else jJ l o
def iy (l:List aw):Option aw:=if 60<Y l then O else jJ l []
def rF:Nat->aw->List aw->Option (List aw)
 |0,_,_=>O
 |_+1,[],out=>C out
 |f+1,s,out=>
  let(n,k):=kA s
  if k=0\/Y s<=k\/s.getD k 0≠58\/Y s-k-1<n then O
  else rF f (s.drop (k+1+n)) (out++[(s.drop (k+1)).take n])
def b6 (s:aw):Option (List aw):=
 match(if 2048<Y s then C [] else rF (Y s+1) s []) with
 |none=>O
 |some out=>match iy out with
  |none=>O
  |some t=>if t=s then C out else O
def G6:aw->Nat->Nat->Nat
 |[],a,b=>a*9973+b
 |c::s,a,b=>G6 s ((a+c.toNat+1)% 9973) ((b+(a+c.toNat+1)% 9973)% 9973)
def sumOf (s:aw):Nat:=G6 s 1 0
structure fm where
 row:Int
 bE:Int
 size:Int
 sum:Int
 level:Int
deriving DecidableEq,Repr,Inhabited
abbrev cc:=List fm
def bp:fm:=⟨0,0,0,0,0⟩
def av (p:fm):Bool:=decide (p=bp)
def zq (n:Int):Bool:=fI n 8 63
def Jb (s:aw):Bool:=decide (1<=Y s)&&decide (Y s<=128)
def aQ (p:fm):Bool:=av p||(zq p.row&&fI p.bE 1 900&&fI p.size 1 128&&fI p.sum 0 99460728&&fI p.level 0 2)
def b9 (p:fm):aw:=if !aQ p then [] else if av p then [45] else
 dec p.row++46::(dec p.bE++46::(dec p.size++46::(dec p.sum++46::dec p.level)))
def cy (s:aw):Option fm:=if s=[45] then C bp else
 match cut 46 s with
 |[a,b,c,d,e]=>match aA a,aA b,aA c,aA d,aA e with
  |C a,C b,C c,C d,C e=>
   let p:fm:=⟨a,b,c,d,e⟩
   if !aQ p||av p then O else C p
  |_,_,_,_,_=>O
 |_=>O
def rG (row bE level:Int)(s:aw):Option fm:=
 let p:fm:=⟨row,bE,Y s,sumOf s,level⟩
 if !Jb s then O else if !aQ p then O else C p
def fits (p:fm)(s:aw):Bool:=aQ p&&!av p&&decide (p.size=Y s)&&decide (p.sum=sumOf s)
def gp (c:UInt8):List aw->aw
 |[]=>[]
 |[s]=>s
 |s::l=>s++c::gp c l
def fM (l:cc):Option aw:=
 if Y l≠4 then O else if l.any (λp=>!aQ p) then O else if l.all av then O else C (gp 44 (l.map b9))
def eY (s:aw):Option (cc):=
 match(cut 44 s).mapM cy with
 |none=>O
 |some l=>if Y l≠4\/l.all av then O else C l
structure ae where
 dV:List aw
 aI:List Int
 bW:List Int
 dm:Int
 aS:cc
 iz:Int
 bL:cc
 same:Bool
deriving Repr,Inhabited
def b7 (same:Bool):ae:=⟨replicate 64 [],replicate 64 0,replicate 64 0,1,[],0,[],same⟩
def gB (st:ae)(p:fm):aw:=st.dV.getD p.row.toNat []
def dD (st:ae)(p:fm):Option aw:=if av p then C [] else if fits p (gB st p) then C (gB st p) else O
def x9 (st:ae)(s:aw)(i:Nat):Bool:=decide (st.dV.getD i []=s)&&decide (st.bW.getD i 0<st.dm)&&decide (st.aI.getD i 0<st.dm)
def nL (p:Nat->Bool):Nat->Nat->Option Nat
 |0,_=>O
 |n+1,i=>if p i then C i else nL p n (i+1)
def WQ (st:ae)(s:aw):Option Nat:=nL (x9 st s) 56 8
def CM (st:ae):Option Nat:=nL (λi=>decide (st.aI.getD i 0=0)) 56 8
def oq (st:ae)(s:aw)(level:Int):Option Nat:=
 match(if st.same&&decide (level=0) then WQ st s else O) with
 |some i=>C i
 |none=>CM st
def bz (st:ae)(s:aw)(level:Int):Option (ae×fm):=
 match oq st s level with
 |none=>O
 |some i=>match rG i st.dm level s with
  |none=>O
  |some p=>C ({st with dV:=st.dV.set i s,aI:=st.aI.set i (st.aI.getD i 0+1),bW:=st.bW.set i st.dm},p)
def drop (st:ae)(row:Int):ae:=
 let i:=row.toNat
 let n:=st.aI.getD i 0-1
 {st with aI:=st.aI.set i n,bW:=if n=0 then st.bW.set i 0 else st.bW,dV:=if n=0 then st.dV.set i [] else st.dV}
def free (st:ae)(p:fm):ae:=
 if av p then st else if p.bE<=st.iz then {st with bL:=st.bL++[p]} else if p.bE<st.dm then {st with aS:=st.aS++[p]} else drop st p.row
def next (st:ae):ae:={(st.aS.foldl (λst p=>drop st p.row) st) with aS:=[],dm:=st.dm+1}
structure bt where
 bU:fm
 depth:Int
 many:Int
deriving DecidableEq,Repr,Inhabited
def fC:bt:=⟨bp,0,0⟩
def bR (many:Int):Int:=if many<=1 then 0 else if many<=4 then 1 else 2
def cX (n:Nat):cc:=replicate n bp
def below (st:ae)(p:fm)(level:Int):Option (cc):=
 if av p then C (cX 4) else
 if !aQ p||decide (p.level≠level)||decide (st.dm<p.bE) then O else
 match dD st p with
 |none=>O
 |some s=>match eY s with
  |none=>O
  |some l=>if l.any (λq=>decide (p.bE<q.bE)) then O else C l
def down (st:ae)(level:Int)(l:cc):Option (cc):=(l.mapM λp=>below st p level).map List.flatten
def du (st:ae)(t:bt):Option (cc):=go t.depth.toNat [t.bU]
 where go:Nat->cc->Option (cc)
  |0,l=>C l
  |n+1,l=>match down st (n+1:Nat) l with
   |none=>O
   |some l=>go n l
def iH (st:ae)(many:Int)(i:Nat)(p:fm):Bool:=av p||((dD st p).isSome&&decide (p.level=0)&&decide (p.bE<=st.dm)&&decide ((i:Int)<many))
def ik (f:Nat->fm->Bool):Nat->cc->Bool
 |_,[]=>J
 |i,p::l=>f i p&&ik f (i+1) l
def da (st:ae)(t:bt):Bool:=
 fI t.many 0 16&&decide (t.depth=bR t.many)&&aQ t.bU&&match du st t with
  |none=>U
  |some l=>ik (iH st t.many) 0 l
def cv (st:ae)(t:bt):cc:=
 let l:=(du st t).getD []
 l++cX (16-Y l)
def b0 (st:ae)(p:fm):aw:=(dD st p).getD []
def Ts (st:ae)(t:bt)(k:Nat):aw:=b0 st ((cv st t).getD k bp)
def fU (st:ae)(t:bt):List aw:=((cv st t).take t.many.toNat).map (b0 st)
def fV (st:ae)(t:bt):cc:=
 if t.depth=0\/av t.bU then [] else
 t.bU::if t.depth=2 then((below st t.bU 2).getD []).filter (λp=>!av p) else []
def Pf (st:ae)(l:cc)(level:Int)(old:fm):Option (ae×fm):=
 if l.all av then C (st,bp) else
 let s:=(fM l).getD []
 if !av old&&fits old s&&decide (gB st old=s) then C (st,old) else bz st s level
def jj (st:ae)(t:bt)(depth level:Int):cc:=
 if t.depth≠depth then cX 4 else if level=depth then [t.bU] else(below st t.bU depth).getD (cX 4)
def fD (l:cc):cc:=l++cX ((4-Y l% 4)% 4)
def kn (level:Int):cc->cc->ae->cc->cc->ae×Option (cc×cc)
 |a::b::c::d::l,e,st,stays,out=>match Pf st [a,b,c,d] level (e.headD bp) with
  |none=>(st,O)
  |C (st,p)=>kn level l e.tail st (if p=e.headD bp then stays++[p] else stays) (out++[p])
 |_,_,st,stays,out=>(st,C (stays,out))
def iQ (t:bt)(depth:Int):Nat->Int->cc->ae->cc->ae×Option (cc×cc)
 |0,_,l,st,stays=>(st,C (stays,l))
 |n+1,level,l,st,stays=>match kn level (fD l) (jj st t depth level) st stays [] with
  |(st,O)=>(st,O)
  |(st,C (stays,l))=>iQ t depth n (level+1) l st stays
def dA (l:cc)(st:ae):ae:=l.foldl free st
def iG (st:ae)(t:bt)(lv:cc)(many:Int):ae×Option bt:=
 let depth:=bR many
 let old:=fV st t
 match iQ t depth depth.toNat 1 (lv.take many.toNat) st [] with
 |(st,O)=>(st,O)
 |(st,C (stays,l))=>(dA (old.filter λp=>!(stays.contains p)) st,C ⟨l.headD bp,depth,many⟩)
def Jc (st:ae)(s:aw):Option (ae×fm):=if s=[] then C (st,bp) else bz st s 0
def lh (st:ae)(t:bt)(k:Nat)(s:aw):ae×bt×Bool:=
 let lv:=cv st t
 let old:=lv.getD k bp
 let a:=b0 st old
 let many:=max t.many (k+1)
 if a=s/\many=t.many then(st,t,J) else
 match(if a=s then C (st,old) else Jc st s) with
 |none=>(st,t,U)
 |C (st1,p)=>match iG st1 t (lv.set k p) many with
  |(fB,O)=>(fB,fC,U)
  |(fB,C t2)=>(if p=old then fB else free fB old,t2,J)
def sG (st:ae)(t:bt)(many:Int):ae×bt×Bool:=
 if many=t.many then(st,t,J) else
 let lv:=cv st t
 match iG st t lv many with
 |(fB,O)=>(fB,t,U)
 |(fB,C t2)=>(dA (lv.drop many.toNat) fB,t2,J)
def pG:Nat->ae->cc->cc->Option (cc)
 |0,_,_,_=>O
 |_+1,_,[],out=>C out
 |f+1,st,p::l,out=>if av p then pG f st l out else
  pG f st (if 0<p.level then(below st p p.level).getD []++l else l) (out++[p])
structure dX where
 kind:Int
 aX:Int
 size:Int
 aO:bt
deriving DecidableEq,Repr,Inhabited
def aK:dX:=⟨0,0,0,fC⟩
def cV (size each:Int):Int:=(size+each-1)/ each
def eG (kind:Int):Int:=if kind=1 then 12 else if kind=2 then 128 else 0
def dT (kind size:Int):Int:=if eG kind=0||!fI size 0 (16*eG kind) then -1 else cV size (eG kind)
def cM (n:dX):Bool:=
 let many:=dT n.kind n.size
 !(decide (many<0)||decide (n.aO.many≠many)||decide (n.aO.depth≠bR many)||!aQ n.aO.bU)&&
   (fI n.aX 1 (if n.kind=2 then 1 else 9)&&(av n.aO.bU||decide (n.aO.bU.level=n.aO.depth)))
def fw (n:dX):List aw:=[dec n.kind,dec n.aX,dec n.size,b9 n.aO.bU,dec n.aO.depth,dec n.aO.many,[101,110,100]]
def dK (n:dX):aw:=if !cM n then [] else(iy (fw n)).getD []
def pa (s:aw):Int:=((aA s).getD 0:Nat)
def bY (s:aw):Option dX:=match b6 s with
 |C [a,b,c,d,e,f,_]=>
  let n:dX:=⟨pa a,pa b,pa c,(cy d).getD bp,pa e,pa f⟩
  if !cM n||decide (dK n≠s) then O else C n
 |_=>O
def kC (s:aw):aw:=(s.reverse.dropWhile (·=0)).reverse
def jt (n:Int):aw:=replicate n.toNat 0
def dL (st:ae)(t:bt):Bool:=da st t&&(fU st t).all λs=>decide (s=[])||match bY s with
 |none=>U
 |some n=>da st n.aO
def ju (st:ae)(t:bt)(k:Int):Option dX:=if !fI k 0 (t.many-1) then O else bY (Ts st t k.toNat)
def kH (st:ae)(t:bt)(k:Nat)(n:dX):ae×bt×Bool:=lh st t k (dK n)
def mr (a:Int):Nat->Nat->List aw->Nat
 |_,n,[]=>n
 |k,n,s::l=>mr a (k+1) (if decide ((k:Int)≠a)&&decide (s≠[]) then k+1 else n) l
def qz (st:ae)(t:bt)(a:Int):Nat:=mr a 0 0 (fU st t)
def um (st:ae)(t:bt):Option Nat:=nL (λk=>decide ((fU st t).getD k []=[])) 16 0
def wL (st:ae)(t:bt):cc:=(pG 200 st [t.bU] []).getD []
def fJ (st:ae)(t:bt)(k:Int):ae×bt×Bool:=
 let n:=(ju st t k).getD aK
 let many:=qz st t k
 match lh (dA (wL st n.aO) st) t k.toNat [] with
 |(st,t,U)=>(st,t,U)
 |(st,t,J)=>sG st t many
structure az where
 name:aw
 id:Int
deriving DecidableEq,Repr,Inhabited
def bG (s:aw):Bool:=s.all (λc=>decide (97<=c.toNat)&&decide (c.toNat<=122))&&decide (1<=Y s)&&decide (Y s<=4)
def bP:aw->aw->Bool
 |[],[]=>U
 |[],_::_=>J
 |_::_,[]=>U
 |a::s,b::t=>if a.toNat<b.toNat then J else if b.toNat<a.toNat then U else bP s t
def lV:List az->Bool
 |a::b::l=>bP a.name b.name&&lV (b::l)
 |_=>J
def bg (l:List az):Bool:=l.all (λe=>bG e.name&&fI e.id 1 15)&&lV l&&decide (Y l<=12)
def aR (l:List az):aw:=(l.map λe=>e.name++61::(dec e.id++[59])).flatten
def mc (s:aw):Option az:=match cut 61 s with
 |[a,b]=>C ⟨a,pa b⟩
 |_=>O
def df (s:aw):Option (List az):=match(cut 59 s).dropLast.mapM mc with
 |none=>O
 |some l=>if !bg l||decide (aR l≠s) then O else C l
def eH (l:List az)(name:aw):Option Nat:=l.findIdx? λe=>decide (e.name=name)
def gO (l:List az)(e:az):List az:=match l with
 |[]=>[e]
 |x::l=>if bP e.name x.name then e::x::l else x::gO l e
def eB (l:List az)(i:Nat):List az:=l.take i++l.drop (i+1)
def dv:Nat->aw->List aw
 |0,_=>[]
 |f+1,s=>if 128<Y s then s.take 128::dv f (s.drop 128) else if s=[] then [] else [s]
def lj:List aw->Nat->ae->bt->ae×bt×Bool
 |[],_,st,t=>(st,t,J)
 |s::l,i,st,t=>match lh st t i s with
  |(st,t,J)=>lj l (i+1) st t
  |(bB,_,U)=>(bB,t,U)
def kv (st:ae)(t:bt)(s:aw):ae×bt×Bool:=
 let l:=dv (Y s+1) s
 if 16<Y l then(st,t,U) else match lj l 0 st t with
  |(st,t,U)=>(st,t,U)
  |(st,t,J)=>sG st t (Y l)
def il (many:Int):Nat->List aw->aw->Option aw
 |_,[],out=>C out
 |k,s::l,out=>if decide (s=[])||(decide ((k:Int)+1<many)&&decide (Y s≠128)) then O else il many (k+1) l (out++s)
def nc (st:ae)(t:bt):Option aw:=il t.many 0 (fU st t) []
def bc (st:ae)(n:dX):Option (List az):=
 if !cM n||decide (n.kind≠2)||!da st n.aO then O else match nc st n.aO with
  |none=>O
  |some s=>if(Y s:Int)≠n.size then O else df s
def eC (size:Int)(k:Nat):Int:=min 12 (size-k*12)
def dE (st:ae)(n:dX):Bool:=cM n&&decide (n.kind=1)&&da st n.aO&&go 0 (fU st n.aO)
 where go:Nat->List aw->Bool
  |_,[]=>J
  |k,s::l=>decide ((Y s:Int)<=eC n.size k)&&decide (kC s=s)&&go (k+1) l
def kM (size:Int):Nat->List aw->aw->aw
 |_,[],out=>out
 |k,s::l,out=>kM size (k+1) l (out++s++jt (eC size k-Y s))
def a6 (st:ae)(n:dX):aw:=kM n.size 0 (fU st n.aO) []
def ke (s:aw):Nat->Nat->ae->dX->ae×dX×Bool
 |0,_,st,n=>(st,n,J)
 |m+1,k,st,n=>match lh st n.aO k (kC ((s.take (min (Y s) ((k+1)*12))).drop (k*12))) with
  |(st,t,J)=>ke s m (k+1) st {n with aO:=t}
  |(bB,_,U)=>(bB,n,U)
def gS (st:ae)(n:dX)(s:aw)(a b:Nat):ae×dX×Bool:=ke s (b+1-a) a st {n with size:=Y s}
def kx (all:aw)(bD:Nat)(s:aw):aw:=
 let all:=all++jt ((bD:Int)-Y all)
 all.take bD++s++all.drop (min (Y all) (bD+Y s))
def fR (st:ae)(n:dX)(bD:Nat)(s:aw):ae×dX×Bool:=
 if s=[] then(st,n,J) else gS st n (kx (a6 st n) bD s) (bD/ 12) ((bD+Y s-1)/ 12)
def fN (st:ae)(n:dX)(size:Nat):ae×dX×Bool:=
 let all:=a6 st n
 let many:=cV size 12
 if n.size<=size then
  let n:={n with size:=(size:Int)}
  if many=n.aO.many then(st,n,J) else match lh st n.aO (many-1).toNat [] with
   |(st,t,ok)=>(st,{n with aO:=t},ok)
 else match sG st n.aO many with
  |(bB,_,U)=>(bB,n,U)
  |(st,t,J)=>
   let n:={n with aO:=t,size:=(size:Int)}
   if many=0 then(st,n,J) else gS st n (all.take size) (many-1).toNat (many-1).toNat
def aH (s:aw):List aw:=if s=[47] then [] else(cut 47 s).tail
def bQ (s:aw):Bool:=if s=[47] then J else if s=[]||decide (s.headD 0≠47) then U else(aH s).all bG&&decide (Y (aH s)<=4)
def pathOf (l:List aw):aw:=if l=[] then [47] else(l.map λs=>47::s).flatten
def under (s top:aw):Bool:=bQ s&&bQ top&&decide (Y (aH top)<=Y (aH s))&&decide (pathOf ((aH s).take (Y (aH top)))=pathOf (aH top))
structure Op where
 kind:Int
 ar:aw
 dF:aw
 bD:Int
 b0:aw
deriving DecidableEq,Repr,Inhabited
def wM (o:Op):Bool:=
 let two:=decide (o.kind=6)||decide (o.kind=7)
 let a:=decide (o.kind=3)||decide (o.kind=4)
 if !fI o.kind 1 7||!bQ o.ar||(two&&!bQ o.dF)||(!two&&decide (o.dF≠[])) then U
 else if(decide (o.kind≠3)&&decide (o.b0≠[]))||decide (24<Y o.b0) then U
 else decide (o.bD=0)||(a&&fI o.bD 0 192)
structure Fs where
 st:ae
 t:bt
 dz:Bool
deriving Repr,Inhabited
def oF (E:Int->Option (List az)):List aw->Int->Int
 |[],bD=>bD
 |s::l,bD=>match E bD with
  |none=>-1
  |some es=>match eH es s with
   |none=>-1
   |some k=>oF E l (es.getD k ⟨[],0⟩).id
namespace Fs
def node (f:Fs)(id:Int):dX:=(ju f.st f.t id).getD aK
def aY (f:Fs)(id:Int):List az:=(bc f.st (f.node id)).getD []
def put (f:Fs)(id:Int)(n:dX):Fs:=if f.dz then f else match kH f.st f.t id.toNat n with
 |(st,t,ok)=>⟨st,t,!ok⟩
def bz (f:Fs)(id:Int)(l:List az):Fs:=if f.dz then f else
 let n:=f.node id
 let s:=aR l
 match kv f.st n.aO s with
 |(st,t,ok)=>Fs.put ⟨st,f.t,!ok⟩ id {n with aO:=t,size:=Y s}
def G7 (f:Fs)(l:List aw)(bD:Int):Int:=oF (λi=>bc f.st (f.node i)) l bD
def bT (f:Fs)(ar:aw):Int×Int:=
 let names:=aH ar
 if names=[] then(0,3) else
 let bD:=f.G7 names.dropLast 0
 if bD<0 then(0,2) else if(f.node bD).kind≠2 then(0,4) else(bD,0)
def dh (f:Fs)(ar:aw):Int:=f.G7 (aH ar) 0
def dk (f:Fs)(ar:aw):Int×Int:=
 let r:=f.bT ar
 if 0<r.2 then(0,r.2) else if 0<=f.dh ar then(0,3) else(r.1,0)
def base (ar:aw):aw:=(aH ar).getLastD []
def make (f:Fs)(ar:aw)(kind:Int):Fs×Int:=
 let r:=f.dk ar
 if 0<r.2 then(f,r.2) else
 let l:=f.aY r.1
 match um f.st f.t with
 |none=>(f,6)
 |some id=>if 12<=Y l then(f,6) else((f.put id ⟨kind,1,0,fC⟩).bz r.1 (gO l ⟨base ar,id⟩),0)
def change(f:Fs)(o:Op):Fs×Int:=
 let id:=f.dh o.ar
 if id<0 then(f,2) else
 let n:=f.node id
 if n.kind≠1 then(f,4) else if 192<o.bD+Y o.b0 then(f,6) else
 match(if o.kind=3 then fR f.st n o.bD.toNat o.b0 else fN f.st n o.bD.toNat) with
 |(st,n,ok)=>(Fs.put ⟨st,f.t,!ok⟩ id n,0)
def pH (f:Fs)(ar:aw):Fs×Int:=
 let id:=f.dh ar
 if id<0 then(f,2) else
 let n:=f.node id
 if id=0\/(n.kind=2/\0<n.size) then(f,5) else
 let bD:=(f.bT ar).1
 let l:=f.aY bD
 let f:=f.bz bD (eB l ((eH l (base ar)).getD 0))
 let n:={n with aX:=n.aX-1}
 if 0<n.aX then(f.put id n,0) else if f.dz then(f,0) else match fJ f.st f.t id with
  |(st,t,ok)=>(⟨st,t,!ok⟩,0)
def link (f:Fs)(ar dF:aw):Fs×Int:=
 let id:=f.dh ar
 if id<0 then(f,2) else
 let n:=f.node id
 if n.kind≠1 then(f,4) else
 let r:=f.dk dF
 if 0<r.2 then(f,r.2) else
 let l:=f.aY r.1
 if 9<=n.aX\/12<=Y l then(f,6) else
 ((f.put id {n with aX:=n.aX+1}).bz r.1 (gO l ⟨base dF,id⟩),0)
def move (f:Fs)(ar dF:aw):Fs×Int:=
 let id:=f.dh ar
 if id<0 then(f,2) else if id=0 then(f,5) else if 0<=f.dh dF then(f,3) else if under dF ar then(f,5) else
 let r:=f.bT dF
 if 0<r.2 then(f,r.2) else
 let from_:=(f.bT ar).1
 if r.1≠from_/\12<=Y (f.aY r.1) then(f,6) else
 let old:=f.aY from_
 let old:=eB old ((eH old (base ar)).getD 0)
 let e:az:=⟨base dF,id⟩
 if r.1=from_ then(f.bz r.1 (gO old e),0) else
 let f:=f.bz from_ old
 (f.bz r.1 (gO (f.aY r.1) e),0)
end Fs
def iR (st:ae)(t:bt)(o:Op):ae×bt×Int:=
 let f:Fs:=⟨st,t,U⟩
 let r:=if o.kind=1 then f.make o.ar 1 else if o.kind=2 then f.make o.ar 2 else if o.kind=5 then f.pH o.ar else
  if o.kind=6 then f.link o.ar o.dF else if o.kind=7 then f.move o.ar o.dF else f.change o
 let code:=if r.2=0/\r.1.dz then 7 else r.2
 if code≠0 then(st,t,code) else(r.1.st,r.1.t,code)
structure cB where
 ar:aw
 id:Int
deriving DecidableEq,Repr,Inhabited
def bj (st:ae)(t:bt):List dX:=(fU st t).map λs=>(bY s).getD aK
def bb (ar name:aw):aw:=if ar=[47] then 47::name else ar++47::name
def iq (n:Nat)(kind:Nat->Int)(E:Nat->Option (List az)):Nat->cB->List cB->List cB×Bool
 |0,_,out=>(out,U)
 |f+1,x,out=>
  let out:=out++[x]
  if 144<Y out||!fI x.id 0 (n-1)||decide (kind x.id.toNat=0) then(out,U) else
  if kind x.id.toNat=1 then(out,J) else
  match E x.id.toNat with
  |none=>(out,U)
  |some l=>l.foldl (λr e=>if r.2 then iq n kind E f ⟨bb x.ar e.name,e.id⟩ r.1 else r) (out,J)
def walk (st:ae)(a:List dX):Nat->cB->List cB->List cB×Bool:=iq (Y a) (λi=>(a.getD i aK).kind) (λi=>bc st (a.getD i aK))
def gT (out:List cB)(k:Nat):Int:=(Y (out.filter λx=>decide (x.id=(k:Int))):Nat)
def ja (st:ae)(out:List cB):Nat->List dX->Bool
 |_,[]=>J
 |k,n::l=>!((decide (n.kind≠0)&&decide (gT out k≠n.aX))||(decide (n.kind=1)&&!dE st n))&&ja st out (k+1) l
def fO (st:ae)(t:bt):Option (List cB):=
 if !dL st t then O else
 let a:=bj st t
 if a=[]\/(a.headD aK).kind≠2 then O else match walk st a 146 ⟨[47],0⟩ [] with
 |(_,U)=>O
 |(out,J)=>if ja st out 0 a then C out else O
structure eF where
 id:Int
 ej:Bool
 b0:aw
deriving DecidableEq,Repr,Inhabited
abbrev ot:=List eF
structure Flat where
 names:List cB
 aB:ot
deriving DecidableEq,Repr,Inhabited
def cz (st:ae):Nat->List dX->ot
 |_,[]=>[]
 |k,n::l=>(if n.kind=2 then [⟨k,J,[]⟩] else if n.kind=1 then [⟨k,U,a6 st n⟩] else [])++cz st (k+1) l
def pI (st:ae)(t:bt):Option Flat:=match fO st t with
 |none=>O
 |some all=>C ⟨all,cz st 0 (bj st t)⟩
structure Rdr where
 b:aw
 p:Nat
def afC (b:aw)(k n:Nat):Nat:=
 if n<1\/Y b=0 then 0 else
 if k<Y b then(b.getD k 0).toNat% n else
 let x:=(b.getD (k% Y b) 0).toNat*131+(b.getD ((k*7+3)% Y b) 0).toNat*1117+k*29+k/ Y b*53
 (x^^^ (x/ 64))% n
abbrev Dr:=StateM Rdr
def pick (n:Nat):Dr Nat:=λr=>(afC r.b r.p n,{r with p:=r.p+1})
def str (s:String):aw:=s.toUTF8.data.toList
def first:List Op:=[⟨2,str "/a",[],0,[]⟩,⟨1,str "/b",[],0,[]⟩,⟨1,str "/a/b",[],0,[]⟩,⟨3,str "/b",[],0,str "hello hello hello"⟩,⟨2,str "/a/c",[],0,[]⟩,⟨3,str "/a/b",[],30,str "hello hello hello"⟩]
def nf (same:Bool):ae×bt:=let r:=kH (b7 same) fC 0 ⟨2,1,0,fC⟩;(r.1,r.2.1)
namespace Flat
end Flat
end Go.Pl
namespace Go.Ev
open Go Go.Pl
def uo (x:Pl.cB):List Pl.cB->List Pl.cB
 |[]=>[x]
 |y::l=>if bP x.ar y.ar then x::y::l else y::uo x l
def lW (l:List Pl.cB):List Pl.cB:=l.foldr uo []
def FF (x:Pl.eF):List Pl.eF->List Pl.eF
 |[]=>[x]
 |y::l=>if x.id<y.id then x::y::l else y::FF x l
def AA (l:List Pl.eF):List Pl.eF:=l.foldr FF []
def pJ (x:Pl.cB):aV:=[.string ⟨⟨x.ar⟩⟩,.int .i64 x.id]
def WR (x:Pl.eF):aV:=[.int .i64 x.id,.bool x.ej,.string ⟨⟨x.b0⟩⟩]
def Tt:aV->Option (List Pl.cB)
 |[]=>C []
 |.string ⟨⟨z⟩⟩:: .int .i64 i::l=>(Tt l).map (⟨z,i⟩::·)
 |_=>O
noncomputable section
def RN {α:Type}(g k:Nat)(dec:aV->Option (List α))(cells:α->aV)(sort:List α->List α)(apart:List α->Bool):wD:=λargs s=>match args with
 |[.slice (C ⟨b,o,O⟩) n _,.func (.func a) ⟨[]⟩ ⟨[]⟩]=>dq (beq g a&&ble 1 n&&ble n 1000000)<| s.row b λc e w s=>dq (ble (o+n*k) (Y c))<| ob (dec ((c.drop o).take (n*k))) λl=>
    dq (apart l&&beq (Y l) n)<| aD (.tuple ⟨[]⟩) (s.put b (C (.cells (c.take o++(sort l).flatMap cells++c.drop (o+n*k)) e w)))
 |[.slice O 0 0,.func (.func a) ⟨[]⟩ ⟨[]⟩]=>dq (beq g a)<| aD (.tuple ⟨[]⟩) s
 |_=>O
def CN (l:List Pl.cB):Bool:=decide (l.map (·.ar)).Nodup
def WT (g:Nat):wD:=RN g 2 Tt pJ lW CN
def Ph (g:Nat):wD:=λargs s=>match args with
 |[.slice O 0 0,.func (.func a) ⟨[]⟩ ⟨[]⟩]=>dq (beq g a)<| aD (.tuple ⟨[]⟩) s
 |_=>O
def ya (a b:Pl.aw):Int:=if bP a b then -1 else if bP b a then 1 else 0
def CO:wD:=λargs s=>match args with
 |[.string ⟨⟨a⟩⟩,.string ⟨⟨b⟩⟩]=>aD (.int .i64 (ya a b)) s
 |_=>O
def FH (z:Pl.aw):Nat->Pl.aw
 |0=>[]
 |n+1=>z++FH z n
def Jd:wD:=λargs s=>match args with
 |[.string ⟨⟨z⟩⟩,.int .i64 (.ofNat n)]=>dq (ble (Y z*n) 1000000&&ble n 1000000)<| aD (.string ⟨⟨FH z n⟩⟩) s
 |_=>O
def Pj:wD:=λargs s=>match args with
 |[.string ⟨⟨z⟩⟩,.int .u8 (.ofNat c)]=>dq (ble (Nat.succ c) 256)<| aD (.int .i64 (.ofNat (dJ (z.filter λb=>beq b.toNat c)))) s
 |_=>O
def eQ (z:Pl.aw):List Pl.aw->Pl.aw
 |[]=>[]
 |[x]=>x
 |x::y::l=>x++(z++eQ z (y::l))
def Lt:aV->Option (List Pl.aw)
 |[]=>C []
 |.string ⟨⟨z⟩⟩::l=>(Lt l).map (z::·)
 |_=>O
def WU (t:Nat):wD:=λargs s=>match args with
 |[.slice (C ⟨b,o,O⟩) n c,.string ⟨⟨z⟩⟩]=>s.row b λcs e _ s=>dq (ble (o+n) (Y cs)&&((ble (Nat.succ c) cl&&ble n c)||(ble cl c&&beq o (c-cl)&&beq e t))&&ble 1 n&&ble n 1000)<| ob (Lt ((cs.drop o).take n)) λl=>dq (ble (Y (eQ z l)) 1000000)<| aD (.string ⟨⟨eQ z l⟩⟩) s
 |[.slice O 0 0,.string ⟨⟨_⟩⟩]=>aD (.string ⟨⟨[]⟩⟩) s
 |_=>O
def G8:List Nat:=[1,10,100,1000,10000,100000,1000000,10000000,100000000,1000000000,10000000000,100000000000,1000000000000,10000000000000,100000000000000,1000000000000000,10000000000000000,100000000000000000,1000000000000000000,10000000000000000000]
def RO:List Nat->aV->Bool
 |[],[]=>J
 |n::l,.int .u64 (.ofNat m)::c=>beq n m&&RO l c
 |_,_=>U
def AB:fa->Bool
 |.mX [(0,c),(20,[])]=>RO G8 c
 |_=>U
def WV (g:Nat):wD:=λargs s=>match args with
 |[.int .i64 (.ofNat n)]=>dq (ble n 999999999)<| ob (s.look g) λo=>dq (AB o)<| aD (.string ⟨⟨Pl.dec (.ofNat n)⟩⟩) (s.aL g)
 |_=>O
def Tu:fa->Bool
 |.mX [(0,[.iface _ (.pointer (C ⟨_,_,O⟩))])]=>J
 |_=>U
def Je (g e:Nat):wD:=λargs s=>match args with
 |[.string ⟨⟨z⟩⟩]=>ob (s.look g) λo=>dq (AB o)<| ob (s.look e) λq=>dq (Tu q)<| aD (.tuple ⟨[.int .i64 (.ofNat ((Pl.aA z).getD 0)),.bool (Pl.aA z).isSome]⟩) ((s.aL g).aL e)
 |_=>O
end
end Go.Ev
namespace Go.Pl
variable {α:Type}{P:α->Bool}
def kg:∀s:aw,bP s s=U
 |[]=>rfl
 |a::s=>by show(if a.toNat<a.toNat then J else if a.toNat<a.toNat then U else bP s s)=U;rw[af (Aj _),af (Aj _),kg s]
def pK (a b:UInt8)(s t:aw):bP (a::s) (b::t)=if a.toNat<b.toNat then J else if b.toNat<a.toNat then U else bP s t:=rfl
def fW:∀a b c:aw,bP a b=J->bP b c=J->bP a c=J
 |[],[],_,h,_=>by cases h
 |[],_::_,[],_,h=>by cases h
 |[],_::_,_::_,_,_=>rfl
 |_::_,[],_,h,_=>by cases h
 |_::_,_::_,[],_,h=>by cases h
 |a::s,b::t,c::u,e,d=>by rw[pK] at e d⊢;by_cases j:a.toNat<b.toNat;by_cases g:b.toNat<c.toNat;rw[ai aa];rw[af g] at d;by_cases f:c.toNat<b.toNat;rw[ai f] at d;cases d;rw[ai aa];rw[af j] at e;by_cases i:b.toNat<a.toNat;rw[ai i] at e;cases e;rw[af i] at e;by_cases g:b.toNat<c.toNat;rw[ai aa];rw[af g] at d;by_cases f:c.toNat<b.toNat;rw[ai f] at d;cases d;rw[af f] at d;rw[af aa,af aa];exact fW s t u e d
def mF:∀a b:aw,bP a b=U->bP b a=U->a=b
 |[],[],_,_=>rfl
 |[],_::_,h,_=>by cases h
 |_::_,[],_,h=>by cases h
 |a::s,b::t,c,d=>by rw[pK] at c d;by_cases e:a.toNat<b.toNat;rw[ai e] at c;cases c;rw[af e] at c;by_cases f:b.toNat<a.toNat;rw[ai f] at d;cases d;rw[af f] at c d;rw[af e] at d;rw[mF s t c d,tz.1 (show a.toNat=b.toNat by omega)]
def CP {a b:aw}(h:bP a b=J):bP b a=U:=by
 cases hb:bP b a with
 |false=>rfl
 |true=>have:=fW a b a h hb;rw[kg] at this;cases this
def rH {a b:aw}(h:bP a b=J):a≠b:=λe=>by rw[e,kg] at h;cases h
def Jg:∀(l:List α),l.Pairwise (λa b=>P b=J->P a=J)->∀(h:Nat)(d:α),h<Y l->(P (l.getD h d)=J↔h<l.countP P)
 |[],_,h,_,hl=>by simp at hl
 |x::l,j,h,d,hl=>by
  obtain⟨g,i⟩:=qQ.1 j;rw[tF];by_cases c:P x=J;rw[ai c];cases h with
  |zero=>simp[c]
  |succ h=>have:=Jg l i h d (by simpa using hl);rw[vM,this];omega
  have m:l.countP P=0:=Ac.2 λy k f=>c (g y k f);rw[af c,m];have:P ((x::l).getD h d)≠J:=λe=>by
   cases h with
   |zero=>exact c e
   |succ h=>rw[vM,eX,c8 (by simpa using hl)] at e;exact c (g _ (B5 _) e)
  exact⟨λe=>absurd e this,λe=>absurd e aq⟩
def nU {l:List α}{i:Nat}{d:α}(hi:i<Y l)(h1:P (l.getD i d)=J)(h2:∀j,j<i->P (l.getD j d)≠J):l.findIdx? P=C i:=by rw[Ae];rw[eX,c8 hi] at h1;refine⟨hi,h1,λj a=>?_⟩;have:=h2 j a;rwa[eX,c8 aa] at this
def yb {l:List α}(d:α)(h:∀j,j<Y l->P (l.getD j d)≠J):l.findIdx? P=O:=by rw[V4];intro x b;obtain⟨j,a,rfl⟩:=si b;have:=h j a;rw[eX,c8 a] at this;simpa using this
def nM (q:ot):Prop:=q.Pairwise λx y=>x.id<y.id
def rI (p:List cB):Prop:=p.Pairwise λx y=>bP x.ar y.ar=J
def Bl (q:ot)(k:Int):Nat:=q.countP λx=>decide (x.id<k)
def lbN (p:List cB)(z:aw):Nat:=p.countP λx=>bP x.ar z
def Jh (q:ot)(k:Int):Option Nat:=q.findIdx? λx=>decide (x.id=k)
def BE {q:ot}(hs:nM q)(k:Int){h:Nat}(d:eF)(hl:h<Y q):(q.getD h d).id<k↔h<Bl q k:=by have:=Jg (P:=λx:eF=>decide (x.id<k)) q (hs.imp λa hb=>by simp at hb⊢;omega) h d hl;rwa [gv] at this
def RP {p:List cB}(hs:rI p)(z:aw){h:Nat}(d:cB)(hl:h<Y p):bP (p.getD h d).ar z=J↔h<lbN p z:=
 Jg (P:=λx:cB=>bP x.ar z) p (hs.imp λa hb=>fW _ _ _ a hb) h d hl
def adD (q:ot)(k:Int):Bl q k<=Y q:=Ce
def adE (p:List cB)(z:aw):lbN p z<=Y p:=Ce
def uq {α:Type}{R:α->α->Prop}{l:List α}(h:l.Pairwise R)(d:α){i j:Nat}(a:i<j)(b:j<Y l):R (l.getD i d) (l.getD j d):=by rw[eX,c8 aa,eX,c8 b];exact Gm.1 h i j aa b a
def adF {q:ot}(hs:nM q)(k:Int)(d:eF):Jh q k=if Bl q k<Y q/\(q.getD (Bl q k) d).id=k then C (Bl q k) else O:=by
 split;rename_i h;refine nU (d:=d) h.1 (by simpa using h.2) λj b=>?_;have:=(BE hs k d (h:=j) aa).2 b;rw[ne_eq,gv];omega;rename_i h;refine yb d λj b c=>?_;rw[gv] at c;obtain a|a|a:=Ri j (Bl q k)
 have:=(BE hs k d b).2 a;omega;exact h ⟨aa,by rw[<-a];exact c⟩;have f:=uq hs d a b;have g:¬(q.getD (Bl q k) d).id<k:=λe=>Aj _ ((BE hs k d aa).1 e);omega
def Lu (a b:Int):Int:=if a<b then -1 else if b<a then 1 else 0
def aau {a b:Int}:Lu a b<0↔a<b:=by unfold Lu;split<;>(try split)<;>omega
def aav {a b:Int}:Lu a b=0↔a=b:=by unfold Lu;split<;>(try split)<;>omega
def aaw {a b:aw}:Ev.ya a b<0↔bP a b=J:=by unfold Ev.ya;cases h:bP a b<;>cases c:bP b a<;>simp
def aax {a b:aw}:Ev.ya a b=0↔a=b:=by
 unfold Ev.ya;cases h:bP a b with
 |true=>simp;exact rH h
 |false=>
  cases c:bP b a with
  |true=>simp;exact λe=>rH c e.symm
  |false=>simp;exact mF a b h c
end Go.Pl
namespace Go.Ev
open Go
variable {f:FuncId}{args:aV}{v:Value}{c a b:Code}{tm:Tm}{s s':St}{Q Q':Ex->Tm->St->Prop}{K:Tm->St->Prop}{aE l:List Oper}{o:Oper}
section
variable (E:hJ)(X:fb)
def ahU (f:FuncId)(args:aV)(s:St)(v:Value)(s':St):Prop:=∃N,∀n,N<=n->∀lf,N<=lf->qv E X lf [] n f args s=C (v,s')
def jv (c:Code)(tm:Tm)(s:St)(Q:Ex->Tm->St->Prop):Prop:=∃N e jT s',Q e jT s'/\∀n,N<=n->∀lf,N<=lf->lS E (qv E X lf [] n) lf c tm s=C (e,jT,s')
def ahV (body:Code)(tm:Tm)(s:St)(Q:Ex->Tm->St->Prop):Prop:=∃N e jT s',Q e jT s'/\∀n,N<=n->∀lf,N<=lf->∀m,N<=m->Cr (lS E (qv E X lf [] n) lf body) m tm s=C (e,jT,s')
def eM (ev:Operand->Value)(s:St)(o:Op)(K:Value->St->Prop):Prop:=∃N v s',K v s'/\∀n,N<=n->∀lf,N<=lf->IP E (qv E X lf [] n) ev s o=C (v,s')
def yc (aE l:List Oper)(tm:Tm)(s:St)(K:Tm->St->Prop):Prop:=∃N jT s',K jT s'/\∀n,N<=n->∀lf,N<=lf->K3 E (qv E X lf [] n) aE l tm s=C (jT,s')
def FI (aE l:List Oper)(j:Nat)(tm:Tm)(s:St)(seen:List Seen)(K:Tm->St->Prop):Prop:=∃N jT s',K jT s'/\∀n,N<=n->∀lf,N<=lf->ua E (qv E X lf [] n) aE l j tm s seen=C (jT,s')
variable {E X}
def jv.mono (h:jv E X c tm s Q)(k:∀e tm s,Q e tm s->Q' e tm s):jv E X c tm s Q':=by obtain⟨N,e,jT,s',d,hr⟩:=h;exact⟨N,e,jT,s',k _ _ _ d,hr⟩
def afD (Q:Ex->Tm->St->Prop)(k:Tm->St->Prop):Ex->Tm->St->Prop
 |.normal,tm,s=>k tm s
 |e,tm,s=>Q e tm s
def aay (id:Nat)(Q:Ex->Tm->St->Prop):Ex->Tm->St->Prop
 |.exit i,tm,s=>Q (if i=id then .normal else .exit i) tm s
 |e,tm,s=>Q e tm s
def jv.skip (h:Q .normal tm s):jv E X .skip tm s Q:=⟨0,_,_,_,h,λ_ _ _ _=>rfl⟩
def jv.ret (h:Q .ret tm s):jv E X .ret tm s Q:=⟨0,_,_,_,h,λ_ _ _ _=>rfl⟩
def jv.exit {id:Nat}(h:Q (.exit id) tm s):jv E X (.exit id) tm s Q:=⟨0,_,_,_,h,λ_ _ _ _=>rfl⟩
def jv.seq (h:jv E X a tm s (afD Q λtm s=>jv E X b tm s Q)):jv E X (.seq a b) tm s Q:=by
 obtain⟨N,e,d,m,g,hr⟩:=h;have hc:∀(call:gw)(lf:Nat),lS E call lf (.seq a b) tm s=GN (lS E call lf a tm s) (lS E call lf b):=λ_ _=>rfl;cases e with
 |normal=>obtain⟨M,q,p,r,j,k⟩:=(show jv E X b d m Q from g);refine⟨max N M,q,p,r,j,λn hn lf hl=>?_⟩;rw[hc,hr n aa lf aa];exact k n aa lf aa
 |exit i=>exact⟨N,_,_,_,(show Q (.exit i) d m from g),λn hn lf hl=>by rw[hc,hr n hn lf hl];rfl⟩
 |ret=>exact⟨N,_,_,_,(show Q .ret d m from g),λn hn lf hl=>by rw[hc,hr n hn lf hl];rfl⟩
def jv.cond {x:Operand}(t:Bool)(j:aM tm x= .bool t)(h:if t=J then jv E X a tm s Q else jv E X b tm s Q):jv E X (.cond x a b) tm s Q:=by
 have hc:∀(call:gw)(lf:Nat),lS E call lf (.cond x a b) tm s=RA (aM tm x) (lS E call lf a tm s) (lS E call lf b tm s):=λ_ _=>rfl;cases t with
 |true=>obtain⟨N,e,d,i,g,hr⟩:=(show jv E X a tm s Q from by simpa using h);exact⟨N,e,d,i,g,λn hn lf hl=>by rw[hc,j];exact hr n hn lf hl⟩
 |false=>obtain⟨N,e,d,i,g,hr⟩:=(show jv E X b tm s Q from by simpa using h);exact⟨N,e,d,i,g,λn hn lf hl=>by rw[hc,j];exact hr n hn lf hl⟩
def jv.block {id:Nat}(h:jv E X a tm s (aay id Q)):jv E X (.block id a) tm s Q:=by
 have hc:∀(call:gw)(lf:Nat),lS E call lf (.block id a) tm s=adx id (lS E call lf a tm s):=λ_ _=>rfl;obtain⟨N,e,d,g,j,hr⟩:=h;cases e with
 |normal=>exact⟨N,_,_,_,(show Q .normal d g from j),λn hn lf hl=>by rw[hc,hr n hn lf hl];rfl⟩
 |ret=>exact⟨N,_,_,_,(show Q .ret d g from j),λn hn lf hl=>by rw[hc,hr n hn lf hl];rfl⟩
 |exit i=>refine⟨N,_,_,_,(show Q (if i=id then .normal else .exit i) d g from j),λn hn lf hl=>?_⟩;rw[hc,hr n hn lf hl];show bo (beq i id) (C (Ex.normal,d,g)) (C (.exit i,d,g))=_;rw[dC];by_cases h:i=id<;>simp[h]
def jv.loop (Z:Nat->Tm->St->Prop)(k:Nat)(h0:Z k tm s)(step:∀k tm s,Z k tm s->jv E X a tm s (afD Q λtm s=>∃j,j<k/\Z j tm s)):jv E X (.loop a) tm s Q:=by
 have key:∀k tm s,Z k tm s->ahV E X a tm s Q:=by
  intro k;induction k using Nat.strongRecOn with
  |ind k ih=>
   intro tm s y;obtain⟨N,e,d,p,g,hr⟩:=step k tm s y;have hc:∀(body:Tm->St->R4)(m:Nat),Cr body (m+1) tm s=GN (body tm s) (Cr body m):=λ_ _=>rfl;cases e with
   |normal=>obtain⟨j,z,r⟩:=g;obtain⟨M,x,w,A,t,u⟩:=ih j z d p r;refine⟨max N M+1,x,w,A,t,λn hn lf hl m hm=>?_⟩;obtain⟨m,rfl⟩:∃q,m=q+1:=⟨m-1,aa⟩;rw[hc,hr n aa lf aa];exact u n aa lf aa m aa
   |exit i=>refine⟨N+1,_,_,_,(show Q (.exit i) d p from g),λn hn lf hl m hm=>?_⟩;obtain⟨m,rfl⟩:∃q,m=q+1:=⟨m-1,aa⟩;rw[hc,hr n aa lf aa];rfl
   |ret=>refine⟨N+1,_,_,_,(show Q .ret d p from g),λn hn lf hl m hm=>?_⟩;obtain⟨m,rfl⟩:∃q,m=q+1:=⟨m-1,aa⟩;rw[hc,hr n aa lf aa];rfl
 obtain⟨N,e,d,p,g,hr⟩:=key k tm s h0;exact⟨N,e,d,p,g,λn hn lf hl=>hr n hn lf hl lf hl⟩
def jv.region {id:Nat}{arr:Array Oper}(h:yc E X arr.toList arr.toList tm s (Q .normal)):jv E X (.region id arr U) tm s Q:=by obtain⟨N,d,g,e,hr⟩:=h;refine⟨N,.normal,d,g,e,λn hn lf hl=>?_⟩;show GO (K3 E _ arr.toList arr.toList tm s)=_;rw[hr n hn lf hl];rfl
def jv.draw {id:Nat}{arr:Array Oper}(h:FI E X arr.toList arr.toList 0 tm s [] (Q .normal)):jv E X (.region id arr J) tm s Q:=by obtain⟨N,d,g,e,hr⟩:=h;refine⟨N,.normal,d,g,e,λn hn lf hl=>?_⟩;show GO (ua E _ arr.toList arr.toList 0 tm s [])=_;rw[hr n hn lf hl];rfl
def yc.nil (h:K tm s):yc E X aE [] tm s K:=⟨0,_,_,h,λ_ _ _ _=>rfl⟩
def yc.cons (j:iN aE tm o.guard=J)(h:eM E X (aM tm) s o.op λv s=>yc E X aE l (tm.iG o.dst v) s K):yc E X aE (o::l) tm s K:=by obtain⟨N,v,m,i,hr⟩:=h;obtain⟨M,g,k,d,e⟩:=i;refine⟨max N M,g,k,d,λn hn lf hl=>?_⟩;rw[zo,j,ff,hr n aa lf aa];show Tm.put tm o.dst v _=_;rw[Tm.put_eq];exact e n aa lf aa
def yc.pass (i:iN aE tm o.guard=U)(h:yc E X aE l (tm.iG o.dst (.tuple ⟨[]⟩)) s K):yc E X aE (o::l) tm s K:=by obtain⟨M,g,j,d,e⟩:=h;refine⟨M,g,j,d,λn hn lf hl=>?_⟩;rw[zo,i,ey,Tm.put_eq];exact e n hn lf hl
end
variable {g:FuncId}{fn:Func}{ev:Operand->Value}
section
variable (E:hJ)(X:fb)
def lE (f:FuncId)(args:aV)(s:St)(Q:Value->St->Prop):Prop:=∃v s',ahU E X f args s v s'/\Q v s'
variable {E X}{K:Value->St->Prop}{o:Op}
def lE.mono {d:Value->St->Prop}(h:lE E X f args s K)(k:∀v s,K v s->d v s):lE E X f args s d:=by obtain⟨v,s',e,i⟩:=h;exact⟨v,s',e,k _ _ i⟩
def CQ (h:wE X f=U)(k:Option (Value×St)):vU X f args s k=k:=by
 have key:∀l:List (Nat×wD),List.rec (motive:=λ_=>Bool) U (λp _ ih=>bo (beq p.1 f) J ih) l=U->List.rec (motive:=λ_=>Option (Value×St)) k (λp _ ih=>bo (beq p.1 f) (p.2 args s) ih) l=k:=by
  intro l;induction l with
  |nil=>exact λ_=>rfl
  |cons p l ih=>
   intro h;have h:bo (beq p.1 f) J (List.rec (motive:=λ_=>Bool) U (λp _ ih=>bo (beq p.1 f) J ih) l)=U:=h;show bo (beq p.1 f) (p.2 args s) (List.rec (motive:=λ_=>Option (Value×St)) k (λp _ ih=>bo (beq p.1 f) (p.2 args s) ih) l)=k;cases hb:beq p.1 f with
   |true=>rw[hb] at h;cases h
   |false=>rw[hb] at h;exact ih h
 exact key X.vT h
def lE.Ji (hf:E.fn.get f=C fn)(d:∀k,vU X f args s k=C (v,s'))(e:K v s'):lE E X f args s K:=by refine⟨v,s',⟨1,λn hn lf i=>?_⟩,e⟩;obtain⟨n,rfl⟩:∃q,n=q+1:=⟨n-1,aa⟩;show(ob (E.fn.get f) λfn=>vU X f args s _)=_;rw[hf];exact d _
def lE.body (hf:E.fn.get f=C fn)(hb:fn.body=C c)(d:(beq f X.look||wE X f)=U)(hl:Y args<=fn.ntmps)
  (h:jv E X c (k9 args 0 .nil) s λe tm k=>(e= .normal\/e= .ret)/\∃vs m,Cs E tm fn.results.toList k=C (vs,m)/\K (fj vs) m):lE E X f args s K:=by
 obtain⟨N,e,j,k,⟨w,vs,m,i,x⟩,hr⟩:=h;refine⟨fj vs,m,⟨N+1,λn hn lf y=>?_⟩,x⟩;obtain⟨n,rfl⟩:∃q,n=q+1:=⟨n-1,aa⟩;have t:beq f X.look=U:=by
  cases z:beq f X.look with
  |true=>rw[z] at d;cases d
  |false=>rfl
 have r:wE X f=U:=by rwa[t] at d
 show(ob (E.fn.get f) λfn=>vU X f args s<| match fn.body with
   |none=>OX X f args s
   |some c=>bo (beq f X.look) (GP args s)<| dq (ble (dJ args) fn.ntmps)<| RC E fn (lS E (qv E X lf [] n) lf c (k9 args (nat_lit 0) .nil) s))=_
 refine' zaD;rw[CQ r,hb];simp only[t,ey];have u:ble (dJ args) fn.ntmps=J:=by rw[cR];exact dQ hl
 rw[u,hr n aa lf aa];obtain rfl|rfl:=w;show ob (Cs E j fn.results.toList k) (λp=>C (fj p.1,p.2))=_;rw[i];rfl;show ob (Cs E j fn.results.toList k) (λp=>C (fj p.1,p.2))=_;rw[i];rfl
def eM.call {x:Operand}{xs:List Operand}{i:Array TypeId}{first cap:aV}(e:ev x= .func (.func g) ⟨first⟩ ⟨cap⟩)(h:lE E X g (first++(Bi ev xs++cap)) s K):eM E X ev s (.call ⟨.value x,⟨xs⟩,i⟩) K:=by obtain⟨v,s',⟨N,hr⟩,d⟩:=h;refine⟨N,v,s',d,λn hn lf hl=>?_⟩;show zd (qv E X lf [] n) (ev x) (Bi ev xs) s=_;rw[e];exact hr n hn lf hl
def eM.pure (h:∀call:gw,IP E call ev s o=C (v,s'))(d:K v s'):eM E X ev s o K:=⟨0,v,s',d,λn _ lf _=>h _⟩
def aaz (tm:Tm)(d:Tmp)(v:Value)(t:Tmp):T.get (tm.iG (C d) v) t=if t=d then C v else T.get tm t:=by show T.get (T.set (Nat.succ d) tm d (C v)) t=_;exact T.va tm d t (C v)
end
end Go.Ev
namespace Go.Lg
open Go Go.Ev
variable {a b c:Code}{aE rest:List Oper}{o:Op}
abbrev sv (z:List UInt8):Value:=.string ⟨⟨z⟩⟩
abbrev dP:Value:=I .i64 0
abbrev ew:Value:=H O 0 0
abbrev ko (b:Nat):aP:=C ⟨b,0,O⟩
abbrev bk (b:Nat):Value:=.pointer (C ⟨b,0,O⟩)
abbrev iv (n:Int):Value:=I .i64 n
abbrev bv (b:UInt8):Value:=I .u8 (b.toNat:Int)
abbrev Kn:=List (Nat×Value)
def lk:Kn->Nat->Option Value
 |[],_=>O
 |(k,v)::l,t=>match beq k t with
  |true=>C v
  |false=>lk l t
def mS (l:Kn)(tm:Tm):Prop:=∀t v,lk l t=C v->aM tm (.tmp t)=v
def mS.nil (tm:Tm):mS [] tm:=λ_ _ h=>by cases h
def WW (tm:Tm)(d:Nat)(v:Value)(t:Nat):aM (tm.iG (C d) v) (.tmp t)=if t=d then v else aM tm (.tmp t):=by show lR (T.get _ t)=_;rw[aaz];split<;>rfl
def mS.cons {l:Kn}{tm:Tm}(h:mS l tm)(d:Nat)(v:Value):mS ((d,v)::l) (tm.iG (C d) v):=by intro t u ht;rw[WW];unfold lk at ht;by_cases hd:t=d;subst hd;rw[ai rfl];simp at ht;exact ht;rw[af hd];split at ht;rename_i hb;simp at hb;exact absurd hb.symm hd;exact h t u ht
def Le (l2 l:Kn):Prop:=∀t v,lk l2 t=C v->lk l t=C v
def mS.le {l2 l:Kn}{tm:Tm}(h:mS l tm)(hl:Le l2 l):mS l2 tm:=λt v ht=>h t v (hl t v ht)
def Le.nil (l:Kn):Le [] l:=λ_ _ h=>by cases h
def Le.cons {l2 l:Kn}{t:Nat}{v:Value}(h:lk l t=C v)(k:Le l2 l):Le ((t,v)::l2) l:=by intro e f d;unfold lk at d;split at d;rename_i hb;simp at hb;subst hb;simp at d;subst d;exact h;exact k e f d
def Le.refl (l:Kn):Le l l:=λ_ _ h=>h
inductive It where
 |box (b:Nat) (cs:aV) (t:TypeId) (w:Bool)
 |aU (v:Value) (e:TypeId) (sz:Nat) (cs:aV)
 |iC (b:Nat) (o:fa)
abbrev cq:=List It
def nH:Value->List Nat
 |H (C a) _ _=>[a.block]
 |_=>[]
def It.bC:It->List Nat
 |.box b _ _ _=>[b]
 |.aU v _ _ _=>nH v
 |.iC b _=>[b]
def nV (s:St)(v:Value)(e:TypeId)(sz:Nat)(cs:aV):Prop:=
 (v= H O 0 0/\cs=[])\/∃b n k w rest,v= H (C ⟨b,0,O⟩) n k/\s.heap.get b=C (.cells (cs++rest) e w)/\Y cs=n*sz/\((n<=k/\k<cl/\Y (cs++rest)=k*sz)\/(k=cl/\w=J))
def nV.dz {s:St}{b n k e sz:Nat}{w:Bool}{cs:aV}(h1:s.heap.get b=C (.cells cs e w))(h2:Y cs=n*sz)(d:(k=n/\n<cl)\/(k=cl/\w=J)):nV s (H (C ⟨b,0,O⟩) n k) e sz cs:=
 .inr ⟨b,n,k,w,[],rfl,by rwa[fT],h2,d.imp (λ⟨a,b⟩=>by subst a;exact⟨fG _,b,by rwa[fT]⟩) id⟩
def Lv (rest:aV):∀(new c c':aV),kH new c=C c'->kH new (c++rest)=C (c'++rest)
 |[],c,c',h=>by cases h;rfl
 |x::new,[],c',h=>by cases h
 |x::new,y::c,c',h=>by
  have h:ob (kH new c) (λr=>C (x::r))=C c':=h;cases d:kH new c with
  |none=>rw[d] at h;cases h
  |some r=>rw[d] at h;cases h;show ob (kH new (c++rest)) (λr=>C (x::r))=_;rw[Lv rest new c r d];rfl
def vg (rest:aV):∀(o:Nat)(new c c':aV),fK o new c=C c'->fK o new (c++rest)=C (c'++rest)
 |0,new,c,c',h=>Lv rest new c c' h
 |o+1,new,[],c',h=>by cases h
 |o+1,new,x::c,c',h=>by
  have h:ob (fK o new c) (λr=>C (x::r))=C c':=h;cases d:fK o new c with
  |none=>rw[d] at h;cases h
  |some r=>rw[d] at h;cases h;show ob (fK o new (c++rest)) (λr=>C (x::r))=_;rw[vg rest o new c r d];rfl
def Jj {cs d rest:aV}{n k sz:Nat}{w:Bool}(h:(n<=k/\k<cl/\Y (cs++rest)=k*sz)\/(k=cl/\w=J))(hl:Y d=Y cs):(n<=k/\k<cl/\Y (d++rest)=k*sz)\/(k=cl/\w=J):=
 h.imp (λ⟨x,y,z⟩=>⟨x,y,by rwa[dB,hl,<-dB]⟩) id
def It.ok (s:St):It->Prop
 |.box b cs t w=>s.heap.get b=C (.cells cs t w)
 |.aU v e sz cs=>nV s v e sz cs
 |.iC b o=>s.heap.get b=C o
def It.yd {s s':St}{x:It}(h:x.ok s)(d:∀b∈x.bC,s'.heap.get b=s.heap.get b):x.ok s':=by
 cases x with
 |box b cs t w=>exact(d b (by simp[It.bC])).trans h
 |iC b o=>exact(d b (by simp[It.bC])).trans h
 |aU v e sz cs=>obtain⟨rfl,rfl⟩|⟨b,n,k,w,rest,rfl,f,g⟩:=h;exact .inl ⟨rfl,rfl⟩;exact .inr ⟨b,n,k,w,rest,rfl,(d b (by simp[It.bC,nH])).trans f,g⟩
structure ng where
 s0:St
 M:List Nat
 A:List Nat
structure Inv (Γ:ng)(s:St)(L:cq):Prop where
 fr:∀b,b<Γ.s0.next->b∉Γ.M->s.heap.get b=Γ.s0.heap.get b
 le:Γ.s0.next<=s.next
 it:∀x∈L,x.ok s
 lt:∀x∈L,∀b∈x.bC,b<s.next/\(Γ.s0.next<=b\/b∈Γ.M)
 nd:(L.flatMap It.bC).Nodup
 cC:∀b,In s.cC b->In Γ.s0.cC b\/b∈Γ.A\/b∈Γ.M\/Γ.s0.next<=b
 wr:∀b,In s.wr b->In Γ.s0.wr b\/b∈Γ.M\/Γ.s0.next<=b
 top:∀b,In s.cC b->In Γ.s0.cC b\/b<s.next
 ye:∀b,In s.wr b->In Γ.s0.wr b\/b<s.next
def cb (L2 L:cq):Prop:=∃l:cq,l.Perm L2/\l.Sublist L
def cb.subset {L2 L:cq}(h:cb L2 L){x:It}(e:x∈L2):x∈L:=by obtain⟨l,d,hs⟩:=h;exact hs.subset (d.mem_iff.2 e)
def Tv {L2 L:cq}(h:cb L2 L)(hn:(L.flatMap It.bC).Nodup):(L2.flatMap It.bC).Nodup:=by
 obtain⟨l,d,hs⟩:=h;have e:(l.flatMap It.bC).Nodup:=hn.sublist (by
  clear hn d;induction hs with
  |slnil=>exact List.Sublist.slnil
  |cons a _ ih=>simp only[mR];exact ih.trans (o7 _ _)
  |cons_cons a _ ih=>simp only[mR];exact KQ (GB _) ih)
 exact(List.Perm.nodup_iff (List.Perm.flatMap_right It.bC d)).1 e
def Inv.sub {Γ:ng}{s:St}{L2 L:cq}(h:Inv Γ s L)(hl:cb L2 L):Inv Γ s L2:=
 ⟨h.fr,h.le,λx d=>h.it x (hl.subset d),λx d=>h.lt x (hl.subset d),Tv hl h.nd,h.cC,h.wr,h.top,h.ye⟩
def Inv.afE {Γ:ng}{s:St}{L:cq}{x x':It}(h:Inv Γ s (x::L))(g:x.ok s->x'.ok s)(hb:x'.bC=x.bC):Inv Γ s (x'::L):=
 ⟨h.fr,h.le,λy d=>(cA.1 d).elim (λe=>e▸g (h.it _ ed)) λd=>h.it _ (dI _ d),λy d b f=>(cA.1 d).elim (λe=>h.lt _ ed b (by rw[<-hb,<-e];exact f)) λd=>h.lt _ (dI _ d) b f,by have:=h.nd;rw[mR] at this⊢;rwa[hb],h.cC,h.wr,h.top,h.ye⟩
def Inv.same {Γ:ng}{s s':St}{L:cq}(h:Inv Γ s L)(h1:s'.heap=s.heap)(h2:s'.next=s.next)(ha:∀b,In s'.cC b->In s.cC b\/b∈Γ.A\/b∈Γ.M\/Γ.s0.next<=b)(f:∀b,In s'.wr b->In s.wr b\/b∈Γ.M\/Γ.s0.next<=b)(ht:∀b,In s'.cC b->In s.cC b\/b<s.next)(d:∀b,In s'.wr b->In s.wr b\/b<s.next):Inv Γ s' L:=
 ⟨λb hb hm=>by rw[h1];exact h.fr b hb hm,by rw[h2];exact h.le,λx e=>It.yd (h.it x e) λb _=>by rw[h1],λx e b hb=>by rw[h2];exact h.lt x e b hb,h.nd,
  λb hb=>(ha b hb).elim (h.cC b) .inr,λb hb=>(f b hb).elim (h.wr b) .inr,λb hb=>by rw[h2];exact(ht b hb).elim (h.top b) .inr,λb hb=>by rw[h2];exact(d b hb).elim (h.ye b) .inr⟩
section
variable (E:hJ)(X:fb)(Γ:ng)
abbrev CR:=Ex->Kn->cq->Prop
def W (c:Code)(l:Kn)(L:cq)(Q:CR):Prop:=
 ∀d s,mS l d->Inv Γ s L->jv E X c d s λe jT s'=>∃l' L',mS l' jT/\Inv Γ s' L'/\Q e l' L'
abbrev Fp:=Nat->Prop
structure iS (s s':St)(R Wr:Fp):Prop where
 nx:s.next<=s'.next
 cC:∀b,In s'.cC b->In s.cC b\/(R b/\b<s'.next)
 wr:∀b,In s'.wr b->In s.wr b\/(Wr b/\b<s'.next)
abbrev KO:=Value->cq->Nat->Nat->Fp->Fp->Prop
def WO (l:Kn)(o:Op)(L:cq)(K:KO):Prop:=
 ∀d s,mS l d->Inv Γ s L->eM E X (aM d) s o λv s'=>∃L' R Wr,Inv Γ s' L'/\iS s s' R Wr/\K v L' s.next s'.next R Wr
def WS (aE rest:List Oper)(l:Kn)(L:cq)(K:Kn->cq->Prop):Prop:=
 ∀d s,mS l d->Inv Γ s L->yc E X aE rest d s λjT s'=>∃l' L',mS l' jT/\Inv Γ s' L'/\K l' L'
structure Sn where
 i:Nat
 R:Fp
 W:Fp
def kO (n mask:Nat)(R Wr:Fp):List Sn->Prop
 |[]=>True
 |x::l=>(Nat.testBit mask x.i=J\/((∀b,b<n->x.W b->¬R b)/\(∀b,b<n->x.R b->¬Wr b)))/\kO n mask R Wr l
def Tw (seen:List Sn)(sn:List Seen)(n:Nat):Prop:=∀y∈sn,∃x∈seen,x.i=y.i/\(∀b,In y.cC b->x.R b/\b<n)/\(∀b,In y.wr b->x.W b/\b<n)
def WD (aE rest:List Oper)(j:Nat)(seen:List Sn)(nx:Nat)(l:Kn)(L:cq)(K:Kn->cq->Prop):Prop:=
 ∀d s sn,mS l d->Inv Γ s L->s.next=nx->Tw seen sn nx->FI E X aE rest j d s sn λjT s'=>∃l' L',mS l' jT/\Inv Γ s' L'/\K l' L'
variable {E X Γ}{l l2:Kn}{L L2:cq}{Q Q':CR}
def W.le (h:W E X Γ c l2 L2 Q)(hl:Le l2 l)(f:cb L2 L):W E X Γ c l L Q:=λg s d e=>h g s (d.le hl) (e.sub f)
def W.mono (h:W E X Γ c l L Q)(k:∀e l L,Q e l L->Q' e l L):W E X Γ c l L Q':=λd s f g=>(h d s f g).mono λe d s ⟨l,L,i,j,m⟩=>⟨l,L,i,j,k _ _ _ m⟩
def Lw (Q:CR)(k:Kn->cq->Prop):CR
 |.normal,l,L=>k l L
 |e,l,L=>Q e l L
def oU (id:Nat)(Q:CR):CR
 |.exit i,l,L=>if i=id then Q .normal l L else Q (.exit i) l L
 |e,l,L=>Q e l L
def W.skip (h:Q .normal l L):W E X Γ .skip l L Q:=λf s d e=>jv.skip ⟨l,L,d,e,h⟩
def W.ret (h:Q .ret l L):W E X Γ .ret l L Q:=λf s d e=>jv.ret ⟨l,L,d,e,h⟩
def W.exit {id:Nat}(h:Q (.exit id) l L):W E X Γ (.exit id) l L Q:=λf s d e=>jv.exit ⟨l,L,d,e,h⟩
def W.seq (h:W E X Γ a l L (Lw Q λl L=>W E X Γ b l L Q)):W E X Γ (.seq a b) l L Q:=λj s k m=>by
 refine jv.seq ((h j s k m).mono ?_);rintro e j s ⟨l,L,d,f,g⟩;cases e with
 |normal=>exact g j s d f
 |exit i=>exact⟨l,L,d,f,g⟩
 |ret=>exact⟨l,L,d,f,g⟩
def W.block {id:Nat}(h:W E X Γ a l L (oU id Q)):W E X Γ (.block id a) l L Q:=λj s k m=>by
 refine jv.block ((h j s k m).mono ?_);rintro e j s ⟨l,L,f,g,d⟩;cases e with
 |normal=>exact⟨l,L,f,g,d⟩
 |exit i=>refine⟨l,L,f,g,?_⟩;simp only[oU] at d;split at d;rename_i hi;rw[ai hi];exact d;rename_i hi;rw[af hi];exact d
 |ret=>exact⟨l,L,f,g,d⟩
inductive Ev (l:Kn):Operand->Value->Prop
 |tmp {t:Nat} {v:Value} (h:lk l t=some v):Ev l (.tmp t) v
 |const {v:Value}:Ev l (.const v) v
 |func {f:Nat}:Ev l (.func f) (.func (.func f) #[] #[])
def Ev.eval {x:Operand}{v:Value}{tm:Tm}(h:Ev l x v)(hl:mS l tm):aM tm x=v:=by
 cases h with
 |tmp h=>exact hl _ _ h
 |const=>rfl
 |func=>rfl
def W.cond {x:Operand}{t:Bool}(g:Ev l x (M t))(h1:t=J->W E X Γ a l L Q)(h2:t=U->W E X Γ b l L Q):W E X Γ (.cond x a b) l L Q:=λf s d e=>by
 refine jv.cond t (g.eval d) ?_;cases t with
 |true=>exact h1 rfl f s d e
 |false=>exact h2 rfl f s d e
def W.loop (Z:Nat->Kn->cq->Prop)(k:Nat)(h0:Z k l L)(step:∀k l L,Z k l L->W E X Γ a l L (Lw Q λl L=>∃j,j<k/\Z j l L)):W E X Γ (.loop a) l L Q:=λf s r t=>by
 refine jv.loop (λk f s=>∃l L,mS l f/\Inv Γ s L/\Z k l L) k ⟨l,L,r,t,h0⟩ ?_;rintro k f s ⟨l,L,m,n,d⟩;refine(step k l L d f s m n).mono ?_;rintro e f s ⟨l,L,d,g,h⟩;cases e with
 |normal=>obtain⟨j,q,p⟩:=h;exact⟨j,q,l,L,d,g,p⟩
 |exit i=>exact⟨l,L,d,g,h⟩
 |ret=>exact⟨l,L,d,g,h⟩
def W.region {id:Nat}{aE:List Oper}(h:WS E X Γ aE aE l L (Q .normal)):W E X Γ (.region id ⟨aE⟩ U) l L Q:=λf s d e=>jv.region (h f s d e)
def W.draw {id:Nat}{aE:List Oper}(h:∀nx,(∀y∈L,∀i∈y.bC,i<nx)->Γ.s0.next<=nx->WD E X Γ aE aE 0 [] nx l L (Q .normal)):W E X Γ (.region id ⟨aE⟩ J) l L Q:=λj s e d=>jv.draw (h s.next (λy g i hi=>(d.lt y g i hi).1) d.le j s [] e d rfl (λ_ f=>by cases f))
variable {K:Kn->cq->Prop}{KO:KO}
inductive Want (aE:List Oper)(l:Kn):Option (Nat×Bool)->Bool->Prop
 |none:Want aE l none true
 |some {j d:Nat} {w t:Bool} (hd:mE aE j=some d) (h:lk l d=some (.bool t)):Want aE l (some (j,w)) (if t then w else !w)
 |undef {j d:Nat} {w:Bool} (hd:mE aE j=some d) (h:lk l d=some (.tuple ⟨[]⟩)):Want aE l (some (j,w)) false
def Want.eval {g:Option (Nat×Bool)}{t:Bool}{tm:Tm}(h:Want aE l g t)(hl:mS l tm):iN aE tm g=t:=by
 cases h with
 |none=>rfl
 |some hd h=>
  have f:=hl _ _ h;show tY (ob (mE aE _) λd=>tm.get d) _=_;rw[hd];show tY (tm.get _) _=_;have e:lR (tm.get _)=_:=f;rename_i j d w t;generalize tm.get d=q at e;cases q with
  |none=>cases e
  |some v=>cases (show v=_ from e);cases t<;>rfl
 |undef hd h=>
  have f:=hl _ _ h;show tY (ob (mE aE _) λd=>tm.get d) _=_;rw[hd];show tY (tm.get _) _=_;have e:lR (tm.get _)=_:=f;rename_i j d w;generalize tm.get d=q at e;cases q with
  |none=>rfl
  |some v=>cases (show v=_ from e);rfl
def WS.nil (h:K l L):WS E X Γ aE [] l L K:=λf s d e=>yc.nil ⟨l,L,d,e,h⟩
def WS.cons {d:Nat}{o:Oper}(hd:o.dst=C d)(j:Want aE l o.guard J)(h:WO E X Γ l o.op L λv L' _ _ _ _=>WS E X Γ aE rest ((d,v)::l) L' K):WS E X Γ aE (o::rest) l L K:=λk s e f=>by obtain⟨N,v,s',⟨L',R,Wr,g,m,i⟩,hr⟩:=h k s e f;exact yc.cons (j.eval e) ⟨N,v,s',by rw[hd];exact i _ _ (e.cons d v) g,hr⟩
def WS.WX {o:Oper}(hd:o.dst=O)(i:Want aE l o.guard J)(h:WO E X Γ l o.op L λv L' _ _ _ _=>WS E X Γ aE rest l L' K):WS E X Γ aE (o::rest) l L K:=λj s d e=>by obtain⟨N,v,s',⟨L',R,Wr,f,k,g⟩,hr⟩:=h j s d e;exact yc.cons (i.eval d) ⟨N,v,s',by rw[hd];exact g _ _ d f,hr⟩
def WS.pass {d:Nat}{o:Oper}(hd:o.dst=C d)(g:Want aE l o.guard U)(h:WS E X Γ aE rest ((d,.tuple ⟨[]⟩)::l) L K):WS E X Γ aE (o::rest) l L K:=λi s e f=>by exact yc.pass (g.eval e) (by rw[hd];exact h _ _ (e.cons d _) f)
end
variable {E:hJ}{X:fb}{Γ:ng}{l:Kn}{L L':cq}{K:KO}{x y:Operand}{v u:Value}{t:TypeId}{k:IntKind}{t2:TypeId}{p q:List UInt8}
def Z:Fp:=λ_=>False
def bJ (s:St)(a:aP)(n sz:Nat)(cs:aV):Prop:=
 (Y cs)=n*sz/\((n=0/\(a=O\/∃b o q,a=C ⟨b,o,C q⟩/\b<s.next))\/∃b o c e w,a=C ⟨b,o,O⟩/\b<s.next/\s.heap.get b=C (.cells c e w)/\(c.drop o).take (n*sz)=cs)
def fY (a:aP)(i sz j:Nat):Value:=match a with
 |C ⟨b,o,O⟩=>.pointer (C ⟨b,o+(i*sz+j),O⟩)
 |_=>.tuple ⟨[]⟩
def ah:aP->List Nat
 |some a=>[a.block]
 |none=>[]
class ie (E:hJ)(t:TypeId)(n:outParam Nat):Prop where
 h:size E t=some n
class j7 (E:hJ)(t:TypeId):Prop where
 h:∃d,iE E t=some d/\wz d=false
class vL (E:hJ)(t:TypeId)(n:outParam Nat):Prop where
 h:∃d,iE E t=some d/\wz d=true/\size E t=some n
class iA (E:hJ)(t:TypeId)(i:Nat)(off:outParam Nat):Prop where
 h:∃fs f sz,iE E t=some (.struct ⟨fs⟩)/\fs[i]?=some f/\size E f.type=some sz/\1<=sz/\f.offset=off
class ky (E:hJ)(t:TypeId)(e sz:outParam Nat):Prop where
 h:iE E t=some (.slice e)/\∃i z,E.ty.get e=some i/\i.size=sz/\i.zero=some z/\(cT z).length=sz/\1<=sz/\i.bytes<=1000000
class pL (E:hJ)(t:TypeId)(z:outParam (aV)):Prop where
 h:∃v,zero E t=some v/\cT v=z
class yf (E:hJ)(t:TypeId):Prop where
 h:iE E t=some .string
class yg (E:hJ)(t:TypeId)(k:outParam IntKind):Prop where
 h:iE E t=some (.int k)
class WY (E:hJ)(t:TypeId):Prop where
 h:iE E t=some .bool
class TEq (E:hJ)(t:TypeId)(ks:outParam (List Nat)):Prop where
 h:(t,ks)∈E.eqs
section
variable {c:Operand}
def iS.id {s:St}{R W:Fp}:iS s s R W:=⟨fG _,λ_ h=>.inl h,λ_ h=>.inl h⟩
def jw {o:Op}(h:∀tm s (call:gw),mS l tm->IP E call (aM tm) s o=C (v,s))(k:∀n,K v L n n Z Z):WO E X Γ l o L K:=λtm s d e=>
 eM.pure (λcall=>h tm s call d) ⟨L,Z,Z,e,iS.id,k _⟩
def aaA (d:Ev l x v)(k:∀n,K v L n n Z Z):WO E X Γ l (.move x) L K:=jw (λe s call h=>by show aD _ s=_;rw[d.eval h];rfl) k
def Tx (d:Ev l x v)(k:∀n,K v L n n Z Z):WO E X Γ l (.assign x) L K:=jw (λe s call h=>by show aD _ s=_;rw[d.eval h];rfl) k
def WZ {b:Bool}(hc:Ev l c (M b))(hb:b=J)(e:Ev l x v)(k:∀n,K v L n n Z Z):WO E X Γ l (.pick c x y) L K:=jw (λd s call h=>by show Rz (aM d c) (aM d x) (aM d y) s=_;rw[hc.eval h,e.eval h,hb];rfl) k
def W0 {b:Bool}(hc:Ev l c (M b))(hb:b=U)(e:Ev l y v)(k:∀n,K v L n n Z Z):WO E X Γ l (.pick c x y) L K:=jw (λd s call h=>by show Rz (aM d c) (aM d x) (aM d y) s=_;rw[hc.eval h,e.eval h,hb];rfl) k
def adG {b:Bool}(d:Ev l x (M b))(k:∀n,K (M !b) L n n Z Z):WO E X Γ l (.unOp .not t x) L K:=jw (λe s call h=>by show unV .not (aM e x) s=_;rw[d.eval h];rfl) k
def Pk {vs:aV}{i:Nat}(d:Ev l x (.tuple ⟨vs⟩))(hv:jH vs i=C v)(k:∀n,K v L n n Z Z):WO E X Γ l (.extract x i) L K:=jw (λe s call h=>by show xV s (aM e x) i=_;rw[d.eval h];show ob (jH vs i) _=_;rw[hv];rfl) k
def fZ {op:BinOp}{t2:TypeId}(f:Ev l x v)(g:Ev l y u){r:Value}(h:∀e,SZ E op t e v u=C r)(k:∀n,K r L n n Z Z):WO E X Γ l (.binOp op t x y t2) L K:=jw (λd s call hl=>by show ob (SZ E op t (isC x||isC y) (aM d x) (aM d y)) (λv=>aD v s)=_;rw[f.eval hl,g.eval hl,h];rfl) k
def Fit (n:Int):Prop:=-9223372036854775808<=n/\n<=9223372036854775807
def pM {n:Int}(h:Fit n):IntKind.wrap .i64 n=n:=by refine' zaT
section
variable {a b:Int}
def CS (d:Ev l x (iv a))(e:Ev l y (iv b))(hf:Fit (a+b))(h:∀n,K (iv (a+b)) L n n Z Z):WO E X Γ l (.binOp .add t x y t2) L K:=fZ d e (λf=>by show C (Value.int .i64 (pz .i64 (a+b)))=_;rw[kF,pM hf]) h
def adH (d:Ev l x (iv a))(e:Ev l y (iv b))(hf:Fit (a-b))(h:∀n,K (iv (a-b)) L n n Z Z):WO E X Γ l (.binOp .sub t x y t2) L K:=fZ d e (λf=>by show C (Value.int .i64 (pz .i64 (a-b)))=_;rw[kF,pM hf]) h
def adI (d:Ev l x (iv a))(e:Ev l y (iv b))(hf:Fit (a*b))(h:∀n,K (iv (a*b)) L n n Z Z):WO E X Γ l (.binOp .mul t x y t2) L K:=fZ d e (λf=>by show C (Value.int .i64 (pz .i64 (a*b)))=_;rw[kF,pM hf]) h
def adJ (d:Ev l x (iv a))(e:Ev l y (iv b))(hb:b≠0)(hf:Fit (a.tdiv b))(h:∀n,K (iv (a.tdiv b)) L n n Z Z):WO E X Γ l (.binOp .quo t x y t2) L K:=fZ d e (λf=>by
 show bo (xP b (.ofNat 0)) O (C (Value.int .i64 (pz .i64 (a.tdiv b))))=_;rw[kl,kF,pM hf];have:(b== Int.ofNat 0)=U:=by simpa using hb
 rw[this];rfl) h
def adK (d:Ev l x (iv a))(e:Ev l y (iv b))(hb:b≠0)(h:∀n,K (iv (a.tmod b)) L n n Z Z):WO E X Γ l (.binOp .rem t x y t2) L K:=fZ d e (λf=>by
 show bo (xP b (.ofNat 0)) O (C (Value.int .i64 (a.tmod b)))=_;rw[kl];have:(b== Int.ofNat 0)=U:=by simpa using hb
 rw[this];rfl) h
def ur (k:IntKind):pA k k=J:=by cases k<;>rfl
def sH {op:BinOp}{r:Value}(hs:adt op=U)(h:KZ op k a b=C r):∀d,SZ E op t d (I k a) (I k b)=C r:=λd=>by show bo (adt op) (shV op k a b) (bo (pA k k) (KZ op k a b) O)=_;rw[hs,ur,ey,ff,h]
def adL (d:Ev l x (I k a))(e:Ev l y (I k b))(h:∀n,K (M (decide (a<b))) L n n Z Z):WO E X Γ l (.binOp .lss t x y t2) L K:=fZ d e (sH rfl (by rw[<-qV];rfl)) h
def adM (d:Ev l x (I k a))(e:Ev l y (I k b))(h:∀n,K (M (decide (a<=b))) L n n Z Z):WO E X Γ l (.binOp .leq t x y t2) L K:=fZ d e (sH rfl (by show C (Value.bool !(VP b a))=_;rw[qV];congr 2;rw[<-decide_not];simp)) h
def adN (d:Ev l x (I k a))(e:Ev l y (I k b))(h:∀n,K (M (decide (b<a))) L n n Z Z):WO E X Γ l (.binOp .gtr t x y t2) L K:=fZ d e (sH rfl (by rw[<-qV];rfl)) h
def adO (d:Ev l x (I k a))(e:Ev l y (I k b))(h:∀n,K (M (decide (b<=a))) L n n Z Z):WO E X Γ l (.binOp .geq t x y t2) L K:=fZ d e (sH rfl (by show C (Value.bool !(VP a b))=_;rw[qV];congr 2;rw[<-decide_not];simp)) h
def adP (d:Ev l x (I k a))(e:Ev l y (I k b))(h:∀n,K (M (decide (a=b))) L n n Z Z):WO E X Γ l (.binOp .eql t x y t2) L K:=fZ d e (sH rfl (by show C (Value.bool (xP a b))=_;rw[kl];congr 2)) h
def adQ (d:Ev l x (I k a))(e:Ev l y (I k b))(h:∀n,K (M !(decide (a=b))) L n n Z Z):WO E X Γ l (.binOp .neq t x y t2) L K:=fZ d e (sH rfl (by show C (Value.bool !(xP a b))=_;rw[kl];congr 2)) h
end
def aaB (d:Ev l x (sv p))(e:Ev l y (sv q))(hf:Y p+Y q<=1000000000)(h:∀n,K (sv (p++q)) L n n Z Z):WO E X Γ l (.binOp .add t x y t2) L K:=fZ d e (λf=>by show dq (ble (Nat.add (dJ p) (dJ q)) 1000000000) (C (Value.string ⟨⟨p++q⟩⟩))=_;have:ble (Nat.add (dJ p) (dJ q)) 1000000000=J:=dQ (by simpa using hf);rw[this];rfl) h
def aaC (d:Ev l x (sv p))(e:Ev l y (sv q))(h:∀n,K (M (decide (p=q))) L n n Z Z):WO E X Γ l (.binOp .eql t x y t2) L K:=fZ d e (λf=>by show C (Value.bool (gP p q))=_;rw[fk];congr 2;rw[o6];simp) h
def aaD (d:Ev l x (sv p))(e:Ev l y (sv q))(h:∀n,K (M !(decide (p=q))) L n n Z Z):WO E X Γ l (.binOp .neq t x y t2) L K:=fZ d e (λf=>by show C (Value.bool !(gP p q))=_;rw[fk];congr 3;rw[o6];simp) h
def aaE (d:Ev l x (sv p))(e:Ev l y (sv q))(h:∀n,K (M !(Op.bytesLess p q)) L n n Z Z):WO E X Γ l (.binOp .geq t x y t2) L K:=fZ d e (λf=>by show C (Value.bool !(oo p q))=_;rw[sy]) h
def Lx {i:Nat}[ht:yf E t](e:Ev l x (sv p)){k:IntKind}(f:Ev l y (I k (i:Int)))(hi:i<Y p)(h:∀n,K (bv (p.getD i 0)) L n n Z Z):WO E X Γ l (.index t x y) L K:=jw (λd s call hl=>by show IN E s t (aM d x) (aM d y)=_;rw[e.eval hl,f.eval hl];unfold IN;rw[ht.h];show ob (jH p i) (λc=>aD (I .u8 (.ofNat c.toNat)) s)=_;rw[ec,c8 hi];simp[eX,c8 hi];rfl) h
def aaF [ht:yf E t](e:Ev l x (sv p))(h:∀n,K (iv (Y p:Nat)) L n n Z Z):WO E X Γ l (.call ⟨.builtin .len,⟨[x]⟩,⟨[t]⟩⟩) L K:=jw (λd s call hl=>by show xU E (aM d) s .len [t] [x]=_;show tW E s .len [t] (aM d x)=_;rw[e.eval hl];show ob (C t) (λt=>ob (S2 E t (sv p)) λv=>aD v s)=_;simp only[bF];unfold S2;rw[ht.h];simp[aD]) h
def aaG {a:aP}{n c e sz:Nat}[ht:ky E t e sz](f:Ev l x (H a n c))(h:∀m,K (iv (n:Nat)) L m m Z Z):WO E X Γ l (.call ⟨.builtin .len,⟨[x]⟩,⟨[t]⟩⟩) L K:=jw (λd s call hl=>by show xU E (aM d) s .len [t] [x]=_;show tW E s .len [t] (aM d x)=_;rw[f.eval hl];show ob (C t) (λt=>ob (S2 E t (H a n c)) λv=>aD v s)=_;simp only[bF];unfold S2;rw[ht.h.1];simp[aD]) h
def vh {lo hi:Option Operand}{i j:Nat}[ht:yf E t](D:Ev l x (sv p))(g:(lo=O/\i=0)\/∃o k,lo=C o/\Ev l o (I k (i:Int)))(e:(hi=O/\j=Y p)\/∃o k,hi=C o/\Ev l o (I k (j:Int)))
  (f:i<=j)(B:j<=Y p)(h:∀n,K (sv ((p.drop i).take (j-i))) L n n Z Z):WO E X Γ l (.slice t x lo hi O) L K:=jw (λd s call hl=>by
 show fX E s t (aM d x) (dN (aM d) lo) (dN (aM d) hi) O=_;rw[D.eval hl];have w:hiV (dJ p) (dJ p) (dN (aM d) hi) O=C j:=by obtain⟨rfl,rfl⟩|⟨o,k,rfl,r⟩:=e;show C (dJ p)=_;simp;show mY (aM d o) (dJ p)=_;rw[r.eval hl];show bo (ble j (dJ p)) (C j) O=_;rw[dQ (by simpa using B)];rfl
 have z:K0 (dN (aM d) lo) j 0=C i:=by obtain⟨rfl,rfl⟩|⟨o,k,rfl,r⟩:=g;rfl;show mY (aM d o) j=_;rw[r.eval hl];show bo (ble i j) (C i) O=_;rw[dQ f];rfl
 unfold fX;rw[ht.h];show ob (Cq p (dN (aM d) lo) (dN (aM d) hi) O) (λv=>aD v s)=_;have A:Cq p (dN (aM d) lo) (dN (aM d) hi) O=C (sv ((p.drop i).take (j-i))):=by show ob (C (dJ p)) (λm=>ob (hiV (dJ p) m (dN (aM d) hi) O) λh=>ob (K0 (dN (aM d) lo) h 0) λl=>C (Value.string ⟨⟨Wb (Nat.sub h l) (Wc l p)⟩⟩))=_;simp only[bF,w,z];simp
 rw[A];rfl) h
end
variable {s s':St}{R:cq}{n sz:Nat}{cs:aV}{α:Type}
inductive CT (x x':It):cq->cq->Prop
 |here {L:cq}:CT x x' (x::L) (x'::L)
 |there {y:It} {L L':cq} (h:CT x x' L L'):CT x x' (y::L) (y::L')
def CT.bX {x x':It}{L L':cq}(h:CT x x' L L'):∃R:cq,L.Perm (x::R)/\L'.Perm (x'::R):=by
 induction h with
 |here=>exact⟨_,.refl _,.refl _⟩
 |there h ih=>obtain⟨R,d,e⟩:=ih;exact⟨_::R,(d.cons _).trans (.swap _ _ _),(e.cons _).trans (.swap _ _ _)⟩
def Inv.bX (h:Inv Γ s L)(d:L.Perm L'):Inv Γ s L':=h.sub ⟨L,d,GB _⟩
def Inv.iP {x:It}(h:Inv Γ s (x::R)):Inv Γ s R:=h.sub ⟨R,.refl _,List.sublist_cons_self _ _⟩
def Inv.far {x:It}(h:Inv Γ s (x::R)):∀y∈R,∀b∈y.bC,b∉x.bC:=by have:=h.nd;rw[mR,vD] at this;intro y e b hb d;exact this.2.2 b d b (kZ.2 ⟨y,e,hb⟩) rfl
def qW (Γ:ng)(s:St)(b:Nat):Prop:=b<s.next/\(b∈Γ.A\/b∈Γ.M\/Γ.s0.next<=b)
def Inv.may {x:It}(h:Inv Γ s L)(d:x∈L){b:Nat}(hb:b∈x.bC):qW Γ s b:=⟨(h.lt x d b hb).1,.inr ((h.lt x d b hb).2.symm)⟩
def Inv.aL {b:Nat}(h:Inv Γ s L)(hb:qW Γ s b):Inv Γ (s.aL b) L:=
 h.same aq aq (λi hi=>by rw[rz,ic] at hi;obtain hi|rfl:=hi;exact .inl hi;exact .inr hb.2) (λi hi=>by rw[By] at hi;exact .inl hi) (λi hi=>by rw[rz,ic] at hi;obtain hi|rfl:=hi;exact .inl hi;exact .inr hb.1) (λi hi=>by rw[By] at hi;exact .inl hi)
def Inv.new {x:It}{o:fa}(h:Inv Γ s L)(i:x.ok (s.new o))(hb:x.bC=[s.next]):Inv Γ (s.new o) (x::L):=by
 refine⟨λb f g=>?_,by rw[kK];have:=h.le;omega,?_,?_,?_,?_,?_,?_,?_⟩;rw[Bz,af (by have:=h.le;omega)];exact h.fr b f g;intro y e;obtain rfl|e:=cA.1 e;exact i;refine It.yd (h.it y e) λb hb=>?_
 rw[Bz,af (by have:=(h.lt y e b hb).1;omega)];intro y e b d;rw[kK];obtain rfl|e:=cA.1 e;rw[hb] at d;simp at d;subst d;exact⟨aa,.inl h.le⟩;have:=h.lt y e b d;exact⟨aa,this.2⟩;rw[mR,hb,qp,tM];refine⟨λhm=>?_,h.nd⟩;obtain⟨y,e,d⟩:=kZ.1 hm;have:=(h.lt y e _ d).1;omega;intro b d;rw[xZ,ic] at d;obtain d|rfl:=d;exact h.cC b d;exact .inr (.inr (.inr h.le));intro b d;rw[wF,ic] at d;obtain d|rfl:=d;exact h.wr b d;exact .inr (.inr h.le);intro b d;rw[xZ,ic] at d;rw[kK];obtain d|rfl:=d;rcases h.top b d with h|h;exact .inl h;exact .inr aa;exact .inr aa;intro b d;rw[wF,ic] at d;rw[kK];obtain d|rfl:=d;rcases h.ye b d with h|h;exact .inl h;exact .inr aa;exact .inr aa
def Inv.put {x x':It}{b:Nat}{o:Option fa}(h:Inv Γ s L)(hu:CT x x' L L')(hb:x.bC=[b])(g:x'.bC=[b])(z:x'.ok (s.put b o)):Inv Γ (s.put b o) L':=by
 obtain⟨R,m,r⟩:=hu.bX;have f:=h.bX m;have d:=f.lt x aq b (by simp[hb]);refine Inv.bX (L:=x'::R) ?_ r.symm;refine⟨λc w i=>?_,by rw[dn];exact h.le,?_,?_,?_,?_,?_,?_,?_⟩;rw[qs,af];exact h.fr c w i;rintro rfl;obtain j|j:=d.2;omega;exact i j;intro y e;obtain rfl|e:=cA.1 e;exact z;refine It.yd (f.it y (by simp[e])) λc hc=>?_
 rw[qs,af];rintro rfl;exact f.far y e c hc (by simp[hb]);intro y e c hc;rw[dn];obtain rfl|e:=cA.1 e;rw[g] at hc;simp at hc;subst hc;exact d;exact f.lt y (by simp[e]) c hc;have:=f.nd;rw[mR,hb] at this;rwa[mR,g];intro c hc;rw[qt,ic] at hc;obtain hc|rfl:=hc;exact h.cC c hc;exact .inr (.inr d.2.symm);intro c hc;rw[sw,ic] at hc;obtain hc|rfl:=hc;exact h.wr c hc;exact .inr d.2.symm;intro c hc;rw[qt,ic] at hc;rw[dn];obtain hc|rfl:=hc;exact h.top c hc;exact .inr d.1;intro c hc;rw[sw,ic] at hc;rw[dn];obtain hc|rfl:=hc;exact h.ye c hc;exact .inr d.1
def Inv.kill {x:It}{b:Nat}{o:Option fa}(h:Inv Γ s (x::R))(hb:x.bC=[b]):Inv Γ (s.put b o) R:=by have d:=h.lt x aq b (by simp[hb]);have f:=h.iP;refine⟨λc j g=>?_,by rw[dn];exact h.le,λy e=>It.yd (f.it y e) λc hc=>?_,λy e c hc=>by rw[dn];exact f.lt y e c hc,f.nd,?_,?_,?_,?_⟩;rw[qs,af];exact h.fr c j g;rintro rfl;obtain i|i:=d.2;omega;exact g i;rw[qs,af];rintro rfl;exact h.far y e c hc (by simp[hb]);intro c hc;rw[qt,ic] at hc;obtain hc|rfl:=hc;exact h.cC c hc;exact .inr (.inr d.2.symm);intro c hc;rw[sw,ic] at hc;obtain hc|rfl:=hc;exact h.wr c hc;exact .inr d.2.symm;intro c hc;rw[qt,ic] at hc;rw[dn];obtain hc|rfl:=hc;exact h.top c hc;exact .inr d.1;intro c hc;rw[sw,ic] at hc;rw[dn];obtain hc|rfl:=hc;exact h.ye c hc;exact .inr d.1
structure Rd (Γ:ng)(a:aP)(n sz:Nat)(cs:aV):Prop where
 row:bJ Γ.s0 a n sz cs
 A:∀b∈ah a,b∈Γ.A
 M:∀b∈ah a,b∉Γ.M
inductive ga (Γ:ng)(L:cq)(a:aP)(n sz:Nat)(cs:aV):Prop
 |rd (h:Rd Γ a n sz cs):ga Γ L a n sz cs
 |aU {c e:Nat} (h:It.aU (.slice a n c) e sz cs∈L):ga Γ L a n sz cs
 |box {b t:Nat} {w:Bool} (h:It.box b cs t w∈L) (ha:a=some ⟨b,0,none⟩) (hn:cs.length=n*sz):ga Γ L a n sz cs
 |sub {c e n0:Nat} {a0:aP} {ZW:aV} (h:It.aU (.slice a0 n0 c) e sz ZW∈L) (hr:∀s,bJ s a0 n0 sz ZW->bJ s a n sz cs) (hb:∀b∈ah a,b∈ah a0):ga Γ L a n sz cs
section
variable {a:aP}
def nV.row {e c:Nat}(h:nV s (H a n c) e sz cs)(hb:∀b∈ah a,b<s.next):bJ s a n sz cs:=by obtain⟨d,rfl⟩|⟨b,m,k,w,rest,d,g,f,i⟩:=h;cases d;exact⟨aq,.inl ⟨rfl,.inl rfl⟩⟩;cases d;exact⟨f,.inr ⟨b,0,cs++rest,e,w,rfl,hb b (by simp[ah]),g,by rw[<-f];simp⟩⟩
def ga.row (h:ga Γ L a n sz cs)(hi:Inv Γ s L):bJ s a n sz cs/\∀b∈ah a,qW Γ s b:=by
 cases h with
 |rd h=>
  obtain⟨d,r⟩:=h.row;obtain⟨rfl,rfl|⟨b,o,q,rfl,m⟩⟩|⟨b,o,c,e,w,rfl,m,z,B⟩:=r;exact⟨⟨d,.inl ⟨rfl,.inl rfl⟩⟩,by simp[ah]⟩;have:=hi.le;refine⟨⟨d,.inl ⟨rfl,.inr ⟨b,o,q,rfl,aa⟩⟩⟩,λi hb=>?_⟩;(have f:i=b:=by simpa[ah] using hb);subst f;exact⟨aa,.inl (h.A i hb)⟩;have:=hi.le;refine⟨⟨d,.inr ⟨b,o,c,e,w,rfl,aa,?_,B⟩⟩,λi hb=>?_⟩;rw[hi.fr b m (h.M b (by simp[ah]))];exact z;have f:i=b:=by simpa[ah] using hb
  subst f;exact⟨aa,.inl (h.A i hb)⟩
 |aU h=>
  have d:∀b∈ah a,qW Γ s b:=λb hb=>hi.may h (by
   cases a with
   |none=>simp[ah] at hb
   |some a=>simpa[It.bC,nH,ah] using hb)
  exact⟨nV.row (hi.it _ h) λb hb=>(d b hb).1,d⟩
 |sub h hr hb=>
  rename_i c e n0 a0 ZW;have d:∀b∈ah a0,qW Γ s b:=λb hb=>hi.may h (by
   cases a0 with
   |none=>simp[ah] at hb
   |some a=>simpa[It.bC,nH,ah] using hb)
  exact⟨hr s (nV.row (hi.it _ h) λb hb=>(d b hb).1),λb g=>d b (hb b g)⟩
 |box h ha hn=>
  rename_i b t w;subst ha;have d:=hi.may h (b:=b) (by simp[It.bC]);refine⟨⟨hn,.inr ⟨b,0,cs,t,w,rfl,d.1,hi.it _ h,by rw[<-hn];simp⟩⟩,λi j=>?_⟩;have:i=b:=by simpa[ah] using j
  subst this;exact d
def cH {s:St}{b:Nat}{R W:Fp}(hb:b<s.next)(d:R b):iS s (s.aL b) R W:=⟨aq,λi hi=>by rw[rz,ic] at hi;rw[bh];obtain hi|rfl:=hi;exact .inl hi;exact .inr ⟨d,hb⟩,λi hi=>by rw[By] at hi;exact .inl hi⟩
def pN {b off:Nat}{c:aV}{e:TypeId}{w:Bool}[ht:j7 E t](hb:s.heap.get b=C (.cells c e w))(hv:c[off]?=C v):tc E s t b off=C (v,s.aL b):=by obtain⟨d,f,g⟩:=ht.h;unfold tc St.KY St.look;rw[hb];simp only[bF,f,g,ey,ec,hv]
def vi {b off m:Nat}{c:aV}{e:TypeId}{w:Bool}{r:aV}[ht:vL E t m](hb:s.heap.get b=C (.cells c e w))(hv:gE m (fJ off c)=C r):tc E s t b off=C (.agg ⟨r⟩,s.aL b):=by obtain⟨d,f,g,i⟩:=ht.h;unfold tc St.KY St.look;rw[hb];simp only[bF,f,g,ff,i,hv]
def CU {o:Op}{b:Nat}(hi:∀s,Inv Γ s L->qW Γ s b)(h:∀tm s (call:gw),mS l tm->Inv Γ s L->IP E call (aM tm) s o=C (v,s.aL b))(k:∀n,K v L n n (λi=>i=b) Z):WO E X Γ l o L K:=λtm s e d=>
 eM.pure (λcall=>h tm s call e d) ⟨L,(λi=>i=b),Z,d.aL (hi s d),cH (hi s d).1 rfl,by rw[bh];exact k _⟩
def BF {b off:Nat}{e:TypeId}{w:Bool}[ht:j7 E t](d:Ev l x (.pointer (C ⟨b,off,O⟩)))(hm:It.box b cs e w∈L)(hv:jH cs off=C v)(k:∀n,K v L n n (λi=>i=b) Z):WO E X Γ l (.load t x) L K:=
 CU (λs hi=>hi.may hm (by simp[It.bC])) (λf s call hl hi=>by show tU E s t (aM f x)=_;rw[d.eval hl];exact pN (hi.it _ hm) (by rwa[<-ec])) k
def uu {b off m:Nat}{e:TypeId}{w:Bool}{r:aV}[ht:vL E t m](d:Ev l x (.pointer (C ⟨b,off,O⟩)))(hm:It.box b cs e w∈L)(hv:gE m (fJ off cs)=C r)(k:∀n,K (.agg ⟨r⟩) L n n (λi=>i=b) Z):WO E X Γ l (.load t x) L K:=
 CU (λs hi=>hi.may hm (by simp[It.bC])) (λf s call hl hi=>by show tU E s t (aM f x)=_;rw[d.eval hl];exact vi (hi.it _ hm) hv) k
class au (α:Type)(sz:outParam Nat) where
 cells:α->aV
 ad:α
 len:∀x,(cells x).length=sz
 fl:∀x,∀v∈cells x,flat v=true
 pos:1<=sz
def ab {α:Type}{sz:Nat}[au α sz](l:List α):aV:=l.flatMap (au.cells (sz:=sz))
section
variable [au α sz]
def ir (p q:List α):ab (sz:=sz) (p++q)=ab (sz:=sz) p++ab (sz:=sz) q:=by simp[ab]
def eU (p:α)(q:List α):ab (sz:=sz) (p::q)=au.cells (sz:=sz) p++ab (sz:=sz) q:=by simp[ab]
def bn (p:List α):Y (ab (sz:=sz) p)=Y p*sz:=by
 induction p with
 |nil=>simp[ab]
 |cons x p ih=>rw[eU,dB,ih,au.len];simp[mO,Cb]
def vj (p:List α):∀v∈ab (sz:=sz) p,flat v=J:=by intro v hv;obtain⟨x,_,h⟩:=kZ.1 hv;exact au.fl x v h
def zr (p:List α)(i:Nat):(ab (sz:=sz) p).drop (i*sz)=ab (sz:=sz) (p.drop i):=by
 induction p generalizing i with
 |nil=>simp[ab]
 |cons x p ih=>
  cases i with
  |zero=>simp
  |succ i=>rw[eU,List.drop_succ_cons,<-ih,KI,au.len];(have:(i+1)*sz=sz+i*sz:=by rw[mO];omega);rw[this];simp[au.len]
def G9 (p:List α)(i:Nat):(ab (sz:=sz) p).take (i*sz)=ab (sz:=sz) (p.take i):=by
 induction p generalizing i with
 |nil=>simp[ab]
 |cons x p ih=>
  cases i with
  |zero=>simp[ab]
  |succ i=>rw[eU,Rj,eU,<-ih,V2,au.len];(have:(i+1)*sz=sz+i*sz:=by rw[mO];omega);rw[this,Nat.add_sub_cancel_left,za (by rw[au.len];omega)]
def RQ (p:List α){i:Nat}(hi:i<Y p):∃q r,ab (sz:=sz) p=q++(au.cells (sz:=sz) (p.getD i (au.ad (sz:=sz)))++r)/\Y q=i*sz:=by
 refine⟨ab (sz:=sz) (p.take i),ab (sz:=sz) (p.drop (i+1)),?_,?_⟩;have h:p=p.take i++(p.getD i (au.ad (sz:=sz))::p.drop (i+1)):=by rw[eX,c8 hi];simp
 conv=>lhs;rw[h]
 rw[ir,eU];rw[bn,de,tH (rk hi)]
def W1 (p:List α){i j:Nat}(hi:i<Y p)(hv:jH (au.cells (sz:=sz) (p.getD i (au.ad (sz:=sz)))) j=C v):(ab (sz:=sz) p)[i*sz+j]?=C v:=by obtain⟨q,r,d,e⟩:=RQ (sz:=sz) p hi;rw[ec] at hv;have f:j<Y (au.cells (sz:=sz) (p.getD i (au.ad (sz:=sz)))):=(qS.1 hv).1;rw[d,wv aa,e,Nat.add_sub_cancel_left,tw f,hv]
def W3 (p:List α){i:Nat}(hi:i<Y p):gE sz (fJ (i*sz+0) (ab (sz:=sz) p))=C (au.cells (sz:=sz) (p.getD i (au.ad (sz:=sz)))):=by obtain⟨q,r,d,e⟩:=RQ (sz:=sz) p hi;rw[mZ,xW,d,wu,<-e,Ap,ai (by rw[dB,au.len];omega),V2,au.len,za (by rw[au.len];omega)];simp
end
section
variable {enc:au α sz}
def bJ.bD {p:List α}(h:bJ s a n sz (ab (sz:=sz) p)){i:Nat}(hi:i<Y p):∃b o c e w,a=C ⟨b,o,O⟩/\b<s.next/\s.heap.get b=C (.cells c e w)/\(c.drop o).take (n*sz)=ab (sz:=sz) p/\n=Y p:=by
 have hn:n=Y p:=by have d:=h.1;rw[bn] at d;exact(Nat.eq_of_mul_eq_mul_right (au.pos (α:=α) (sz:=sz)) d).symm
 obtain⟨h0,_⟩|⟨b,o,c,e,w,rfl,d,f,g⟩:=h.2;omega;exact⟨b,o,c,e,w,rfl,d,f,g,hn⟩
def AD {c cs:aV}{o m k:Nat}(h:(c.drop o).take m=cs)(hv:cs[k]?=C v):c[o+k]?=C v:=by have d:k<Y cs:=(qS.1 hv).1;rw[<-h,xI] at hv;split at hv;rw[Cg] at hv;exact hv;cases hv
def vX {c cs r:aV}{o m k sz:Nat}(h:(c.drop o).take m=cs)(hv:gE sz (fJ k cs)=C r):gE sz (fJ (o+k) c)=C r:=by
 obtain⟨d,e⟩:=jd hv;rw[mZ] at d e⊢;subst e;rw[xW];rw[<-h,fq,de,fq] at d;have f:sz<=Y (c.drop (o+k)):=by rw[fq];omega
 rw[ai f];congr 1;rw[<-h,List.drop_take,wx,KN,tH aa]
def Ly {p:List α}{i j:Nat}[ht:j7 E t](z:Ev l x (fY a i sz j))(r:ga Γ L a n sz (ab (sz:=sz) p))(hi:i<Y p)(hv:jH (au.cells (sz:=sz) (p.getD i (au.ad (sz:=sz)))) j=C v)(k:∀n,K v L n n (λi=>i∈ah a) Z):WO E X Γ l (.load t x) L K:=λA s f d=>by obtain⟨hr,hm⟩:=r.row d;obtain⟨b,o,c,e,w,rfl,g,h,m,B⟩:=hr.bD hi;refine eM.pure (v:=v) (s':=s.aL b) (λcall=>?_) ⟨L,(λi=>i∈ah (C ⟨b,o,O⟩)),Z,d.aL (hm b (by simp[ah])),cH g (by simp[ah]),by rw[bh];exact k _⟩;show tU E s t (aM A x)=_;rw[z.eval f];exact pN h (AD m (W1 p hi hv))
def Ty {p:List α}{i:Nat}[ht:vL E t sz](r:Ev l x (fY a i sz 0))(m:ga Γ L a n sz (ab (sz:=sz) p))(hi:i<Y p)(k:∀n,K (.agg ⟨au.cells (sz:=sz) (p.getD i (au.ad (sz:=sz)))⟩) L n n (λi=>i∈ah a) Z):WO E X Γ l (.load t x) L K:=λz s f d=>by obtain⟨hr,hm⟩:=m.row d;obtain⟨b,o,c,e,w,rfl,g,h,j,A⟩:=hr.bD hi;refine eM.pure (v:=.agg ⟨au.cells (sz:=sz) (p.getD i (au.ad (sz:=sz)))⟩) (s':=s.aL b) (λcall=>?_) ⟨L,(λi=>i∈ah (C ⟨b,o,O⟩)),Z,d.aL (hm b (by simp[ah])),cH g (by simp[ah]),by rw[bh];exact k _⟩;show tU E s t (aM z x)=_;rw[r.eval f];exact vi h (vX j (W3 p hi))
def pb {p:List α}{i c e:Nat}{k:IntKind}[ht:ky E t e sz](z:Ev l x (H a n c))(A:Ev l y (I k (i:Int)))(m:ga Γ L a n sz (ab (sz:=sz) p))(hi:i<Y p)(r:∀n,K (fY a i sz 0) L n n Z Z):WO E X Γ l (.indexAddr t x y) L K:=λj s f g=>by
 obtain⟨hr,hm⟩:=m.row g;obtain⟨b,o,D,F,w,rfl,G,N,Q,S⟩:=hr.bD hi;obtain⟨hu,T,V,B,d,_⟩:=ht.h;refine eM.pure (v:=fY (C ⟨b,o,O⟩) i sz 0) (s':=s) (λcall=>?_) ⟨L,Z,Z,g,iS.id,r _⟩;show hS E s t (aM j x) (aM j y)=_;rw[z.eval f,A.eval f];unfold hS;rw[hu];show dq (ble (Nat.succ i) n) (ob (size E e) λsz=>aD (.pointer (C ⟨b,Nat.add o (mul i sz),O⟩)) s)=_;have hs:size E e=C sz:=by unfold size;rw[B];simp[d]
 rw[dQ aa,hs];rfl
end
def Jk {b o i off:Nat}[ht:iA E t i off](r:Ev l x (.pointer (C ⟨b,o,O⟩)))(k:∀n,K (.pointer (C ⟨b,o+off,O⟩)) L n n Z Z):WO E X Γ l (.fieldAddr t x i) L K:=jw (λw s call hl=>by obtain⟨fs,f,sz,d,e,g,j,m⟩:=ht.h;show nP E s t (aM w x) i=_;rw[r.eval hl];unfold nP;rw[d];simp only[bF,ec,e,g,dQ j];show aD (.pointer (C ⟨b,Nat.add o f.offset,O⟩)) s=_;rw[m];rfl) k
def FJ {α:Type}{enc:au α sz}{p:List α}{i j f off:Nat}[ht:iA E t f off](A:Ev l x (fY a i sz j))(z:ga Γ L a n sz (ab (sz:=sz) p))(hi:i<Y p)(k:∀n,K (fY a i sz (j+off)) L n n Z Z):WO E X Γ l (.fieldAddr t x f) L K:=λD s hl e=>by obtain⟨fs,f,B,g,d,m,r,w⟩:=ht.h;obtain⟨b,o,_,_,_,rfl,_⟩:=(z.row e).1.bD hi;refine eM.pure (v:=fY (C ⟨b,o,O⟩) i sz (j+off)) (s':=s) (λcall=>?_) ⟨L,Z,Z,e,iS.id,k _⟩;show nP E s t (aM D x) _=_;rw[A.eval hl];unfold nP;rw[g];simp only[bF,ec,d,m,dQ r];show aD (.pointer (C ⟨b,Nat.add (o+(i*sz+j)) f.offset,O⟩)) s=_;rw[w];show aD _ _=C (fY _ _ _ _,_);unfold fY aD;congr 5;show o+(i*sz+j)+off=_;omega
end
class lK (E:hJ)(t:TypeId)(pl:outParam (List (Nat×Nat)))(z:outParam (aV)):Prop where
 h:∃fs v,iE E t=some (.struct ⟨fs⟩)/\places E fs=some pl/\zero E t=some v/\cT v=z
class oV (E:hJ)(t:TypeId)(e sz:outParam Nat)(z:outParam (aV)):Prop where
 h:iE E t=some (.slice e)/\∃i v,E.ty.get e=some i/\i.size=sz/\i.zero=some v/\cT v=z/\z.length=sz/\1<=sz/\i.bytes<=1000000
inductive Bm (x:It):cq->cq->Prop
 |here {L:cq}:Bm x (x::L) L
 |there {y:It} {L R:cq} (h:Bm x L R):Bm x (y::L) (y::R)
def Bm.bX {x:It}{L R:cq}(h:Bm x L R):L.Perm (x::R):=by
 induction h with
 |here=>exact .refl _
 |there h ih=>exact(ih.cons _).trans (.swap _ _ _)
section
variable {a:aP}
def gk (L:cq)(b:Nat):Prop:=∀y∈L,∀i∈y.bC,i<b
def Inv.old (h:Inv Γ s L):gk L s.next:=λy d i hi=>(h.lt y d i hi).1
def uv {s:St}{o:fa}{R W:Fp}(d:R s.next)(e:W s.next):iS s (s.new o) R W:=⟨aq,λi hi=>by
 rw[xZ,ic] at hi;rw[kK];obtain hi|rfl:=hi;exact .inl hi;exact .inr ⟨d,aa⟩,λi hi=>by
 rw[wF,ic] at hi;rw[kK];obtain hi|rfl:=hi;exact .inl hi;exact .inr ⟨e,aa⟩⟩
def jx {s:St}{b:Nat}{o:Option fa}{R W:Fp}(hb:b<s.next)(d:R b)(e:W b):iS s (s.put b o) R W:=⟨aq,λi hi=>by
 rw[qt,ic] at hi;rw[dn];obtain hi|rfl:=hi;exact .inl hi;exact .inr ⟨d,hb⟩,λi hi=>by
 rw[sw,ic] at hi;rw[dn];obtain hi|rfl:=hi;exact .inl hi;exact .inr ⟨e,hb⟩⟩
def iS.trans {s f g:St}{R W:Fp}(h:iS s f R W)(k:iS f g R W):iS s g R W:=⟨jR h.nx k.nx,λi hi=>by
 obtain e|e:=k.cC i hi;rcases h.cC i e with d|d;exact .inl d;exact .inr ⟨d.1,vF d.2 k.nx⟩;exact .inr e,λi hi=>by
 obtain e|e:=k.wr i hi;rcases h.wr i e with d|d;exact .inl d;exact .inr ⟨d.1,vF d.2 k.nx⟩;exact .inr e⟩
def sI {o:Op}{ob:Nat->fa}{mk:Nat->Value}{it:Nat->It}(h:∀tm s (call:gw),mS l tm->Inv Γ s L->IP E call (aM tm) s o=C (mk s.next,s.new (ob s.next)))
  (e:∀s b,s.heap.get b=C (ob b)->(it b).ok s)(hb:∀b,(it b).bC=[b])(k:∀b,gk L b->K (mk b) (it b::L) b (b+1) (λi=>i=b) (λi=>i=b)):WO E X Γ l o L K:=λtm s f d=>
 eM.pure (λcall=>h tm s call f d) ⟨it s.next::L,(λi=>i=s.next),(λi=>i=s.next),d.new (e _ _ aq) (hb _),uv rfl rfl,by rw[kK];exact k _ d.old⟩
def aaH {cs:aV}(d:Ev l x (.agg ⟨cs⟩))(k:∀b,gk L b->K (.pointer (C ⟨b,0,O⟩)) (.box b cs t U::L) b (b+1) (λi=>i=b) (λi=>i=b)):WO E X Γ l (.box t x) L K:=
 sI (mk:=λb=>.pointer (C ⟨b,0,O⟩)) (ob:=λ_=>.cells cs t U) (it:=λb=>.box b cs t U) (λe s call hl _=>by show S3 s (cT (aM e x)) t=_;rw[d.eval hl];rfl) (λs b h=>h) (λb=>rfl) k
def W4 {z:aV}[ht:pL E t z](k:∀b,gk L b->K (.pointer (C ⟨b,0,O⟩)) (.box b z t U::L) b (b+1) (λi=>i=b) (λi=>i=b)):WO E X Γ l (.alloc t) L K:=
 sI (mk:=λb=>.pointer (C ⟨b,0,O⟩)) (ob:=λ_=>.cells z t U) (it:=λb=>.box b z t U) (λf s call hl _=>by obtain⟨v,d,e⟩:=ht.h;show IK E s t=_;unfold IK;rw[d];show S3 s (cT v) t=_;rw[e];rfl) (λs b h=>h) (λb=>rfl) k
inductive W5 (l:Kn):List (Nat×Operand)->List (Nat×Value)->Prop
 |nil:W5 l [] []
 |cons {i:Nat} {x:Operand} {v:Value} {ps:List (Nat×Operand)} {vs:List (Nat×Value)} (h:Ev l x v) (k:W5 l ps vs):W5 l ((i,x)::ps) ((i,v)::vs)
def W5.eval {ps:List (Nat×Operand)}{vs:List (Nat×Value)}{tm:Tm}(h:W5 l ps vs)(hl:mS l tm):sl (aM tm) ps=vs:=by
 induction h with
 |nil=>rfl
 |cons h _ ih=>show(_,aM tm _)::sl (aM tm) _=_;rw[ih,h.eval hl]
def W6 {ps:List (Nat×Operand)}{vs:List (Nat×Value)}{pl:List (Nat×Nat)}{z:aV}[ht:lK E t pl z](i:W5 l ps vs)(hf:rn (jH pl) vs z=C cs)(k:∀n,K (.agg ⟨cs⟩) L n n Z Z):WO E X Γ l (.build t ⟨ps⟩) L K:=jw (λj s call hl=>by obtain⟨fs,v,d,e,f,g⟩:=ht.h;show IL E (aM j) s t ps=_;unfold IL;rw[f,d];simp only[bF,e,i.eval hl,g,hf];rfl) k
def FK {m:Nat}{ps:List (Nat×Operand)}{vs:List (Nat×Value)}{e:Nat}{z:aV}[ht:oV E t e sz z](hm:ble (mul m sz) 16777216=J)(F:W5 l ps vs)(hf:rn (oB sz) vs (vK z m)=C cs)(hc:Y cs=m*sz)
  (k:∀b,gk L b->K (H (C ⟨b,0,O⟩) m m) (.aU (H (C ⟨b,0,O⟩) m m) e sz cs::L) b (b+1) (λi=>i=b) (λi=>i=b)):WO E X Γ l (.buildSlice t m ⟨ps⟩) L K:=
 sI (mk:=λb=>H (C ⟨b,0,O⟩) m m) (ob:=λ_=>.cells cs e U) (it:=λb=>.aU (H (C ⟨b,0,O⟩) m m) e sz cs) (λw s call hl _=>by
  obtain⟨g,i,v,f,r,A,B,D,j,N⟩:=ht.h;show tX E (aM w) s t m ps=_;(have hs:size E e=C sz:=by unfold size;rw[f];simp[r]);(have G:zero E e=C v:=by unfold zero;rw[f];simp[A]);show ob (C t) (λt=>ob (iE E t) λd=>match d with
   |.slice e=>ob (size E e) λsz=>ob (zero E e) λz=>dq (beq (dJ (cT z)) sz&&ble (nat_lit 1) sz&&ble (mul m sz) (nat_lit 16777216))<| ob (rn (oB sz) (sl (aM w) ps) (vK (cT z) m)) λcs=>aD (H (C ⟨s.next,nat_lit 0,O⟩) m m) (s.new (.cells cs e U))
   |_=>O)=_
  simp only[bF,g,hs,G,B,F.eval hl,hf,hm,cR,D,dQ j,kY,KR];rfl) (λs b h=>nV.dz h hc (.inl ⟨rfl,by have g:=xA hm;obtain⟨_,i,v,_,_,_,_,_,j,_⟩:=ht.h;have f:m<=m*sz:=Gv _ j;have r:m<=16777216:=jR f g;show m<9223372036854775808;omega⟩)) (λb=>rfl) k
def Lz {α:Type}[au α sz](x:α)(n:Nat):vK (au.cells (sz:=sz) x) n=ab (sz:=sz) (replicate n x):=by
 induction n with
 |zero=>rfl
 |succ n ih=>rw[Rk,eU,<-ih];rfl
def Jl {α:Type}[au α sz]{d:α}{m e:Nat}{Q S:IntKind}{z:aV}[ht:oV E t e sz z](hd:au.cells (sz:=sz) d=z)(G:Ev l x (I Q (m:Int)))(N:Ev l y (I S (m:Int)))(hm:m<=1000000)
  (k:∀b,gk L b->K (H (C ⟨b,0,O⟩) m m) (.aU (H (C ⟨b,0,O⟩) m m) e sz (ab (sz:=sz) (replicate m d))::L) b (b+1) (λi=>i=b) (λi=>i=b)):WO E X Γ l (.makeSlice t x y) L K:=
 sI (mk:=λb=>H (C ⟨b,0,O⟩) m m) (ob:=λ_=>.cells (ab (sz:=sz) (replicate m d)) e U) (it:=λb=>.aU (H (C ⟨b,0,O⟩) m m) e sz (ab (sz:=sz) (replicate m d))) (λf s call hl _=>by
  obtain⟨g,i,v,j,r,w,A,B,D,F⟩:=ht.h;show wB E s t (aM f x) (aM f y)=_;rw[G.eval hl,N.eval hl];show ob (C t) (λt=>ob (iE E t) λd=>match d with
   |.slice e=>ob (E.ty.get e) λi=>ob i.zero λz=>dq (ble m m&&ble m (nat_lit 1000000)&&ble i.bytes (nat_lit 1000000)&&beq (dJ (cT z)) i.size&&ble (nat_lit 1) i.size)<| aD (H (C ⟨s.next,nat_lit 0,O⟩) m m) (s.new (.cells (vK (cT z) m) e U))
   |_=>O)=_
  simp only[bF,g,j,w,A,r,cR,B,dQ D,dQ hm,dQ F,dQ (fG m),kY,KR];rw[<-hd,Lz];rfl) (λs b h=>nV.dz h (bn _|>.trans aq) (.inl ⟨rfl,by show m<9223372036854775808;omega⟩)) (λb=>rfl) k
def W7 {b off m:Nat}{cs d:aV}{e:TypeId}{w:Bool}[ht:ie E t m](B:Ev l x (.pointer (C ⟨b,off,O⟩)))(D:Ev l y v)(hc:beq (dJ (cT v)) m=J)(hf:kr (cT v)=J)
  (hu:CT (.box b cs e w) (.box b d e w) L L')(A:fK off (cT v) cs=C d)(k:∀n,K (.tuple ⟨[]⟩) L' n n (λi=>i=b) (λi=>i=b)):WO E X Γ l (.store t x y) L K:=λr s j g=>by obtain⟨R,F,G⟩:=hu.bX;have hm:It.box b cs e w∈L:=F.mem_iff.2 aq;have z:s.heap.get b=C (.cells cs e w):=g.it _ hm;have f:=(g.may hm (b:=b) (by simp[It.bC]));have hr:=g.aL f;refine eM.pure (v:=.tuple ⟨[]⟩) (s':=(s.aL b).put b (C (.cells d e w))) (λcall=>?_) ⟨L',(λi=>i=b),(λi=>i=b),hr.put hu rfl rfl (by show T.get (St.heap _) b=_;simp),(iS.trans (cH f.1 rfl) (jx (by simpa using f.1) rfl rfl)),by rw[dn,bh];exact k _⟩;show(VO (aM r x) λb o=>py E s t b o (aM r y))=_;rw[B.eval j,D.eval j];show py E s t b off v=_;unfold py St.row St.look;rw[z];simp only[bF,ht.h,hc,hf,A];rfl
def LA (h:flat v=J):cT v=[v]:=by cases v<;>first|rfl|cases h
def Ha (v:Value):∀(i:Nat)(cs:aV),i<Y cs->fK i [v] cs=C (cs.set i v)
 |_,[],h=>by simp at h
 |0,z::zs,_=>rfl
 |i+1,z::zs,h=>by show ob (fK i [v] zs) (λr=>C (z::r))=_;rw[Ha v i zs (by simpa using h)];rfl
def Tz {α:Type}{enc:au α 1}{p:List α}{q:α}{i c e m:Nat}[ht:ie E t 1](Q:Ev l x (fY a i 1 0))(S:Ev l y v)(hv:au.cells q=[v])(hi:i<Y p)
  (hu:CT (.aU (H a n c) e 1 (ab p)) (.aU (H a n c) e 1 (ab (p.set i q))) L L')(k:∀n,K (.tuple ⟨[]⟩) L' n n (λi=>i∈ah a) (λi=>i∈ah a)):WO E X Γ l (.store t x y) L K:=λG s r z=>by
 obtain⟨R,V,Z⟩:=hu.bX;have hm:It.aU (H a n c) e 1 (ab p)∈L:=V.mem_iff.2 aq;have f:flat v=J:=au.fl q v (by rw[hv];simp);have j:∀(p:List α)(i:Nat),(ab p).set i v=ab (p.set i q):=by
  intro p;induction p with
  |nil=>intro i;rfl
  |cons x p ih=>
   intro i;have r:∃u,au.cells x=[u]:=List.length_eq_one_iff.1 (au.len x);obtain⟨u,hu⟩:=r;cases i with
   |zero=>rw[List.set_cons_zero,eU,eU,hu,hv];rfl
   |succ i=>rw[List.set_cons_succ,eU,eU,hu,<-ih];rfl
 obtain⟨A,B⟩|⟨b,n',W,w,rest,A,B,F,N⟩:=z.it _ hm;cases A;have:=bn p;rw[B] at this;simp at this;omega;cases A;have d:=(z.may hm (b:=b) (by simp[It.bC,nH]));have hr:=z.aL d;have g:fK (0+(i*1+0)) [v] (ab p)=C (ab (p.set i q)):=by rw[<-j];(have D:i<Y (ab p):=by rw[bn];omega);simp only[kz,wu,sh];exact Ha v _ _ D
 refine eM.pure (v:=.tuple ⟨[]⟩) (s':=(s.aL b).put b (C (.cells (ab (p.set i q)++rest) e w))) (λcall=>?_) ⟨L',(λi=>i∈ah (C ⟨b,0,O⟩)),(λi=>i∈ah (C ⟨b,0,O⟩)),hr.put hu rfl rfl ?_,(iS.trans (cH d.1 (by simp[ah])) (jx (by simpa using d.1) (by simp[ah]) (by simp[ah]))),by rw[dn,bh];exact k _⟩;show(VO (aM G x) λb o=>py E s t b o (aM G y))=_;rw[Q.eval r,S.eval r];show py E s t b (0+(i*1+0)) v=_;unfold py St.row St.look;rw[B];simp only[bF,ht.h,LA f,vg rest _ _ _ _ g];have:kr [v]=J:=by show bo (flat v) J U=J;rw[f];rfl
 rw[this];rfl;exact .inr ⟨b,_,_,w,rest,rfl,by show T.get (St.heap _) b=_;simp,by rw[bn] at F⊢;simpa using F,Jj N (by rw[bn,bn,mV])⟩
end
def jK (s:St):aP->St
 |C ⟨b,_,O⟩=>s.aL b
 |_=>s
section
variable {a:aP}
abbrev iI (A:List Nat)(B:cq)(m d:Nat):Fp:=λi=>i∈A\/i∈B.flatMap It.bC\/(m<=i/\i<d)
abbrev iJ (B:cq)(m d:Nat):Fp:=λi=>i∈B.flatMap It.bC\/(m<=i/\i<d)
abbrev WC (E:hJ)(X:fb)(Γ:ng)(l:Kn)(f:FuncId)(xs:List Operand)(d:Array TypeId)(L:cq)(K:KO):Prop:=WO E X Γ l (.call ⟨.value (.func f),⟨xs⟩,d⟩) L K
def pk {cs:aV}{o m:Nat}{c:aV}(h:(c.drop o).take m=cs)(hl:Y cs=m):gE m (fJ o c)=C cs:=by
 rw[mZ,xW];have:m<=Y (c.drop o):=by rw[<-h,de] at hl;omega
 rw[ai this,h]
def CV (vs:aV):∀(n:Nat)(l:aV),n+Y vs<=Y l->fK n vs l=C (l.take n++vs++l.drop (n+Y vs))
 |n,l,h=>by
  cases d:fK n vs l with
  |some r=>rw[(pC n vs d).2]
  |none=>
   exfalso;revert d h;induction n generalizing l with
   |zero=>
    intro h d;induction vs generalizing l with
    |nil=>cases d
    |cons v vs ih=>
     cases l with
     |nil=>simp at h
     |cons x l=>
      refine ih l (by simpa using h) ?_;cases e:fK 0 vs l with
      |none=>rfl
      |some r=>(have:fK 0 (v::vs) (x::l)=ob (fK 0 vs l) λr=>C (v::r):=rfl);rw[this,e] at d;cases d
   |succ n ih=>
    intro h d;cases l with
    |nil=>simp at h
    |cons x l=>
     refine ih l (by simp at h;omega) ?_;cases e:fK n vs l with
     |none=>rfl
     |some r=>(have:fK (n+1) vs (x::l)=ob (fK n vs l) λr=>C (x::r):=rfl);rw[this,e] at d;cases d
def CW {β:Type}{c:Nat}(h:bJ s a n sz cs)(k:Nat->aV->St->Option β):Ft s sz (H a n c) k=k n cs (jK s a):=by obtain⟨d,f⟩:=h;obtain⟨rfl,rfl|⟨b,o,q,rfl,g⟩⟩|⟨b,o,c',e,w,rfl,g,i,j⟩:=f;have:cs=[]:=jG (by simpa using d);subst this;rfl;have:cs=[]:=jG (by simpa using d);subst this;rfl;show s.row b (λc _ _ s=>ob (gE (mul n sz) (fJ o c)) λcs=>k n cs s)=_;unfold St.row St.look;rw[i];simp only[bF];have:=pk (m:=n*sz) j d;rw[show mul n sz=n*sz from rfl,this];rfl
def dY {β:Type}(k:Option β):dq J k=k:=rfl
def lX (elem:TypeId)(sz:Nat)(b o len cap n:Nat)(new:aV)(s:St):iZ elem sz (C ⟨b,o,O⟩) len cap n new s=s.row b λc e w s=>bo (ble cl cap)
  (dq (w&&beq e elem&&beq cap cl&&beq o (nat_lit 0))<| bo (beq (dJ c) (mul len sz)) (bo (beq n (nat_lit 0)) (aD (H (C ⟨b,o,O⟩) len cap) s)<|
    (λs:St=>aD (bA s (Nat.add len n)) (s.new (.cells (c++new) elem J))) (s.put b O))<|
    ob (gE (mul len sz) c) λold=>(λs:St=>aD (bA s (Nat.add len n)) (s.new (.cells (old++new) elem J))) (s.put b O))
  (bo (ble (Nat.add len n) cap)
    (bo (beq n (nat_lit 0)) (aD (H (C ⟨b,o,O⟩) len cap) s)<|
      ob (fK (Nat.add o (mul len sz)) new c) λcs=>aD (H (C ⟨b,o,O⟩) (Nat.add len n) cap) (s.put b (C (.cells cs e w))))
    (ob (gE (mul len sz) (fJ o c)) λold=>aD (bA s (Nat.add len n)) (s.new (.cells (old++new) elem J)))):=rfl
def aaI {m:Nat}(h:0<m):beq m 0=U:=by
 cases m with
 |zero=>omega
 |succ m=>rfl
def CX:(jK s a).heap=s.heap:=by unfold jK;split<;>simp
def wN:(jK s a).next=s.next:=by unfold jK;split<;>simp
def Inv.jK (h:Inv Γ s L)(hm:∀b∈ah a,qW Γ s b):Inv Γ (jK s a) L:=by unfold Go.Lg.jK;split;exact h.aL (hm _ (by simp[ah]));exact h
def wO {R W:Fp}(hm:∀b∈ah a,b<s.next)(d:∀b∈ah a,R b):iS s (jK s a) R W:=by unfold Go.Lg.jK;split;exact cH (hm _ (by simp[ah])) (d _ (by simp[ah]));exact iS.id
def wP {e m c N:Nat}{a2:aP}{yv:Value}{xd:TypeDesc}{new ZW:aV}{z:aV}{t2:TypeId}[ht:oV E t e sz z](ht2:iE E t2=C xd)(hxd:isInt xd=U)(hx:Ev l x (H a n c))(hy:Ev l y yv)(hr:Bm (.aU (H a N c) e sz ZW) L R)(hf:∀s,nV s (H a N c) e sz ZW->nV s (H a n c) e sz cs)(hs:∀s,Inv Γ s L->(Y new=m*sz/\∀b∈ah a2,qW Γ s b)/\∀(k:Nat->aV->St->Option (Value×St)),Ft s sz yv k=k m new (jK s a2))
  (TA:∀v∈new,flat v=J)(hn:n+m<=1000000)
  (k:∀b b' a' c',gk L b->b<=b'->(∀i∈ah a',i∈ah a\/i=b)->(c'=c\/c'=cl)->K (H a' (n+m) c') (.aU (H a' (n+m) c') e sz (cs++new)::R) b b' (λi=>i∈ah a2\/i∈ah a\/i=b) (λi=>i∈ah a\/i=b)):WO E X Γ l (.call ⟨.builtin .append,⟨[x,y]⟩,⟨[t,t2]⟩⟩) L K:=λtm s h1 h2=>by
 obtain⟨hu1,ii,z1,hi,hi2,hi3,hi4,hi5,hi6,hi7⟩:=ht.h;have hu2:=ht2;obtain⟨⟨j,afF⟩,ahW⟩:=hs s h2;have hinv:Inv Γ (jK s a2) L:=h2.jK afF;have f:=(hinv.bX hr.bX).afE (x':=.aU (H a n c) e sz cs) (hf _) (by cases a<;>rfl);have VS:iS s (jK s a2) (λi=>i∈ah a2\/i∈ah a\/i=s.next) (λi=>i∈ah a\/i=s.next):=wO (λb hb=>(afF b hb).1) (λb hb=>.inl hb);have hh1:(jK s a2).heap=s.heap:=CX;have D:(jK s a2).next=s.next:=wN
 generalize GS:jK s a2=g at hinv f VS hh1 D;have ahX:S0 a c=U:=by obtain⟨h3,h4⟩|⟨b,n',k',w,rest,h3,h4,Z,h6⟩:=f.it _ ed;cases h3;rfl;cases h3;show(ble cl c&&!(beq 0 0))=U;rw[show beq 0 0=J from rfl];simp
 have S:∀(r:Value×St),iZ e sz a n c m new g=C r->∀call:gw,IP E call (aM tm) s (.call ⟨.builtin .append,⟨[x,y]⟩,⟨[t,t2]⟩⟩)=C r:=by
  intro r hr call;show u6 E s [t,t2] (aM tm x) (aM tm y)=_;rw[hx.eval h1,hy.eval h1];unfold u6;show ob (C t) (λt=>ob (iE E t) λd=>match d with
   |.slice elem=>ob (C t2) λxt=>ob (iE E xt) λxd=>dq (!isInt xd)<| ob (E.ty.get elem) λi=>ob i.zero λz=>dq (ble (nat_lit 1) i.size&&ble i.bytes (nat_lit 1000000)&&beq (dJ (cT z)) i.size)<| Ft s i.size yv λn' new s=>dq (beq (dJ new) (mul n' i.size))<| dq (kr new)<| (dq (ble (Nat.add n n') (nat_lit 1000000))<| bo (S0 a c) (iU elem i.size a n c n' new s) (iZ elem i.size a n c n' new s))
   |_=>O)=_
  have hff:kr new=J:=(rq new).2 TA;simp only[bF,hu1,hu2,hxd,hi,hi2,hi3,hi4,cR,hi5];show dq J _=_;simp only[dQ hi6,dQ hi7,kY,Aq];rw[dY,dY,ahW];simp only[hff];rw[show mul m sz=m*sz from rfl,j,kY];rwa[dQ (show Nat.add n m<=1000000 from hn),GS,ahX]
 have hbb:∀{b:Nat}{o:Nat}{L:cq}{s:St},Inv Γ s (.aU (H (C ⟨b,o,O⟩) n c) e sz cs::L)->b<s.next:=λh=>(h.lt _ ed _ (by simp[It.bC,nH])).1;obtain⟨h3,h4⟩|⟨b,n',k',w,rest,h3,h4,Z,h6⟩:=f.it _ ed
 cases h3;subst h4;obtain A|A:=tG m;subst A;have hn0:new=[]:=jG (by simpa using j);subst hn0;refine eM.pure (S (H O 0 0,g) rfl) ⟨_,_,_,?_,VS,k s.next _ O 0 h2.old aa (λi hi=>by simp[ah] at hi) (.inl rfl)⟩;exact f;refine eM.pure (S (bA g m,g.new (.cells new e J)) (by show dq J (bo (beq m 0) _ _)=_;rw[show beq m 0=U from aaI A];rfl)) ⟨.aU (H (C ⟨g.next,0,O⟩) (0+m) cl) e sz ([]++new)::R,_,_,?_,VS.trans (uv (.inr (.inr D)) (.inr D)),?_⟩;exact f.iP.new (nV.dz (w:=J) aq (by simpa using j) (.inr ⟨rfl,rfl⟩)) rfl;have:=k s.next (g.new (.cells new e J)).next (C ⟨g.next,0,O⟩) cl h2.old (by rw[kK];omega) (λi hi=>by right;simpa[ah,D] using hi) (.inr rfl)
 rw[show bA g m= H (C ⟨g.next,0,O⟩) (0+m) cl from by simp[bA]];exact this;cases h3;have V:=hbb f;have B:∀{β:Type}(k:aV->TypeId->Bool->St->Option β),g.row b k=k (cs++rest) e w (g.aL b):=λk=>by unfold St.row St.look;rw[h4];rfl
 have F:Inv Γ (g.aL b) (.aU (H (C ⟨b,0,O⟩) n c) e sz cs::R):=f.aL (f.may ed (by simp[It.bC,nH]));have Q:iS s (g.aL b) (λi=>i∈ah a2\/i∈ah (C ⟨b,0,O⟩)\/i=s.next) (λi=>i∈ah (C ⟨b,0,O⟩)\/i=s.next):=VS.trans (cH V (.inr (.inl (by simp[ah]))));have ZX:gE (n*sz) (cs++rest)=C cs:=pk (cs:=cs) (o:=0) (m:=n*sz) (c:=cs++rest) (by rw[Ah,<-Z,Ca]) Z;have ahY:m=0->new=[]:=λe=>jG (by rw[j,e,Am]);have W:m=0->iZ e sz (C ⟨b,0,O⟩) n c m new g=C (H (C ⟨b,0,O⟩) n c,g.aL b)->eM E X (aM tm) s (.call ⟨.builtin .append,⟨[x,y]⟩,⟨[t,t2]⟩⟩) λv s'=>∃L' R Wr,Inv Γ s' L'/\iS s s' R Wr/\K v L' s.next s'.next R Wr:=λA hr=>by have hn0:=ahY A;subst A hn0;refine eM.pure (S _ hr) ⟨_,_,_,?_,Q,k s.next _ (C ⟨b,0,O⟩) c h2.old (by rw[bh];omega) (λi hi=>.inl hi) (.inl rfl)⟩;rwa[fT]
 obtain⟨h6,h7,h8⟩|⟨rfl,rfl⟩:=h6;have hcu:ble cl c=U:=by rw[<-tK,mm];omega
 by_cases G:n+m<=c;have hfb:ble (Nat.add n m) c=J:=dQ G;obtain A|A:=tG m;refine W A ?_;rw[lX,B,hcu];show bo (ble (Nat.add n m) c) (bo (beq m 0) _ _) _=_;rw[hfb,A];rfl;(have hle:n*sz+m*sz<=c*sz:=by rw[<-mO];exact Ai _ G);(have wQ:fK (0+n*sz) new (cs++rest)=C (cs++new++rest.drop (Y new)):=by rw[kz,CV _ _ _ (by rwa[j,h8]),<-Z,Ca,KI,xC aa];simp);refine eM.pure (S (H (C ⟨b,0,O⟩) (n+m) c,(g.aL b).put b (C (.cells (cs++new++rest.drop (Y new)) e w))) ?_) ⟨_,_,_,F.put (x':=.aU (H (C ⟨b,0,O⟩) (n+m) c) e sz (cs++new)) CT.here rfl rfl (.inr ⟨b,_,_,w,rest.drop (Y new),rfl,by show T.get (St.heap _) b=_;simp,by rw[dB,Z,j,mO],.inl ⟨G,h7,?_⟩⟩),Q.trans (jx (by simpa using V) (.inr (.inl (by simp[ah]))) (.inl (by simp[ah]))),k s.next _ (C ⟨b,0,O⟩) c h2.old (by simp;omega) (λi hi=>.inl hi) (.inl rfl)⟩;rw[lX,B,hcu];show bo (ble (Nat.add n m) c) (bo (beq m 0) _ (ob (fK (0+n*sz) new (cs++rest)) _)) _=_;rw[hfb,aaI A,wQ];rfl;rw[dB] at h8;rw[dB,dB,fq];omega;have hfb:ble (Nat.add n m) c=U:=by rwa[<-tK,mm]
 refine eM.pure (S (H (C ⟨g.next,0,O⟩) (n+m) cl,(g.aL b).new (.cells (cs++new) e J)) ?_) ⟨_,_,_,?_,Q.trans (uv (.inr (.inr (by simpa using D))) (.inr (by simpa using D))),k s.next _ (C ⟨g.next,0,O⟩) cl h2.old (by simp;omega) (λi hi=>by right;simpa[ah,D] using hi) (.inr rfl)⟩;rw[lX,B,hcu];show bo (ble (Nat.add n m) c) _ (ob (gE (n*sz) (cs++rest)) _)=_;rw[hfb,ZX];show aD (bA (g.aL b) (Nat.add n m)) _=_;unfold bA;rw[bh];rfl;have:=F.iP.new (o:=.cells (cs++new) e J) (x:=.aU (H (C ⟨g.next,0,O⟩) (n+m) cl) e sz (cs++new)) (nV.dz (w:=J) aq (by rw[dB,Z,j,mO]) (.inr ⟨rfl,rfl⟩)) (by simp[It.bC,nH]);exact this;by_cases hs:rest=[]/\m=0;refine W hs.2 ?_;rw[lX,B,hs.1,hs.2,fT];show dq (J&&beq e e&&beq cl cl&&beq 0 0) (bo (beq (dJ cs) (mul n sz)) _ _)=_;rw[cR,Z,show mul n sz=n*sz from rfl];simp only[kY];rfl;refine eM.pure (S (H (C ⟨g.next,0,O⟩) (n+m) cl,((g.aL b).put b O).new (.cells (cs++new) e J)) ?_) ⟨_,_,_,?_,(Q.trans (jx (by simpa using V) (.inr (.inl (by simp[ah]))) (.inl (by simp[ah])))).trans (uv (.inr (.inr (by simpa using D))) (.inr (by simpa using D))),k s.next _ (C ⟨g.next,0,O⟩) cl h2.old (by simp;omega) (λi hi=>by right;simpa[ah,D] using hi) (.inr rfl)⟩;rw[lX,B];show dq (J&&beq e e&&beq cl cl&&beq 0 0) (bo (beq (dJ (cs++rest)) (mul n sz)) _ (ob (gE (n*sz) (cs++rest)) _))=_;rw[cR,dB,Z,show mul n sz=n*sz from rfl,ZX];simp only[kY];by_cases hr:rest=[];subst hr;rw[show beq (n*sz+Y ([]:aV)) (n*sz)=J from kY _,fT];show bo (beq m 0) _ _=_;rw[aaI (show 0<m from Nat.pos_of_ne_zero λh=>hs ⟨rfl,h⟩)];show aD (bA ((g.aL b).put b O) (Nat.add n m)) _=_;unfold bA;rw[dn,bh];rfl;rw[show beq (n*sz+Y rest) (n*sz)=U from by rw[<-tK,lH];have:=wq.2 hr;omega];show aD (bA ((g.aL b).put b O) (Nat.add n m)) _=_;unfold bA;rw[dn,bh];rfl;have h7:=F.kill (o:=O) (b:=b) (by simp[It.bC,nH]);have:=h7.new (o:=.cells (cs++new) e J) (x:=.aU (H (C ⟨g.next,0,O⟩) (n+m) cl) e sz (cs++new)) (nV.dz (w:=J) aq (by rw[dB,Z,j,mO]) (.inr ⟨rfl,rfl⟩)) (by simp[It.bC,nH]);exact this
def Pm {e m c c2 N:Nat}{a2:aP}{new ZW:aV}{z:aV}{t2:TypeId}[ht:oV E t e sz z][ht2:oV E t2 e sz z](w:Ev l x (H a n c))(A:Ev l y (H a2 m c2))(hr:Bm (.aU (H a N c) e sz ZW) L R)(hf:∀s,nV s (H a N c) e sz ZW->nV s (H a n c) e sz cs)(hs:ga Γ L a2 m sz new)
  (d:∀v∈new,flat v=J)(hn:n+m<=1000000)
  (k:∀b b' a' c',gk L b->b<=b'->(∀i∈ah a',i∈ah a\/i=b)->K (H a' (n+m) c') (.aU (H a' (n+m) c') e sz (cs++new)::R) b b' (λi=>i∈ah a2\/i∈ah a\/i=b) (λi=>i∈ah a\/i=b)):WO E X Γ l (.call ⟨.builtin .append,⟨[x,y]⟩,⟨[t,t2]⟩⟩) L K:=by obtain⟨f,_⟩:=ht2.h;exact wP (a2:=a2) f rfl w A hr hf (λs hi=>⟨⟨(hs.row hi).1.1,(hs.row hi).2⟩,λk=>CW (hs.row hi).1 k⟩) d hn λb b' a' c' g j r _=>k b b' a' c' g j r
def TB {e m c c2:Nat}{a2:aP}{new:aV}{z:aV}{t2:TypeId}[ht:oV E t e sz z][ht2:oV E t2 e sz z](f:Ev l x (H a n c))(g:Ev l y (H a2 m c2))(hr:Bm (.aU (H a n c) e sz cs) L R)(hs:ga Γ L a2 m sz new)
  (d:∀v∈new,flat v=J)(hn:n+m<=1000000)
  (k:∀b b' a' c',gk L b->b<=b'->(∀i∈ah a',i∈ah a\/i=b)->K (H a' (n+m) c') (.aU (H a' (n+m) c') e sz (cs++new)::R) b b' (λi=>i∈ah a2\/i∈ah a\/i=b) (λi=>i∈ah a\/i=b)):WO E X Γ l (.call ⟨.builtin .append,⟨[x,y]⟩,⟨[t,t2]⟩⟩) L K:=Pm f g hr (λ_ h=>h) hs d hn k
def eJ (E:hJ)(X:fb)(f:FuncId)(args:aV)(s:St)(Lm:cq)(A:List Nat)(Q:Value->cq->Prop):Prop:=
 (∀x∈Lm,x.ok s)->(∀x∈Lm,∀b∈x.bC,b<s.next)->(Lm.flatMap It.bC).Nodup->lE E X f args s λv s'=>∃L',Inv ⟨s,Lm.flatMap It.bC,A⟩ s' L'/\Q v L'
def eJ.mono {f:FuncId}{args:aV}{Lm:cq}{A:List Nat}{Q Q':Value->cq->Prop}(h:eJ E X f args s Lm A Q)(k:∀v L,Q v L->Q' v L):eJ E X f args s Lm A Q':=λd e g=>(h d e g).mono λv s' ⟨L',i,j⟩=>⟨L',i,k _ _ j⟩
inductive iu (l:Kn):List Operand->aV->Prop
 |nil:iu l [] []
 |cons {x:Operand} {v:Value} {xs:List Operand} {vs:aV} (h:Ev l x v) (k:iu l xs vs):iu l (x::xs) (v::vs)
def iu.eval {xs:List Operand}{vs:aV}{tm:Tm}(h:iu l xs vs)(hl:mS l tm):xs.map (aM tm)=vs:=by
 induction h with
 |nil=>rfl
 |cons h _ ih=>rw[lF,ih,h.eval hl]
def cI {f:FuncId}{xs:List Operand}{Z:Array TypeId}{vs:aV}{Lm:cq}{A:List Nat}{Q:Value->cq->Prop}(e:iu l xs vs)(T:L.Perm (Lm++R))(F:∀s,Inv Γ s L->∀b∈A,b<s.next/\(b∈Γ.A\/b∈Γ.M\/Γ.s0.next<=b))(h:∀s,Inv Γ s L->eJ E X f vs s Lm A Q)
  (k:∀v L' m B,gk L m->m<=B->Q v L'->K v (L'++R) m B (iI A Lm m B) (iJ Lm m B)):WC E X Γ l f xs Z L K:=λW s S w=>by
 have i:=w.bX T;obtain⟨v,s',hr,L',j,V⟩:=h s w (λx e=>i.it x (im _ e)) (λx e b hb=>(i.lt x (im _ e) b hb).1) (by have:=i.nd;rw[xH] at this;exact(vD.1 this).1);have r:∀b∈Lm.flatMap It.bC,b<s.next/\(Γ.s0.next<=b\/b∈Γ.M):=λb hb=>by obtain⟨x,e,hb⟩:=kZ.1 hb;exact i.lt x (im _ e) b hb
 have z:∀x∈R,∀b∈x.bC,b∉Lm.flatMap It.bC:=λx e b hb hm=>by have:=i.nd;rw[xH] at this;exact(vD.1 this).2.2 b hm b (kZ.2 ⟨x,e,hb⟩) rfl
 have hle:s.next<=s'.next:=j.le;have G:=w.le;refine eM.call (first:=[]) (cap:=[]) (K:=_) (by rfl) ⟨v,s',?_,?_⟩;have:([]:aV)++(Bi (aM W) xs++[])=vs:=by rw[u9,e.eval S];simp
 rwa[this];refine⟨L'++R,_,_,⟨λb hb hm=>?_,aa,λx e=>?_,λx e b hb=>?_,?_,λb hb=>?_,λb hb=>?_,λb hb=>?_,λb hb=>?_⟩,⟨hle,λb hb=>?_,λb hb=>?_⟩,k v L' s.next s'.next w.old hle V⟩;rw[j.fr b (by show b<s.next;omega) (λD=>?_)];exact w.fr b hb hm;rcases(r b D).2 with d|d;omega;exact hm d;rcases cG.1 e with e|e;exact j.it x e;exact It.yd (i.it x (dt _ e)) λb hb=>j.fr b ((i.lt x (dt _ e) b hb).1) (z x e b hb)
 rcases cG.1 e with e|e;obtain⟨d,g⟩:=j.lt x e b hb;refine⟨d,?_⟩;obtain g|g:=g;exact .inl (by have g:s.next<=b:=g;omega);exact(r b g).2;obtain⟨d,g⟩:=i.lt x (dt _ e) b hb;exact⟨aa,g⟩;rw[xH,vD];refine⟨j.nd,by have:=i.nd;rw[xH] at this;exact(vD.1 this).2.1,λb hb c hc=>?_⟩;rintro rfl;obtain⟨x,e,hb⟩:=kZ.1 hb;obtain⟨y,N,hc⟩:=kZ.1 hc;rcases(j.lt x e b hb).2 with g|g;have:=(i.lt y (dt _ N) b hc).1;have g:s.next<=b:=g;omega;exact z y N b hc g;rcases j.cC b hb with d|d|d|d;exact w.cC b d;exact .inr (F s w b d).2;exact .inr (.inr (r b d).2.symm);exact .inr (.inr (.inr (by have d:s.next<=b:=d;omega)));rcases j.wr b hb with d|d|d;exact w.wr b d;exact .inr (r b d).2.symm;exact .inr (.inr (by have d:s.next<=b:=d;omega));rcases j.top b hb with d|d;rcases w.top b d with d|d;exact .inl d;exact .inr aa;exact .inr d;rcases j.ye b hb with d|d;rcases w.ye b d with d|d;exact .inl d;exact .inr aa;exact .inr d;rcases j.cC b hb with d|d|d|d;exact .inl d;exact .inr ⟨.inl d,by have:=(F s w b d).1;omega⟩;exact .inr ⟨.inr (.inl d),by have:=(r b d).1;omega⟩;rcases j.top b hb with g|g;exact .inl g;exact .inr ⟨.inr (.inr ⟨d,g⟩),g⟩;rcases j.wr b hb with d|d|d;exact .inl d;exact .inr ⟨.inl d,by have:=(r b d).1;omega⟩;rcases j.ye b hb with g|g;exact .inl g;exact .inr ⟨.inr ⟨d,g⟩,g⟩
end
section
variable {KO:KO}{a:aP}{K:Kn->cq->Prop}
inductive AE (E:hJ)(l:Kn)(L:cq):List ResultVar->aV->Prop
 |nil:AE E l L [] []
 |tmp {t:Nat} {v:Value} {rs:List ResultVar} {vs:aV} (h:lk l t=some v) (k:AE E l L rs vs):AE E l L (.tmp t::rs) (v::vs)
 |cell {c b off:Nat} {t:TypeId} {cs:aV} {e:TypeId} {w:Bool} {v:Value} {rs:List ResultVar} {vs:aV} (ht:j7 E t) (h:lk l c=some (.pointer (some ⟨b,off,none⟩))) (hm:It.box b cs e w∈L) (hv:jH cs off=some v) (k:AE E l L rs vs):AE E l L (.cell c t::rs) (v::vs)
 |acF {c b off m:Nat} {t:TypeId} {cs:aV} {e:TypeId} {w:Bool} {r:aV} {rs:List ResultVar} {vs:aV} (ht:vL E t m) (h:lk l c=some (.pointer (some ⟨b,off,none⟩))) (hm:It.box b cs e w∈L) (hv:gE m (fJ off cs)=some r) (k:AE E l L rs vs):AE E l L (.cell c t::rs) (.agg ⟨r⟩::vs)
def AE.eval {rs:List ResultVar}{vs:aV}(h:AE E l L rs vs):∀{tm:Tm}{s:St},mS l tm->Inv Γ s L->∃s',Cs E tm rs s=C (vs,s')/\Inv Γ s' L:=by
 induction h with
 |nil=>exact λe d=>⟨_,rfl,d⟩
 |tmp h k ih=>intro tm s e d;obtain⟨s',f,g⟩:=ih e d;refine⟨s',?_,g⟩;rw[ve];show ob (Cs E tm _ s) _=_;rw[f];have:=e _ _ h;show C (lR (tm.get _)::_,_)=_;rw[show lR (tm.get _)=_ from this]
 |cell ht h hm hv k ih=>intro tm s e d;obtain⟨s',f,g⟩:=ih e (d.aL (d.may hm (gI.2 rfl)));refine⟨s',?_,g⟩;rw[ve];show VO (lR (tm.get _)) _=_;rw[show lR (tm.get _)=_ from e _ _ h];show ob (tc E s _ _ _) _=_;rw[pN (d.it _ hm) (by rwa[<-ec])];simp only[bF];rw[f];rfl
 |acF ht h hm hv k ih=>intro tm s e d;obtain⟨s',f,g⟩:=ih e (d.aL (d.may hm (gI.2 rfl)));refine⟨s',?_,g⟩;rw[ve];show VO (lR (tm.get _)) _=_;rw[show lR (tm.get _)=_ from e _ _ h];show ob (tc E s _ _ _) _=_;rw[vi (d.it _ hm) hv];simp only[bF];rw[f];rfl
def W8:Nat->aV->Kn
 |_,[]=>[]
 |i,v::vs=>(i,v)::W8 (i+1) vs
def RR:∀(vs:aV)(i t:Nat)(v:Value),lk (W8 i vs) t=C v->i<=t/\vs[t-i]?=C v
 |[],i,t,v,h=>by cases h
 |u::vs,i,t,v,h=>by
  unfold W8 lk at h;split at h;rename_i hb;(have:i=t:=by simpa using hb);subst this;simp at h;subst h;simp;rename_i hb;obtain⟨e,d⟩:=RR vs (i+1) t v h;refine⟨aa,?_⟩;have:t-i=t-(i+1)+1:=by omega
  rw[this,Rn];exact d
def zt (E:hJ)(rs:List ResultVar)(Q:Value->cq->Prop):CR:=λe l L=>(e= .normal\/e= .ret)/\∃vs d,AE E l L rs vs/\cb d L/\Q (fj vs) d
def eJ.body {f:FuncId}{fn:Func}{c:Code}{args:aV}{Lm:cq}{A:List Nat}{Q:Value->cq->Prop}(hf:E.fn.get f=C fn)(hb:fn.body=C c)(g:(beq f X.look||wE X f)=U)(hl:Y args<=fn.ntmps)
  (h:W E X ⟨s,Lm.flatMap It.bC,A⟩ c (W8 0 args) Lm (zt E fn.results.toList Q)):eJ E X f args s Lm A Q:=λr w z=>by
 refine lE.body hf hb g hl ((h (k9 args 0 .nil) s (λt v ht=>?_) ⟨λ_ _ _=>rfl,fG _,r,λx g b hb=>⟨w x g b hb,.inr (kZ.2 ⟨x,g,hb⟩)⟩,z,λb hb=>.inl hb,λb hb=>.inl hb,λb hb=>.inl hb,λb hb=>.inl hb⟩).mono ?_);obtain⟨i,d⟩:=RR args 0 t v ht;show lR (T.get _ _)=_;rw[uk];have j:t<Y args:=by have:=(qS.1 d).1;omega
 rw[ai ⟨i,aa⟩,d];rfl;rintro e S N ⟨l',L',i,d,D,vs,m,hr,hle,F⟩;obtain⟨G,j,B⟩:=hr.eval i d;exact⟨D,vs,G,j,m,B.sub hle,F⟩
def WD.nil {j nx:Nat}{seen:List Sn}(h:K l L):WD E X Γ aE [] j seen nx l L K:=λf s sn d e _ g=>⟨0,f,s,⟨l,L,d,e,h⟩,λ_ _ _ _=>rfl⟩
def Inv.clear {s:St}(h:Inv Γ s L):Inv Γ (eO s) L:=by cases s;exact⟨h.fr,h.le,h.it,h.lt,h.nd,λb hb=>absurd hb (by simp[eO,In]),λb hb=>absurd hb (by simp[eO,In]),λb hb=>absurd hb (by simp[eO,In]),λb hb=>absurd hb (by simp[eO,In])⟩
def TC {n mask a r:Nat}{R Wr:Fp}{m:Nat}(hr:∀b,In a b->R b/\b<m)(D:∀b,In r b->Wr b/\b<m):∀{seen:List Sn},kO n mask R Wr seen->∀{sn:List Seen},Tw seen sn n->ze mask a r sn=J:=by
 intro seen ha sn;have j:∀x∈seen,Nat.testBit mask x.i=J\/((∀b,b<n->x.W b->¬R b)/\(∀b,b<n->x.R b->¬Wr b)):=by
  induction seen with
  |nil=>intro x f;cases f
  |cons y l ih=>intro x f;obtain rfl|f:=cA.1 f;exact ha.1;exact ih ha.2 x f
 intro hs;induction sn with
 |nil=>rfl
 |cons y sn ih=>
  show bo (bo (beq (Nat.land y.wr a) 0) (beq (Nat.land y.cC r) 0) U||Nat.testBit mask y.i) (ze mask a r sn) U=J;rw[ih λz A=>hs z (dI _ A)];obtain⟨x,f,hi,d,w⟩:=hs y ed;have A:∀p q:Nat,(∀b,In p b->¬In q b)->beq (Nat.land p q) 0=J:=λp q h=>by (have:p&&& q=0:=by apply Nat.eq_of_testBit_eq;intro i;rw[Nat.testBit_and,Nat.zero_testBit];by_cases g:p.testBit i=J;have:=h i g;rw[g,wo];simpa[In] using this;simp[g]);show beq (p&&& q) 0=J;rw[this];rfl
  obtain h|⟨g,B⟩:=j x f;rw[hi] at h;rw[h,KK];rfl;rw[A y.wr a (λb hb e=>g b (w b hb).2 (w b hb).1 (hr b e).1),A y.cC r (λb hb e=>B b (d b hb).2 (d b hb).1 (D b e).1)];rfl
def Tw.le {seen:List Sn}{sn:List Seen}{n m:Nat}(h:Tw seen sn n)(hn:n<=m)(y:Sn):Tw (y::seen) sn m:=λz i=>by obtain⟨x,f,g,d,e⟩:=h z i;exact⟨x,dI _ f,g,λb hb=>⟨(d b hb).1,by have:=(d b hb).2;omega⟩,λb hb=>⟨(e b hb).1,by have:=(e b hb).2;omega⟩⟩
def FI.cons {tm:Tm}{s:St}{sn:List Seen}{o:Oper}{j:Nat}{K:Tm->St->Prop}(m:iN aE tm o.guard=J)(h:eM E X (aM tm) (eO s) o.op λv s'=>∃f d,FI E X aE rest (j+1) (tm.iG o.dst v) f d K/\∀k:St->List Seen->R3,tZ aE j s s' sn k=k f d):FI E X aE (o::rest) j tm s sn K:=by obtain⟨N,v,r,⟨f,d,⟨M,g,w,i,e⟩,hd⟩,hr⟩:=h;refine⟨max N M,g,w,i,λn hn lf hl=>?_⟩;rw[wK,m,ff,hr n aa lf aa];show tZ aE j s r sn (λs seen=>tm.put o.dst v λtm=>ua E _ aE rest (Nat.succ j) tm s seen)=_;rw[hd];rw[Tm.put_eq];exact e n aa lf aa
def FI.pass {tm:Tm}{s:St}{sn:List Seen}{o:Oper}{j:Nat}{K:Tm->St->Prop}(g:iN aE tm o.guard=U)(h:FI E X aE rest (j+1) (tm.iG o.dst (.tuple ⟨[]⟩)) s sn K):FI E X aE (o::rest) j tm s sn K:=by obtain⟨M,e,i,f,d⟩:=h;refine⟨M,e,i,f,λn hn lf hl=>?_⟩;rw[wK,g,ey,Tm.put_eq];exact d n hn lf hl
def WD.step {o:Oper}{j nx:Nat}{seen:List Sn}{l2:Value->Kn}(hl:∀v tm,mS l tm->mS (l2 v) (tm.iG o.dst v))(hw:Want aE l o.guard J)(h:WO E X Γ l o.op L λv L' n n' R Wr=>n=nx->kO nx ((Region.before ⟨aE⟩).getD j 0) R Wr seen/\WD E X Γ aE rest (j+1) (⟨j,R,Wr⟩::seen) n' (l2 v) L' K):WD E X Γ aE (o::rest) j seen nx l L K:=λtm s sn F i w V=>by
 obtain⟨N,v,s',⟨L',R,Wr,f,G,Q⟩,hr⟩:=h tm (eO s) F i.clear;have A:(eO s).next=s.next:=by cases s;rfl
 obtain⟨Z,W⟩:=Q (by rw[A,w]);subst w;have m:∀b,In s'.cC b->R b/\b<s'.next:=λb hb=>by obtain h|h:=G.cC b hb;cases s;simp[eO,In] at h;exact h
 have D:∀b,In s'.wr b->Wr b/\b<s'.next:=λb hb=>by obtain h|h:=G.wr b hb;cases s;simp[eO,In] at h;exact h
 have e:s.next<=s'.next:=by rw[<-A];exact G.nx
 refine FI.cons (hw.eval F) ⟨N,v,s',?_,hr⟩;obtain⟨hh,nn,a0,r0⟩:=s;obtain⟨B,d,a,r⟩:=s';have g:Tw (⟨j,R,Wr⟩::seen) sn d:=V.le e _;by_cases ha:a=0;refine⟨⟨B,d,a0,r0⟩,sn,?_,λk=>?_⟩;refine W _ _ _ (hl v tm F) ?_ rfl g;exact⟨f.fr,f.le,f.it,f.lt,f.nd,i.cC,i.wr,λb hb=>(i.top b hb).imp id λ(S:b<nn)=>by have e:nn<=d:=e;show b<d;omega,λb hb=>(i.ye b hb).imp id λ(S:b<nn)=>by have e:nn<=d:=e;show b<d;omega⟩;show bo (beq a 0) _ _=_;rw[ha];rfl;refine⟨⟨B,d,a0||| a,r0||| r⟩,⟨j,a,r⟩::sn,?_,λk=>?_⟩;refine W _ _ _ (hl v tm F) ?_ rfl ?_;refine⟨f.fr,f.le,f.it,f.lt,f.nd,λb hb=>?_,λb hb=>?_,λb hb=>?_,λb hb=>?_⟩;rcases(qT _ _ _).1 hb with h|h;exact i.cC b h;exact f.cC b h;rcases(qT _ _ _).1 hb with h|h;exact i.wr b h;exact f.wr b h;rcases(qT _ _ _).1 hb with h|h;(exact(i.top b h).imp id λ(S:b<nn)=>by have e:nn<=d:=e;show b<d;omega);exact f.top b h;rcases(qT _ _ _).1 hb with h|h;(exact(i.ye b h).imp id λ(S:b<nn)=>by have e:nn<=d:=e;show b<d;omega);exact f.ye b h;intro z T;obtain rfl|T:=cA.1 T;exact⟨_,ed,rfl,m,D⟩;exact g z T;show bo (beq a 0) _ (bo (ze ((Region.before ⟨aE⟩).getD j 0) a r sn) _ O)=_;rw[show beq a 0=U from aaI aa,TC m D Z V];simp only[ey,ff,RD];rfl
def WD.cons {d:Nat}{o:Oper}{j nx:Nat}{seen:List Sn}(hd:o.dst=C d)(f:Want aE l o.guard J)(h:WO E X Γ l o.op L λv L' n n' R Wr=>n=nx->kO nx ((Region.before ⟨aE⟩).getD j 0) R Wr seen/\WD E X Γ aE rest (j+1) (⟨j,R,Wr⟩::seen) n' ((d,v)::l) L' K):WD E X Γ aE (o::rest) j seen nx l L K:=
 WD.step (l2:=λv=>(d,v)::l) (λv g e=>by rw[hd];exact e.cons d v) f h
def WD.WX {o:Oper}{j nx:Nat}{seen:List Sn}(hd:o.dst=O)(e:Want aE l o.guard J)(h:WO E X Γ l o.op L λv L' n n' R Wr=>n=nx->kO nx ((Region.before ⟨aE⟩).getD j 0) R Wr seen/\WD E X Γ aE rest (j+1) (⟨j,R,Wr⟩::seen) n' l L' K):WD E X Γ aE (o::rest) j seen nx l L K:=
 WD.step (l2:=λv=>l) (λv f d=>by rw[hd];exact d) e h
def WD.pass {d:Nat}{o:Oper}{j nx:Nat}{seen:List Sn}(hd:o.dst=C d)(m:Want aE l o.guard U)(h:WD E X Γ aE rest (j+1) seen nx ((d,.tuple ⟨[]⟩)::l) L K):WD E X Γ aE (o::rest) j seen nx l L K:=λr s sn f g e i=>by exact FI.pass (m.eval f) (by rw[hd];exact h _ _ _ (f.cons d _) g e i)
end
def a8 {E:hJ}{X:fb}(fn:Func){f:FuncId}{c:Code}{args:aV}{s:St}{Lm:cq}{A:List Nat}{Q:Value->cq->Prop}(h:W E X ⟨s,Lm.flatMap It.bC,A⟩ c (W8 0 args) Lm (zt E fn.results.toList Q))(hf:E.fn.get f=C fn:=by kernel_rfl)(hb:fn.body=C c:=by exact rfl)(d:(beq f X.look||wE X f)=U:=by decide)(hl:Y args<=fn.ntmps:=by exact xA rfl):eJ E X f args s Lm A Q:=eJ.body hf hb d hl h
variable {Q:CR}{i id d j dj nx:Nat}{op:Op}{ty:TypeId}{pos:String}{after:Array Edge}{w:Bool}{seen:List Sn}
section
variable {k:Kn->cq->Prop}
def aJ (h:k l L):Lw Q k .normal l L:=h
def Pn (h:Q (.exit i) l L):Lw Q k (.exit i) l L:=h
def TE (h:Q .ret l L):Lw Q k .ret l L:=h
def eZ (h:Q .normal l L):oU id Q .normal l L:=h
def Po (h:Q .ret l L):oU id Q .ret l L:=h
def AF (h:Q .normal l L):oU id Q (.exit id) l L:=by
 show if id=id then Q .normal l L else Q (.exit id) l L
 rwa[ai rfl]
end
section
variable {K:Kn->cq->Prop}{t:Bool}
def ws (h:WO E X Γ l op L λv L' _ _ _ _=>WS E X Γ aE rest ((d,v)::l) L' K):WS E X Γ aE (⟨C d,op,ty,pos,after,O⟩::rest) l L K:=WS.cons rfl .none h
def ws0 (h:WO E X Γ l op L λv L' _ _ _ _=>WS E X Γ aE rest l L' K):WS E X Γ aE (⟨O,op,ty,pos,after,O⟩::rest) l L K:=WS.WX rfl .none h
def BG {b:Bool}(hd:mE aE j=C d)(h:lk l d=C (M t))(hb:(if t then w else !w)=b):Want aE l (C (j,w)) b:=by subst hb;exact Want.some hd h
def wsg (hd:mE aE j=C dj)(hl:lk l dj=C (M t))(h1:t=w->WO E X Γ l op L λv L' _ _ _ _=>WS E X Γ aE rest ((d,v)::l) L' K)(h2:t= !w->WS E X Γ aE rest ((d,.tuple ⟨[]⟩)::l) L K):WS E X Γ aE (⟨C d,op,ty,pos,after,C (j,w)⟩::rest) l L K:=by by_cases h:t=w;exact WS.cons rfl (BG hd hl (by subst h;cases t<;>rfl)) (h1 h);exact WS.pass rfl (BG hd hl (by cases t<;>cases w<;>simp_all)) (h2 (by cases t<;>cases w<;>simp_all))
def wd (h:WO E X Γ l op L λv L' n n' R Wr=>n=nx->kO nx ((Region.before ⟨aE⟩).getD i 0) R Wr seen/\WD E X Γ aE rest (i+1) (⟨i,R,Wr⟩::seen) n' ((d,v)::l) L' K):WD E X Γ aE (⟨C d,op,ty,pos,after,O⟩::rest) i seen nx l L K:=WD.cons rfl .none h
def wd0 (h:WO E X Γ l op L λv L' n n' R Wr=>n=nx->kO nx ((Region.before ⟨aE⟩).getD i 0) R Wr seen/\WD E X Γ aE rest (i+1) (⟨i,R,Wr⟩::seen) n' l L' K):WD E X Γ aE (⟨O,op,ty,pos,after,O⟩::rest) i seen nx l L K:=WD.WX rfl .none h
def wdg (hd:mE aE j=C dj)(hl:lk l dj=C (M t))(h1:t=w->WO E X Γ l op L λv L' n n' R Wr=>n=nx->kO nx ((Region.before ⟨aE⟩).getD i 0) R Wr seen/\WD E X Γ aE rest (i+1) (⟨i,R,Wr⟩::seen) n' ((d,v)::l) L' K)(h2:t= !w->WD E X Γ aE rest (i+1) seen nx ((d,.tuple ⟨[]⟩)::l) L K):WD E X Γ aE (⟨C d,op,ty,pos,after,C (j,w)⟩::rest) i seen nx l L K:=by by_cases h:t=w;exact WD.cons rfl (BG hd hl (by subst h;cases t<;>rfl)) (h1 h);exact WD.pass rfl (BG hd hl (by cases t<;>cases w<;>simp_all)) (h2 (by cases t<;>cases w<;>simp_all))
end
noncomputable def afG (E:hJ)(t:TypeId):Option Bool:=ob (iE E t) λd=>C (wz d)
theorem jn (h:afG E t=C U):j7 E t:=by obtain⟨d,e,f⟩:=aG h;exact⟨d,e,dM f⟩
noncomputable def ahZ (E:hJ)(t:TypeId):Option (Bool×Nat):=ob (iE E t) λd=>ob (size E t) λn=>C (wz d,n)
theorem qX {n:Nat}(h:ahZ E t=C (J,n)):vL E t n:=by obtain⟨d,e,f⟩:=aG h;obtain⟨m,g,r⟩:=aG f;have:=dM r;simp only[cu] at this;exact⟨d,e,this.1,by rw[g,this.2]⟩
noncomputable def ah0 (E:hJ)(t:TypeId)(i:Nat):Option Nat:=ob (iE E t) λd=>match d with
 |.struct ⟨fs⟩=>ob (jH fs i) λf=>ob (size E f.type) λsz=>dq (ble (nat_lit 1) sz) (C f.offset)
 |_=>O
theorem di {i off:Nat}(h:ah0 E t i=C off):iA E t i off:=by obtain⟨d,m,e⟩:=aG h;split at e;rename_i fs;obtain⟨f,g,r⟩:=aG e;obtain⟨sz,z,A⟩:=aG r;obtain⟨B,D⟩:=bw A;rw[ec] at g;exact⟨fs,f,sz,m,g,z,xA B,dM D⟩;cases e
noncomputable def ah1 (E:hJ)(t:TypeId):Option (Nat×Nat×aV):=ob (iE E t) λd=>match d with
 |.slice e=>ob (E.ty.get e) λi=>ob i.zero λv=>dq (beq (dJ (cT v)) i.size&&ble (nat_lit 1) i.size&&ble i.bytes (nat_lit 1000000)) (C (e,i.size,cT v))
 |_=>O
theorem nW {e sz:Nat}{z:aV}(h:ah1 E t=C (e,sz,z)):oV E t e sz z:=by obtain⟨d,m,g⟩:=aG h;split at g;rename_i G;obtain⟨i,r,A⟩:=aG g;obtain⟨v,B,D⟩:=aG A;obtain⟨f,F⟩:=bw D;simp only[ep] at f;cases dM F;exact⟨m,i,v,r,rfl,B,rfl,by have:=nN f.1.1;simpa using this,xA f.1.2,xA f.2⟩;cases g
theorem mf {e sz:Nat}{z:aV}(h:oV E t e sz z):ky E t e sz:=by obtain⟨f,i,v,g,m,r,A,B,D,F⟩:=h.h;exact⟨f,i,v,g,m,r,by rw[A,B],D,F⟩
noncomputable def adR (E:hJ)(t:TypeId):Option (aV):=ob (zero E t) λv=>C (cT v)
theorem jy {z:aV}(h:adR E t=C z):pL E t z:=by obtain⟨v,e,f⟩:=aG h;exact⟨v,e,dM f⟩
noncomputable def aaJ (E:hJ)(t:TypeId):Option (List (Nat×Nat)×aV):=ob (iE E t) λd=>match d with
 |.struct ⟨fs⟩=>ob (places E fs) λpl=>ob (zero E t) λv=>C (pl,cT v)
 |_=>O
theorem jz {pl:List (Nat×Nat)}{z:aV}(h:aaJ E t=C (pl,z)):lK E t pl z:=by obtain⟨d,f,e⟩:=aG h;split at e;rename_i fs;obtain⟨p,g,m⟩:=aG e;obtain⟨v,r,A⟩:=aG m;have:=dM A;simp only[cu] at this;exact⟨fs,v,f,by rw[g,this.1],r,this.2⟩;cases e
def cb.nil (L:cq):cb [] L:=⟨[],.refl _,List.nil_sublist _⟩
def cb.cons {x:It}{L R L2:cq}(h:Bm x L R)(k:cb L2 R):cb (x::L2) L:=by
 obtain⟨l,g,hs⟩:=k;induction h generalizing l L2 with
 |here=>exact⟨x::l,g.cons _,hs.cons_cons _⟩
 |there h ih=>
  rename_i y L R;cases hs with
  |cons _ hs=>obtain⟨l',e,f⟩:=ih l g hs;exact⟨l',e,f.cons _⟩
  |cons_cons _ hs=>rename_i l0;obtain⟨l',e,f⟩:=ih (L2:=l0) l0 (.refl _) hs;refine⟨y::l',?_,f.cons_cons _⟩;exact((e.cons _).trans (.swap _ _ _)).trans (g.cons _)
def cb.refl (L:cq):cb L L:=⟨L,.refl _,.refl _⟩
variable {a2:aP}{enc:au α sz}{mask:Nat}{f:FuncId}{xs:List Operand}{ts:Array TypeId}{vs:aV}{r:Value}{A:List Nat}{I W9:Kn->cq->Prop}{rs:List ResultVar}{e:Nat}{b':Bool}{o':Operand}{j':Int}{k':IntKind}
class TT (E:hJ)(t:TypeId)(e sz:outParam Nat)(α:outParam Type)(enc:outParam (au α sz)):Prop where
 h:∃z,oV E t e sz z/\∃d:α,au.cells (sz:=sz) d=z
theorem TT.elem {E:hJ}{t e sz:Nat}{α:Type}{enc:au α sz}(h:TT E t e sz α enc):ky E t e sz:=by obtain⟨z,g,_⟩:=h.h;exact mf g
section
variable {a:aP}
inductive EvE (l:Kn)(enc:au α sz):Nat->List (Nat×Operand)->List α->Prop
 |nil {i:Nat}:EvE l enc i [] []
 |cons {i:Nat} {x:Operand} {v:Value} {p:α} {ps:List (Nat×Operand)} {xs:List α} (h:Ev l x v) (hv:cT v=au.cells (sz:=sz) p) (k:EvE l enc (i+1) ps xs):EvE l enc i ((i,x)::ps) (p::xs)
def EvE.vals {ps:List (Nat×Operand)}{xs:List α}{i:Nat}(h:EvE l enc i ps xs):∃vs:List (Nat×Value),W5 l ps vs/\∀(done rest:aV),Y done=i*sz->Y rest=Y xs*sz->rn (oB sz) vs (done++rest)=C (done++ab (sz:=sz) xs):=by
 induction h with
 |nil=>exact⟨[],.nil,λdone rest B m=>by
   have:rest=[]:=jG (by simpa using m);subst this;rfl⟩
 |cons h hv k ih=>
  rename_i i x v p ps xs;obtain⟨vs,B,m⟩:=ih;refine⟨(i,v)::vs,.cons h B,λdone rest z F=>?_⟩;show ob (C (mul i sz,sz)) (λq=>dq (beq (dJ (cT v)) q.2)<| ob (fK q.1 (cT v) (done++rest)) λcs=>rn (oB sz) vs cs)=_;simp only[bF,cR,hv,au.len,kY];rw[dY];have hr:Y rest=Y xs*sz+sz:=by rw[F,fS,mO,Nat.one_mul]
  have g:fK (mul i sz) (au.cells (sz:=sz) p) (done++rest)=C (done++au.cells (sz:=sz) p++rest.drop sz):=by
   (have hl:mul i sz+Y (au.cells (sz:=sz) p)<=Y (done++rest):=by rw[au.len,dB,z];show i*sz+sz<=_;omega);have:∀(k:Nat)(c d:aV),Y c=k->Y d>=Y (au.cells (sz:=sz) p)->fK k (au.cells (sz:=sz) p) (c++d)=C (c++au.cells (sz:=sz) p++d.drop (Y (au.cells (sz:=sz) p))):=by
    intro k;induction k with
    |zero=>intro c d hc hd;have:c=[]:=jG hc;subst this;show kH _ _=_;rw[RE,kG,ai hd];simp
    |succ k ih=>
     intro c d hc hd;cases c with
     |nil=>simp at hc
     |cons y c=>show ob (fK k _ (c++d)) (λr=>C (y::r))=_;rw[ih c d (by simpa using hc) hd];rfl
   have D:=this (mul i sz) done rest z (by rw[au.len];omega);rwa[au.len] at D
  rw[g,bF,m (done++au.cells (sz:=sz) p) (rest.drop sz) (by rw[dB,au.len,z,mO,Nat.one_mul]) (by rw[fq,hr];omega),eU,iD]
def gb {m e:Nat}{ps:List (Nat×Operand)}{xs:List α}[ht:TT E t e sz α enc](G:EvE l enc 0 ps xs)(hm:m=Y xs)(hb:ble (mul m sz) 16777216=J)
  (k:∀b,gk L b->K (H (C ⟨b,0,O⟩) (Y xs) m) (.aU (H (C ⟨b,0,O⟩) (Y xs) m) e sz (ab (sz:=sz) xs)::L) b (b+1) (λi=>i=b) (λi=>i=b)):WO E X Γ l (.buildSlice t m ⟨ps⟩) L K:=by obtain⟨z,g,d,B⟩:=ht.h;obtain⟨vs,D,F⟩:=G.vals;subst hm;refine FK (ht:=g) hb D (cs:=ab (sz:=sz) xs) ?_ (bn _) k;have:=F [] (vK z (Y xs)) aq (by rw[<-B,Lz,bn];simp);simpa using this
def wR {e c c2:Nat}{p q:List α}[ht:TT E t e sz α enc][ht2:TT E t2 e sz α enc](S:Ev l x (H a (Y p) c))(T:Ev l y (H a2 (Y q) c2))(hr:Bm (.aU (H a (Y p) c) e sz (ab (sz:=sz) p)) L R)(hs:ga Γ L a2 (Y q) sz (ab (sz:=sz) q))(hn:Y p+Y q<=1000000)
  (k:∀b b' a' c',gk L b->b<=b'->(∀i∈ah a',i∈ah a\/i=b)->K (H a' (Y (p++q)) c') (.aU (H a' (Y (p++q)) c') e sz (ab (sz:=sz) (p++q))::R) b b' (λi=>i∈ah a2\/i∈ah a\/i=b) (λi=>i∈ah a\/i=b)):WO E X Γ l (.call ⟨.builtin .append,⟨[x,y]⟩,⟨[t,t2]⟩⟩) L K:=by
 obtain⟨z,G,d,h2⟩:=ht.h;obtain⟨W,N,Z,h4⟩:=ht2.h;have V:W=z:=by obtain⟨_,i,v,B,_,D,P,_⟩:=G.h;obtain⟨_,i',v',g,_,m,F,_⟩:=N.h;rw[B] at g;cases g;rw[D] at m;cases m;rw[<-P,<-F]
 subst V;refine TB (ht:=G) (ht2:=N) S T hr hs (vj _) hn λb b' a' c' B g D=>?_;have:=k b b' a' c' B g D;rwa[ir,dB] at this
def Xa {d:α}{m e:Nat}{G N:IntKind}[ht:TT E t e sz α enc](hd:∀z,oV E t e sz z->au.cells (sz:=sz) d=z)(D:Ev l x (.int G (m:Int)))(F:Ev l y (.int N (m:Int)))(hm:m<=1000000)
  (k:∀b c,gk L b->K (H (C ⟨b,0,O⟩) (Y (replicate m d)) c) (.aU (H (C ⟨b,0,O⟩) (Y (replicate m d)) c) e sz (ab (sz:=sz) (replicate m d))::L) b (b+1) (λi=>i=b) (λi=>i=b)):WO E X Γ l (.makeSlice t x y) L K:=by obtain⟨z,g,_⟩:=ht.h;refine Jl (ht:=g) (hd z g) D F hm λb B=>?_;have:=k b m B;rwa[sk] at this
end
section
variable {K:Kn->cq->Prop}{t:Bool}
def ah2 (hd:mE aE j=C dj)(hl:lk l dj=C (M t))(ht:t=w)(h1:WO E X Γ l op L λv L' _ _ _ _=>WS E X Γ aE rest ((d,v)::l) L' K):WS E X Γ aE (⟨C d,op,ty,pos,after,C (j,w)⟩::rest) l L K:=wsg hd hl (λ_=>h1) (λh=>by subst ht;cases t<;>cases h)
def ah3 (hd:mE aE j=C dj)(hl:lk l dj=C (M t))(ht:t= !w)(h2:WS E X Γ aE rest ((d,.tuple ⟨[]⟩)::l) L K):WS E X Γ aE (⟨C d,op,ty,pos,after,C (j,w)⟩::rest) l L K:=wsg hd hl (λh=>by subst ht;cases w<;>cases h) (λ_=>h2)
def ah4 (hd:mE aE j=C dj)(hl:lk l dj=C (M t))(ht:t=w)(h1:WO E X Γ l op L λv L' n n' R Wr=>n=nx->kO nx ((Region.before ⟨aE⟩).getD i 0) R Wr seen/\WD E X Γ aE rest (i+1) (⟨i,R,Wr⟩::seen) n' ((d,v)::l) L' K):WD E X Γ aE (⟨C d,op,ty,pos,after,C (j,w)⟩::rest) i seen nx l L K:=wdg hd hl (λ_=>h1) (λh=>by subst ht;cases t<;>cases h)
def ah5 (hd:mE aE j=C dj)(hl:lk l dj=C (M t))(ht:t= !w)(h2:WD E X Γ aE rest (i+1) seen nx ((d,.tuple ⟨[]⟩)::l) L K):WD E X Γ aE (⟨C d,op,ty,pos,after,C (j,w)⟩::rest) i seen nx l L K:=wdg hd hl (λh=>by subst ht;cases w<;>cases h) (λ_=>h2)
def aaK {P:Prop}(h:P):kO n mask Z Z seen/\P:=by
 refine⟨?_,h⟩;induction seen with
 |nil=>trivial
 |cons x l ih=>exact⟨.inr ⟨λ_ _ _ h=>h,λ_ _ _ h=>h⟩,ih⟩
def TF {R Wr:Fp}{P:Prop}(h:P):kO n mask R Wr []/\P:=⟨trivial,h⟩
def Pp {R Wr:Fp}{P:Prop}{k:Nat}(h:kO n mask R Wr seen/\P):kO n mask R Wr (⟨k,Z,Z⟩::seen)/\P:=⟨⟨.inr ⟨λ_ _ h=>h.elim,λ_ _ h=>h.elim⟩,h.1⟩,h.2⟩
def LB {R g:Fp}{P:Prop}{k:Nat}(h:kO n mask R Z seen/\P):kO n mask R Z (⟨k,g,Z⟩::seen)/\P:=⟨⟨.inr ⟨λ_ _ h=>h.elim,λ_ _ _ h=>h⟩,h.1⟩,h.2⟩
def Jm {R Wr g m:Fp}{P:Prop}{k:Nat}(hb:Nat.testBit mask k=J)(h:kO n mask R Wr seen/\P):kO n mask R Wr (⟨k,g,m⟩::seen)/\P:=⟨⟨.inl hb,h.1⟩,h.2⟩
def yh {R Wr g m:Fp}{P:Prop}{k:Nat}(h1:∀b,b<n->m b->¬R b)(h2:∀b,b<n->g b->¬Wr b)(h:kO n mask R Wr seen/\P):kO n mask R Wr (⟨k,g,m⟩::seen)/\P:=⟨⟨.inr ⟨h1,h2⟩,h.1⟩,h.2⟩
def TG {P:Prop}(h:P):kO n mask (λi=>i=n) (λi=>i=n) seen/\P:=by
 refine⟨?_,h⟩;induction seen with
 |nil=>trivial
 |cons x l ih=>exact⟨.inr ⟨λb g _ m=>by omega,λb g _ m=>by omega⟩,ih⟩
end
def adS {k:IntKind}{a b:Int}{t2:TypeId}(m:Ev l x (.int k a))(z:Ev l y (.int k b))(h:∀n,K (.int k (min a b)) L n n Z Z):WO E X Γ l (.call ⟨.builtin .min,⟨[x,y]⟩,⟨[t,t2]⟩⟩) L K:=jw (λg s call hl=>by show aab (aM g x) (aM g y) s=_;rw[m.eval hl,z.eval hl];show dq (pA k k) (aD (.int k (bo (VP b a) b a)) s)=_;rw[ur,dY,qV,dC];unfold aD;congr 3;by_cases h:b<a<;>simp[h]<;>omega) h
def adT {k:IntKind}{a b:Int}{t2:TypeId}(m:Ev l x (.int k a))(z:Ev l y (.int k b))(h:∀n,K (.int k (max a b)) L n n Z Z):WO E X Γ l (.call ⟨.builtin .max,⟨[x,y]⟩,⟨[t,t2]⟩⟩) L K:=jw (λg s call hl=>by show aac (aM g x) (aM g y) s=_;rw[m.eval hl,z.eval hl];show dq (pA k k) (aD (.int k (bo (VP a b) b a)) s)=_;rw[ur,dY,qV,dC];unfold aD;congr 3;by_cases h:a<b<;>simp[h]<;>omega) h
def BH {B g:IntKind}{n m:Int}{t2:TypeId}[h1:yg E t B][h2:yg E t2 g]{k:IntKind}(z:Ev l x (.int k n))(hm:g.wrap n=m)(h:∀i,K (.int g m) L i i Z Z):WO E X Γ l (.convert t t2 x) L K:=jw (λD s call hl=>by show qq E s t t2 (aM D x)=_;rw[z.eval hl];unfold qq;rw[h1.h,h2.h];show aD (.int g (pz g n)) s=_;rw[kF,hm];rfl) h
def ni (z:List UInt8)[enc:au UInt8 1](g:∀c,au.cells c=[bv c]):strCells z=ab z:=by
 induction z with
 |nil=>rfl
 |cons c z ih=>rw[eU,g,<-ih];rfl
def Hb (z:List UInt8)[enc:au UInt8 1](g:∀c,au.cells c=[bv c]):xT (ab z)=C z:=by
 induction z with
 |nil=>rfl
 |cons c z ih=>rw[eU,g];show dq (ble (Nat.succ c.toNat) 256) (ob (xT (ab z)) λr=>C (UInt8.ofNat c.toNat::r))=_;rw[ih,dQ (show Nat.succ c.toNat<=256 from by have:=c.toNat_lt;omega)];simp[dY]
def adU {a:aP}{c e:Nat}{p:List UInt8}{t2:TypeId}{enc:au UInt8 1}[h1:TT E t e 1 UInt8 enc][h2:yf E t2][F:yg E e .u8](T:∀c,au.cells c=[bv c])(W:Ev l x (H a (Y p) c))(V:ga Γ L a (Y p) 1 (ab p))(k:∀n,K (sv p) L n n (λi=>i∈ah a) Z):WO E X Γ l (.convert t t2 x) L K:=λtm s hl hi=>by obtain⟨z,hr,_⟩:=h1.h;obtain⟨B,g⟩:=V.row hi;refine eM.pure (v:=sv p) (s':=jK s a) (λcall=>?_) ⟨L,(λi=>i∈ah a),Z,hi.jK g,wO (λb hb=>(g b hb).1) (λb hb=>hb),by rw[wN];exact k _⟩;show qq E s t t2 (aM tm x)=_;rw[W.eval hl];unfold qq;rw[hr.h.1,h2.h];show ob (iE E e) (λd=>dq (isByte d)<| OU s a (Y p))=_;rw[F.h];show dq J _=_;rw[dY];obtain⟨G,D⟩:=B;obtain⟨D,rfl|⟨b,o,q,rfl,N⟩⟩|⟨b,o,c',e',w,rfl,N,P,S⟩:=D;have:p=[]:=jG D;subst this;rfl;have:p=[]:=jG D;subst this;rfl;show s.row b (λc _ _ s=>ob (gE (Y p) (fJ o c)) λl=>ob (xT l) λbs=>aD (.string ⟨⟨bs⟩⟩) s)=_;unfold St.row St.look;rw[P];simp only[bF];rw[pk (m:=Y p) (by simpa using S) (by simpa using G),bF,Hb p T];rfl
def Xb {e:Nat}{z:List UInt8}{t2:TypeId}{enc:au UInt8 1}[h1:yf E t][h2:TT E t2 e 1 UInt8 enc][D:yg E e .u8](F:∀c,au.cells c=[bv c])(G:Ev l x (sv z))(N:Y z<=1000000)(k:∀b,gk L b->K (H (C ⟨b,0,O⟩) (Y z) cl) (.box b (ab z) e U::L) b (b+1) (λi=>i=b) (λi=>i=b)):WO E X Γ l (.convert t t2 x) L K:=
 sI (mk:=λb=>H (C ⟨b,0,O⟩) (Y z) cl) (ob:=λ_=>.cells (ab z) e U) (it:=λb=>.box b (ab z) e U) (λP s call hl _=>by obtain⟨S,hr,_⟩:=h2.h;obtain⟨g,i,v,m,B,_⟩:=hr.h;show qq E s t t2 (aM P x)=_;rw[G.eval hl];unfold qq;rw[g,h1.h];show ob (iE E e) (λd=>dq (isByte d)<| ob (size E e) λsz=>dq (beq sz 1&&ble (dJ z) 1000000)<| aD (bA s (dJ z)) (s.new (.cells (strCells z) e U)))=_;rw[D.h];show dq J _=_;rw[dY];(have hs:size E e=C 1:=by unfold size;rw[m];simp[B]);rw[hs,bF,cR,dQ N];show dq J _=_;rw[dY,ni z F];rfl) (λs b h=>h) (λb=>rfl) k
def wrap_u8 (c:UInt8):IntKind.wrap .i64 (c.toNat:Int)=(c.toNat:Int):=pM ⟨by have:=c.toNat_lt;omega,by have:=c.toNat_lt;omega⟩
abbrev jA (E:hJ)(X:fb)(f:FuncId)(vs:aV)(s:St)(A:List Nat)(r:Value):Prop:=eJ E X f vs s [] A λv L=>v=r/\L=[]
abbrev eD {α:Type}{sz:Nat}[au α sz](E:hJ)(X:fb)(f:FuncId)(vs:aV)(s:St)(A:List Nat)(e:TypeId)(p:List α):Prop:=eJ E X f vs s [] A λv L=>∃a k,v= H a (Y p) k/\L=[.aU v e sz (ab (sz:=sz) p)]
def dZ (B:iu l xs vs)(h:∀s,Inv Γ s L->(∀b∈A,qW Γ s b)/\jA E X f vs s A r)(k:∀m g,gk L m->m<=g->K r L m g (iI A [] m g) (iJ [] m g)):WC E X Γ l f xs ts L K:=
 cI (Lm:=[]) (R:=L) B (.refl _) (λs hi=>(h s hi).1) (λs hi=>(h s hi).2) (by rintro v L' m g z hm ⟨rfl,rfl⟩;exact k m g z hm)
def ag (z:iu l xs vs)(h:∀s,jA E X f vs s [] r)(k:∀m g,gk L m->m<=g->K r L m g (iI [] [] m g) (iJ [] m g)):WC E X Γ l f xs ts L K:=
 dZ z (λs _=>⟨(λb hb=>by cases hb),h s⟩) k
def oG {α:Type}{sz:Nat}{enc:au α sz}{e:TypeId}{p:List α}(B:iu l xs vs)(h:∀s,Inv Γ s L->(∀b∈A,qW Γ s b)/\eD E X f vs s A e p)(k:∀m g a c,gk L m->m<=g->K (H a (Y p) c) (.aU (H a (Y p) c) e sz (ab (sz:=sz) p)::L) m g (iI A [] m g) (iJ [] m g)):WC E X Γ l f xs ts L K:=
 cI (Lm:=[]) (R:=L) B (.refl _) (λs hi=>(h s hi).1) (λs hi=>(h s hi).2) (by rintro v L' m g z hm ⟨a,c,rfl,rfl⟩;exact k m g a c z hm)
def lp {α:Type}{sz:Nat}{enc:au α sz}{e:TypeId}{p:List α}(z:iu l xs vs)(h:∀s,eD E X f vs s [] e p)(k:∀m g a c,gk L m->m<=g->K (H a (Y p) c) (.aU (H a (Y p) c) e sz (ab (sz:=sz) p)::L) m g (iI [] [] m g) (iJ [] m g)):WC E X Γ l f xs ts L K:=
 oG z (λs _=>⟨(λb hb=>by cases hb),h s⟩) k
def TH {a:aP}{n sz:Nat}{cs:aV}(B:iu l xs vs)(z:ga Γ L a n sz cs)(h:∀s,bJ s a n sz cs->jA E X f vs s (ah a) r)(k:∀m g,gk L m->m<=g->K r L m g (iI (ah a) [] m g) (iJ [] m g)):WC E X Γ l f xs ts L K:=
 dZ B (λs hi=>⟨(z.row hi).2,h s (z.row hi).1⟩) k
def TI {a:aP}{n g:Nat}{cs:aV}{α:Type}{sz:Nat}{enc:au α sz}{e:TypeId}{p:List α}(D:iu l xs vs)(B:ga Γ L a n g cs)(h:∀s,bJ s a n g cs->eD E X f vs s (ah a) e p)(k:∀m z a' c,gk L m->m<=z->K (H a' (Y p) c) (.aU (H a' (Y p) c) e sz (ab (sz:=sz) p)::L) m z (iI (ah a) [] m z) (iJ [] m z)):WC E X Γ l f xs ts L K:=
 oG D (λs hi=>⟨(B.row hi).2,h s (B.row hi).1⟩) k
def Rd.of {s:St}{a:aP}{n sz:Nat}{cs:aV}{A:List Nat}(h:bJ s a n sz cs)(g:∀b∈ah a,b∈A):Rd ⟨s,([]:cq).flatMap It.bC,A⟩ a n sz cs:=⟨h,g,λ_ _ h=>by cases h⟩
def LC {n n' mask:Nat}{seen:List Sn}{P:Prop}(h:P):kO n mask (λi=>i∈([]:List Nat)\/i∈([]:cq).flatMap It.bC\/(n<=i/\i<n')) (λi=>i∈([]:cq).flatMap It.bC\/(n<=i/\i<n')) seen/\P:=by
 refine⟨?_,h⟩;induction seen with
 |nil=>trivial
 |cons x l ih=>exact⟨.inr ⟨λb m _ g=>by simp at g;omega,λb m _ g=>by simp at g;omega⟩,ih⟩
section
variable {t:Bool}
def W.afH (m:Ev l x (M t))(ht:t=J)(h:W E X Γ a l L Q):W E X Γ (.cond x a b) l L Q:=W.cond m (λ_=>h) (λg=>by rw[ht] at g;cases g)
def W.afI (m:Ev l x (M t))(ht:t=U)(h:W E X Γ b l L Q):W E X Γ (.cond x a b) l L Q:=W.cond m (λg=>by rw[ht] at g;cases g) (λ_=>h)
def aaL {y:Operand}{t t2:TypeId}{K:KO}{a b:Bool}[h:WY E t](g:Ev l x (M a))(m:Ev l y (M b))(k:∀n,K (M (a== b)) L n n Z Z):WO E X Γ l (.binOp .eql t x y t2) L K:=fZ g m (λz=>by show ob (iE E t) (λd=>xQ .eql (V9 E d (M a) (M b)))=_;rw[h.h];rfl) k
def aaM {y:Operand}{t t2:TypeId}{K:KO}{a b:Bool}[h:WY E t](g:Ev l x (M a))(m:Ev l y (M b))(k:∀n,K (M (a != b)) L n n Z Z):WO E X Γ l (.binOp .neq t x y t2) L K:=fZ g m (λz=>by show ob (iE E t) (λd=>xQ .neq (V9 E d (M a) (M b)))=_;rw[h.h];rfl) k
def Jn {t:TypeId}{xs:aV}{ks:List Nat}:∀{l:List (TypeId×List Nat)},(t,ks)∈l->fA xs ks=J->xS t xs l=J
 |p::l,h,g=>by show bo (bo (beq t p.1) (fA xs p.2) U) J (xS t xs l)=J;obtain h|h:=cA.1 h;subst h;rw[kY,g];rfl;rw[Jn h g];cases bo (beq t p.1) (fA xs p.2) U<;>rfl
def Jo {y:Operand}{t t2:TypeId}{K:KO}{xs ys:aV}{ks:List Nat}[h:TEq E t ks]{r:Bool}(m:Ev l x (.agg ⟨xs⟩))(z:Ev l y (.agg ⟨ys⟩))(g:fA xs ks=J)(hr:gi xs ys=C r)(k:∀n,K (M r) L n n Z Z):WO E X Γ l (.binOp .eql t x y t2) L K:=fZ m z (λB=>by show dq (xS t xs E.eqs) (xQ .eql (gi xs ys))=_;rw[Jn h.h g,dY,hr];rfl) k
def Jp {y:Operand}{t t2:TypeId}{K:KO}{xs ys:aV}{ks:List Nat}[h:TEq E t ks]{r:Bool}(m:Ev l x (.agg ⟨xs⟩))(z:Ev l y (.agg ⟨ys⟩))(g:fA xs ks=J)(hr:gi xs ys=C r)(k:∀n,K (M !r) L n n Z Z):WO E X Γ l (.binOp .neq t x y t2) L K:=fZ m z (λB=>by show dq (xS t xs E.eqs) (xQ .neq (gi xs ys))=_;rw[Jn h.h g,dY,hr];rfl) k
end
def zu {n:Int}(h:0<=n/\n<=255):IntKind.wrap .u8 n=n:=by refine' zaT
section
variable {a b:Int}
def aaN (g:Ev l x (.int .u8 a))(m:Ev l y (.int .u8 b))(hf:0<=a-b/\a-b<=255)(h:∀n,K (.int .u8 (a-b)) L n n Z Z):WO E X Γ l (.binOp .sub t x y t2) L K:=fZ g m (λz=>by show C (Value.int .u8 (pz .u8 (a-b)))=_;rw[kF,zu hf]) h
end
def RS (id:Nat)(Q:CR)(I W9:Kn->cq->Prop):CR
 |.normal,l,L=>I l L
 |.exit i,l,L=>if i=id then W9 l L else oU id Q (.exit i) l L
 |.ret,l,L=>oU id Q .ret l L
def gG (h:I l L):RS id Q I W9 .normal l L:=h
def TJ (h:oU id Q .ret l L):RS id Q I W9 .ret l L:=h
def Pq (h:W9 l L):RS id Q I W9 (.exit id) l L:=by
 show if id=id then W9 l L else oU id Q (.exit id) l L
 rwa[ai rfl]
def W.bu (I:Nat->Kn->cq->Prop)(W9:Kn->cq->Prop)(k:Nat)(h0:I k l L)(step:∀k l L,I k l L->W E X Γ a l L (RS id Q (λl L=>∃j,j<k/\I j l L) W9))(h:∀l L,W9 l L->Q .normal l L):W E X Γ (.loop a) l L (oU id Q):=
 W.loop I k h0 λk l L m=>(step k l L m).mono λe l L g=>by
  cases e with
  |normal=>exact g
  |ret=>exact g
  |exit i=>show oU id Q (.exit i) l L;(have g:if i=id then W9 l L else oU id Q (.exit i) l L:=g);by_cases hi:i=id;subst hi;rw[ai rfl] at g;exact AF (h l L g);rw[af hi] at g;exact g
def Xc {E:hJ}{X:fb}{Γ:ng}{l:Kn}{L:cq}{K:KO}{x:Operand}{t t2:TypeId}{n:Int}[h1:yg E t .i64][h2:yg E t2 .u8](m:Ev l x (iv n))(hn:0<=n/\n<=255)(h:∀i,K (bv (UInt8.ofNat n.toNat)) L i i Z Z):WO E X Γ l (.convert t t2 x) L K:=by
 refine BH (h1:=h1) (h2:=h2) (k:=.i64) m (zu hn) λi=>?_;have:=h i;unfold bv at this;have g:(((UInt8.ofNat n.toNat).toNat:Nat):Int)=n:=by rw[UInt8.toNat_ofNat_of_lt' (by show _<256;omega)];omega
 rwa[g] at this
noncomputable def RT (bT:Nat->Option (Nat×Nat)):List (Nat×Value)->aV->Option (aV)
 |[],cells=>C cells
 |(i,v)::l,cells=>match bT i with
  |none=>O
  |C (o,n)=>match beq (dJ (cT v)) n with
   |false=>O
   |true=>match fK o (cT v) cells with
    |none=>O
    |some cs=>RT bT l cs
 termination_by structural l=>l
def LD (bT:Nat->Option (Nat×Nat)):∀(l:List (Nat×Value))(cells:aV),rn bT l cells=RT bT l cells
 |[],cells=>rfl
 |(i,v)::l,cells=>by
  show ob (bT i) (λq=>dq (beq (dJ (cT v)) q.2)<| ob (fK q.1 (cT v) cells) λcs=>rn bT l cs)=_;unfold RT;cases bT i with
  |none=>rfl
  |some q=>
   obtain⟨o,n⟩:=q;simp only[bF];cases beq (dJ (cT v)) n with
   |false=>rfl
   |true=>
    rw[dY];cases fK o (cT v) cells with
    |none=>rfl
    |some cs=>exact LD bT l cs
def TK {E:hJ}{X:fb}{Γ:ng}{l:Kn}{L:cq}{K:KO}{t:TypeId}{cs:aV}{ps:List (Nat×Operand)}{vs:List (Nat×Value)}{pl:List (Nat×Nat)}{z:aV}[ht:lK E t pl z](g:W5 l ps vs)(hf:RT (jH pl) vs z=C cs)(k:∀n,K (.agg ⟨cs⟩) L n n Z Z):WO E X Γ l (.build t ⟨ps⟩) L K:=W6 g (by rwa[LD]) k
abbrev et {α:Type}{sz:Nat}[au α sz](E:hJ)(X:fb)(f:FuncId)(vs:aV)(s:St)(A:List Nat)(e:TypeId)(p:List α)(b:Bool):Prop:=eJ E X f vs s [] A λv L=>∃a k,v= .tuple ⟨[H a (Y p) k,M b]⟩/\L=[.aU (H a (Y p) k) e sz (ab (sz:=sz) p)]
def vk {α:Type}{sz:Nat}{enc:au α sz}{e:TypeId}{p:List α}{b:Bool}(B:iu l xs vs)(h:∀s,Inv Γ s L->(∀b∈A,qW Γ s b)/\et E X f vs s A e p b)(k:∀m g a c,gk L m->m<=g->K (.tuple ⟨[H a (Y p) c,M b]⟩) (.aU (H a (Y p) c) e sz (ab (sz:=sz) p)::L) m g (iI A [] m g) (iJ [] m g)):WC E X Γ l f xs ts L K:=
 cI (Lm:=[]) (R:=L) B (.refl _) (λs hi=>(h s hi).1) (λs hi=>(h s hi).2) (by rintro v L' m g z hm ⟨a,c,rfl,rfl⟩;exact k m g a c z hm)
def mu {α:Type}{sz:Nat}{enc:au α sz}{e:TypeId}{p:List α}{b:Bool}(z:iu l xs vs)(h:∀s,et E X f vs s [] e p b)(k:∀m g a c,gk L m->m<=g->K (.tuple ⟨[H a (Y p) c,M b]⟩) (.aU (H a (Y p) c) e sz (ab (sz:=sz) p)::L) m g (iI [] [] m g) (iJ [] m g)):WC E X Γ l f xs ts L K:=
 vk z (λs _=>⟨(λb hb=>by cases hb),h s⟩) k
section
variable {x:Ex}{a:aP}{k:Nat}{p q:List α}{b:Bool}
def ah6 (m:x= .normal\/x= .ret)(hr:AE E l L rs [H a (Y q) k])(g:cb [.aU (H a (Y q) k) e sz (ab (sz:=sz) q)] L)(h:p=q):zt E rs (λv L=>∃a k,v= H a (Y p) k/\L=[.aU v e sz (ab (sz:=sz) p)]) x l L:=by subst h;exact⟨m,_,_,hr,g,a,k,rfl,rfl⟩
def CY (m:x= .normal\/x= .ret)(hr:AE E l L rs [H a (Y q) k,M b'])(g:cb [.aU (H a (Y q) k) e sz (ab (sz:=sz) q)] L)(h:p=q)(hb:b=b'):zt E rs (λv L=>∃a k,v= .tuple ⟨[H a (Y p) k,M b]⟩/\L=[.aU (H a (Y p) k) e sz (ab (sz:=sz) p)]) x l L:=by subst h;subst hb;exact⟨m,_,_,hr,g,a,k,rfl,rfl⟩
end
def Rd.lt {Γ:ng}{a:aP}{n sz:Nat}{cs:aV}(h:Rd Γ a n sz cs):∀b∈ah a,b<Γ.s0.next:=λb hb=>by
 obtain⟨_,rfl|⟨b',o,q,rfl,g⟩⟩|⟨b',o,c,e,w,rfl,g,_⟩:=h.row.2;cases hb;have:b=b':=by simpa[ah] using hb
 subst this;exact g;have:b=b':=by simpa[ah] using hb
 subst this;exact g
def jV (a:aP)(n c:Nat):nH (H a n c)=ah a:=by cases a<;>rfl
section
variable {o:Operand}
def Hc [ht:yf E t](m:Ev l x (sv p))(g:Ev l o (.int k (i:Int)))(hi:i<=Y p)(h:∀n,K (sv (p.drop i)) L n n Z Z):WO E X Γ l (.slice t x (C o) O O) L K:=
 vh m (.inr ⟨o,k,rfl,g⟩) (.inl ⟨rfl,rfl⟩) hi (fG _) (by rwa[za aq])
def Hd [ht:yf E t](z:Ev l x (sv p))(m:Ev l o (.int k (j:Int)))(g:j<=Y p)(h:∀n,K (sv (p.take j)) L n n Z Z):WO E X Γ l (.slice t x O (C o) O) L K:=
 vh (i:=0) z (.inl ⟨rfl,rfl⟩) (.inr ⟨o,k,rfl,m⟩) (jl _) g (by rwa[Ah,Nat.sub_zero])
end
section
variable {K:Kn->cq->Prop}
def ah7 (hd:mE aE j=C dj)(hl:lk l dj=C (.tuple ⟨[]⟩))(h2:WS E X Γ aE rest ((d,.tuple ⟨[]⟩)::l) L K):WS E X Γ aE (⟨C d,op,ty,pos,after,C (j,w)⟩::rest) l L K:=WS.pass rfl (.undef hd hl) h2
def ah8 (hd:mE aE j=C dj)(hl:lk l dj=C (.tuple ⟨[]⟩))(h2:WD E X Γ aE rest (i+1) seen nx ((d,.tuple ⟨[]⟩)::l) L K):WD E X Γ aE (⟨C d,op,ty,pos,after,C (j,w)⟩::rest) i seen nx l L K:=WD.pass rfl (.undef hd hl) h2
end
def qY {E:hJ}{X:fb}{Γ:ng}{l:Kn}{L:cq}{K:KO}{x:Operand}{t:TypeId}{a:aP}{n sz:Nat}{α:Type}{enc:au α sz}{p:List α}{i c e:Nat}{k:IntKind}{j:Int}[ht:ky E t e sz](z:Ev l x (H a n c))(h:j=(i:Int))(g:ga Γ L a n sz (ab (sz:=sz) p))(hi:i<Y p)(m:∀n,K (fY a i sz 0) L n n Z Z):WO E X Γ l (.indexAddr t x (.const (.int k j))) L K:=by subst h;exact pb z .const g hi m
section
variable {o:Operand}{j:Int}
def nX (h:Ev l y (.int k j))(g:0<=j):Ev l y (.int k ((j.toNat:Nat):Int)):=by rwa[Ar g]
def TL [ht:yf E t](m:Ev l x (sv p))(z:Ev l y (.int k j))(g:0<=j/\j<Y p)(h:∀n,K (bv (p.getD j.toNat 0)) L n n Z Z):WO E X Γ l (.index t x y) L K:=Lx m (nX z g.1) aa h
def Pr [ht:yf E t](z:Ev l x (sv p))(m:Ev l o (.int k j))(g:0<=j/\j<=Y p)(h:∀n,K (sv (p.drop j.toNat)) L n n Z Z):WO E X Γ l (.slice t x (C o) O O) L K:=Hc z (nX m g.1) aa h
def Ps [ht:yf E t](z:Ev l x (sv p))(m:Ev l o (.int k j))(g:0<=j/\j<=Y p)(h:∀n,K (sv (p.take j.toNat)) L n n Z Z):WO E X Γ l (.slice t x O (C o) O) L K:=Hd z (nX m g.1) aa h
def Pt [ht:yf E t](B:Ev l x (sv p))(z:Ev l o (.int k j))(g:Ev l o' (.int k' j'))(m:0<=j/\j<=j'/\j'<=Y p)(h:∀n,K (sv ((p.drop j.toNat).take (j'.toNat-j.toNat))) L n n Z Z):WO E X Γ l (.slice t x (C o) (C o') O) L K:=vh B (.inr ⟨o,k,rfl,nX z m.1⟩) (.inr ⟨o',k',rfl,nX g aa⟩) aa aa h
def FL {a:aP}{n sz:Nat}{α:Type}{enc:au α sz}{q:List α}{c e:Nat}[ht:ky E t e sz](z:Ev l x (H a n c))(B:Ev l y (.int k j))(g:ga Γ L a n sz (ab (sz:=sz) q))(hi:0<=j/\j<Y q)(m:∀n,K (fY a j.toNat sz 0) L n n Z Z):WO E X Γ l (.indexAddr t x y) L K:=pb z (nX B hi.1) g aa m
end
class TD (E:hJ)(t:TypeId)(sz:Nat)(α:Type)(enc:au α sz)(d:outParam α):Prop where
 h:∃e z,oV E t e sz z/\au.cells (sz:=sz) d=z
def aaO {d:α}{j:Int}{e:Nat}{k1 k2:IntKind}[ht:TT E t e sz α enc][hd:TD E t sz α enc d](hx:Ev l x (.int k1 j))(hy:Ev l y (.int k2 j))(hm:0<=j/\j<=1000000)
  (k:∀b c,gk L b->K (H (C ⟨b,0,O⟩) (Y (replicate j.toNat d)) c) (.aU (H (C ⟨b,0,O⟩) (Y (replicate j.toNat d)) c) e sz (ab (sz:=sz) (replicate j.toNat d))::L) b (b+1) (λi=>i=b) (λi=>i=b)):WO E X Γ l (.makeSlice t x y) L K:=by
 refine Xa (m:=j.toNat) (d:=d) (λz hz=>?_) (nX hx hm.1) (nX hy hm.1) aa k;obtain⟨G,z',N,S⟩:=hd.h;obtain⟨T,i,v,V,_,W,Z,_⟩:=N.h;obtain⟨D,i',v',g,_,B,F,_⟩:=hz.h;have he:G=e:=by have:=T.symm.trans D;injection this with this;injection this
 subst he;rw[V] at g;cases g;rw[W] at B;cases B;rw[S,<-Z,F]
variable {a' a0:aP}{c0:Nat}{p0:List α}
def pn (a b:UInt8):(a<b)↔a.toNat<b.toNat:=Gs
def pO:∀p q:List UInt8,(!(Op.bytesLess p q||decide (p=q)))=Op.bytesLess q p
 |[],[]=>by simp[Op.bytesLess]
 |[],_::_=>by simp[Op.bytesLess]
 |_::_,[]=>by simp[Op.bytesLess]
 |a::p,b::q=>by
  have ih:=pO p q;have hd:decide (a::p=b::q)=(decide (a=b)&&decide (p=q)):=by by_cases g:a=b<;>by_cases m:p=q<;>simp[g,m]
  rw[hd];show(!((decide (a<b)||(a== b&&Op.bytesLess p q))||(decide (a=b)&&decide (p=q))))=(decide (b<a)||(b== a&&Op.bytesLess q p));rw[<-ih];by_cases h:a=b;subst h;(have:¬(a<a):=by rw[pn];omega);simp[this];have B:¬b=a:=λe=>h e.symm;(have D:a.toNat≠b.toNat:=λe=>h (tz.1 e));(have g:(a== b)=U:=by simpa using h);(have m:(b== a)=U:=by simpa using B);by_cases z:a<b;(have:¬b<a:=by rw[pn] at *;omega);simp[h,g,m,z,this];have:b<a:=by rw[pn] at *;omega
  simp[h,g,m,z,this]
section
variable {a:aP}
def aaP (g:Ev l x (sv p))(m:Ev l y (sv q))(h:∀n,K (M (Op.bytesLess q p)) L n n Z Z):WO E X Γ l (.binOp .gtr t x y t2) L K:=fZ g m (λz=>by
 show C (Value.bool (!(bo (oo p q) J (gP p q))))=_;rw[sy,fk,<-pO p q];have:∀a b:Bool,bo a J b=(a||b):=by intro a b;cases a<;>rfl
 rw[this];congr 4;rw[o6];simp) h
end
def TN (a:aP)(k:Nat):aP:=match a with
 |C ⟨b,o,O⟩=>C ⟨b,o+k,O⟩
 |a=>a
structure FM (sz:Nat)(a:aP)(i n:Nat)(a':aP):Prop where
 h:a'=TN a (i*sz)\/(n=0/\(a'=a\/∃b o o' r,a=some ⟨b,o,none⟩/\a'=some ⟨b,o',some r⟩))
structure Sub {α:Type}(sz:Nat)(a:aP)(p:List α)(a':aP)(q:List α):Prop where
 h:∃i n,q=(p.drop i).take n/\i+n<=p.length/\FM sz a i n a'
def aaQ {a:aP}{k:Nat}:ah (TN a k)=ah a:=by unfold TN;split<;>rfl
def FM.bC {sz i n:Nat}{a a':aP}(h:FM sz a i n a'):ah a'=ah a:=by obtain rfl|⟨_,rfl|⟨b,o,o',r,rfl,rfl⟩⟩:=h.h;exact aaQ;rfl;rfl
section
variable {p q:List α}{a:aP}
def Sub.bC (h:Sub sz a p a' q):ah a'=ah a:=by obtain⟨_,_,_,_,h⟩:=h.h;exact h.bC
def bJ.sub (h:bJ s a (Y p) sz (ab (sz:=sz) p))(hs:Sub sz a p a' q):bJ s a' (Y q) sz (ab (sz:=sz) q):=by
 obtain⟨i,n,rfl,B,hs⟩:=hs.h;refine⟨bn _,?_⟩;have cg:Y ((p.drop i).take n)=n:=by rw[de,fq];omega
 obtain rfl|⟨rfl,rfl|⟨b,o,o',r,rfl,rfl⟩⟩:=hs.h;rcases h.2 with⟨h0,rfl|⟨b,o,r,rfl,hb⟩⟩|⟨b,o,c,e,w,rfl,g,m,z⟩;exact .inl ⟨aa,.inl rfl⟩;exact .inl ⟨aa,.inr ⟨b,o,r,rfl,hb⟩⟩;refine .inr ⟨b,o+i*sz,c,e,w,rfl,g,m,?_⟩;rw[cg,<-G9,<-zr,<-z,List.drop_take,KN,wx];congr 1;(have:n*sz<=Y p*sz-i*sz:=by rw[<-Nat.sub_mul];exact Ai _ aa);omega;rcases h.2 with⟨h0,g⟩|⟨b,o,c,e,w,rfl,g,m,z⟩;exact .inl ⟨aq,g⟩;exact .inr ⟨b,o,c,e,w,rfl,g,m,by simp[ab]⟩;refine .inl ⟨aq,.inr ⟨b,o',r,rfl,?_⟩⟩;obtain⟨h0,g|⟨b,o,r,g,hb⟩⟩|⟨b,o,c,e,w,g,m,z,D⟩:=h.2;cases g;cases g;cases g;exact m
end
def tg (s:St)(a:aP)(n c e sz:Nat):Prop:=(a=O/\n=0/\c=0)\/∃b o cs w,a=C ⟨b,o,O⟩/\b<s.next/\s.heap.get b=C (.cells cs e w)/\((n<=c/\c<cl)\/(w=J/\cl<=c/\o=(c-cl)*sz/\o+n*sz<=Y cs))
def nV.slv {s:St}{a:aP}{n c e sz:Nat}{cs:aV}(h:nV s (H a n c) e sz cs)(hb:∀b∈ah a,b<s.next):tg s a n c e sz:=by obtain⟨z,rfl⟩|⟨b,m,k,w,rest,z,B,D,g⟩:=h;cases z;exact .inl ⟨rfl,rfl,rfl⟩;cases z;refine .inr ⟨b,0,cs++rest,w,rfl,hb b (by simp[ah]),B,?_⟩;obtain⟨g,F,_⟩|⟨rfl,g⟩:=g;exact .inl ⟨g,F⟩;exact .inr ⟨g,fG _,aq,by rw[dB,D];omega⟩
section
variable {o:Operand}{a:aP}{c:Nat}{p:List α}
structure ZY (l:Kn)(len:Nat)(lo hi:Option Operand)(i j:Nat):Prop where
 lo:(lo=none/\i=0)\/∃o k,lo=some o/\Ev l o (.int k (i:Int))
 hi:(hi=none/\j=len)\/∃o k,hi=some o/\Ev l o (.int k (j:Int))
 h:i<=j/\j<=len
def rJ {β:Type}{tm:Tm}{lo hi:Option Operand}{i j len cap:Nat}(h:ZY l len lo hi i j)(hl:mS l tm)(hc:len<=cap)(k:Nat->Nat->Nat->Option β):bounds len cap (dN (aM tm) lo) (dN (aM tm) hi) O k=k i j cap:=by
 have z:hiV len cap (dN (aM tm) hi) O=C j:=by obtain⟨rfl,rfl⟩|⟨o,k,rfl,g⟩:=h.hi;rfl;show mY (aM tm o) cap=_;rw[g.eval hl];show bo (ble j cap) (C j) O=_;rw[dQ (by have:=h.h;omega)];rfl
 have B:K0 (dN (aM tm) lo) j 0=C i:=by obtain⟨rfl,rfl⟩|⟨o,k,rfl,g⟩:=h.lo;rfl;show mY (aM tm o) j=_;rw[g.eval hl];show bo (ble i j) (C i) O=_;rw[dQ h.h.1];rfl
 show ob (C cap) (λm=>ob (hiV len m (dN (aM tm) hi) O) λh=>ob (K0 (dN (aM tm) lo) h 0) λl=>k l h m)=_;simp only[bF,z,B]
def LF {tm:Tm}{lo hi:Option Operand}{i j len:Nat}(h:ZY l len lo hi i j)(hl:mS l tm)(g:nO (dN (aM tm) lo) (dN (aM tm) hi) O=J):i=0/\j=0:=by
 obtain⟨z,B,D,_⟩:=h;obtain⟨rfl,rfl⟩|⟨o,k,rfl,m⟩:=z;rcases B with⟨rfl,rfl⟩|⟨o,k,rfl,m⟩;cases g;simp only[dN,m.eval hl] at g;cases j with
 |zero=>exact⟨rfl,rfl⟩
 |succ j=>cases g
 exact absurd g (by show ¬(nO (C _) _ _=J);simp[nO])
def BK [ht:TT E t e sz α enc]{tm:Tm}{lo hi:Option Operand}{i j:Nat}(h:ZY l n lo hi i j)(hl:mS l tm)(hv:tg s a n c e sz):
  ∃a' c' s',fX E s t (H a n c) (dN (aM tm) lo) (dN (aM tm) hi) O=C (H a' (j-i) c',s')/\(s'=s\/∃b∈ah a,s'=s.aL b)/\FM sz a i (j-i) a'/\(0<j-i->a'=TN a (i*sz)/\((c<cl/\c'=c-i)\/(cl<=c/\c'=c+i))):=by
 obtain⟨z,hr,_⟩:=ht.h;obtain⟨hu,ii,z1,G,N,hi3,hi4,hi5,hi6,hi7⟩:=hr.h;have T:size E e=C sz:=by unfold size;rw[G];simp[N]
 have Bk:=h.h;have g:∀a,n<=c->cQ sz a n c (dN (aM tm) lo) (dN (aM tm) hi) O=C (H (bo (beq c i) a (oZ a (mul i sz))) (j-i) (c-i)):=λa hc=>by unfold cQ;rw[rJ h hl hc];rfl
 have m:∀a,(a=O\/∃b o,a=C ⟨b,o,O⟩)->n<=c->FM sz a i (j-i) (bo (beq c i) a (oZ a (mul i sz))):=λa ha hc=>by
  cases B:beq c i with
  |true=>have:c=i:=nN B;exact⟨.inr ⟨aa,.inl rfl⟩⟩
  |false=>
   refine⟨.inl ?_⟩;show oZ a (mul i sz)=_;obtain rfl|⟨b,o,rfl⟩:=ha;rfl;show bo (beq (i*sz) 0) (C (⟨b,o,O⟩:Addr)) (C (⟨b,o+i*sz,O⟩:Addr))=C (⟨b,o+i*sz,O⟩:Addr);cases hb:beq (i*sz) 0 with
   |true=>have:i*sz=0:=nN hb;rw[this];rfl
   |false=>rfl
 have S:∀a,(a=O\/∃b o,a=C ⟨b,o,O⟩)->n<=c->0<j-i->bo (beq c i) a (oZ a (mul i sz))=TN a (i*sz):=λa ha hc h0=>by
  cases B:beq c i with
  |true=>have:c=i:=nN B;omega
  |false=>
   show oZ a (mul i sz)=_;obtain rfl|⟨b,o,rfl⟩:=ha;rfl;show bo (beq (i*sz) 0) (C (⟨b,o,O⟩:Addr)) (C (⟨b,o+i*sz,O⟩:Addr))=C (⟨b,o+i*sz,O⟩:Addr);cases hb:beq (i*sz) 0 with
   |true=>have:i*sz=0:=nN hb;rw[this];rfl
   |false=>rfl
 unfold fX;rw[hu];show ∃a' c' s',bo (II a) (ob (size E e) λsz=>bo (ble cl c) (bo (nO (dN (aM tm) lo) (dN (aM tm) hi) O) (pj a c s) (iF e sz a n c (dN (aM tm) lo) (dN (aM tm) hi) O s)) (ob (cQ sz a n c (dN (aM tm) lo) (dN (aM tm) hi) O) λv=>aD v s)) (ob (size E e) λsz=>rm e sz a n c (dN (aM tm) lo) (dN (aM tm) hi) O s)=_/\_;rw[T];obtain⟨rfl,rfl,rfl⟩|⟨b,o,cs,w,rfl,hb,Z,⟨hc,hu⟩|⟨rfl,hu,ho,cg⟩⟩:=hv;refine⟨bo (beq 0 i) O (oZ O (mul i sz)),0-i,s,?_,.inl rfl,m O (.inl rfl) (fG _),λh0=>by omega⟩;show(ob (cQ sz O 0 0 _ _ O) λv=>aD v s)=_;rw[g O (fG _)];rfl;refine⟨bo (beq c i) (C ⟨b,o,O⟩) (oZ (C ⟨b,o,O⟩) (mul i sz)),c-i,s,?_,.inl rfl,m _ (.inr ⟨b,o,rfl⟩) hc,λh0=>⟨S _ (.inr ⟨b,o,rfl⟩) hc h0,.inl ⟨hu,rfl⟩⟩⟩;rw[show ble cl c=U from by rw[<-tK,mm];omega];show(ob (cQ sz (C ⟨b,o,O⟩) n c _ _ O) λv=>aD v s)=_;rw[g _ hc];rfl;rw[dQ hu];show ∃a' c' s',bo (nO (dN (aM tm) lo) (dN (aM tm) hi) O) (pj (C ⟨b,o,O⟩) c s) (iF e sz (C ⟨b,o,O⟩) n c (dN (aM tm) lo) (dN (aM tm) hi) O s)=_/\_;cases hz:nO (dN (aM tm) lo) (dN (aM tm) hi) O with
 |true=>obtain⟨rfl,rfl⟩:=LF h hl hz;exact⟨C ⟨b,o,O⟩,c,s,rfl,.inl rfl,FM.mk (.inr ⟨rfl,.inl rfl⟩),λh0=>absurd h0 aa⟩
 |false=>
  show ∃a' c' s',iF e sz (C ⟨b,o,O⟩) n c (dN (aM tm) lo) (dN (aM tm) hi) O s=_/\_;have F:iF e sz (C ⟨b,o,O⟩) n c (dN (aM tm) lo) (dN (aM tm) hi) O s=bo (beq i 0||ble (Nat.succ i) j) (aD (H (C ⟨b,o+i*sz,O⟩) (j-i) (c+i)) (s.aL b)) (aD (H (C ⟨b,o+i*sz,C (o+1+1)⟩) 0 (c+i)) (s.aL b)):=by unfold iF;show s.row b (λc' W w s=>dq (bo w J (beq sz 1)&&beq W e&&beq o (mul (Nat.sub c cl) sz)&&ble (Nat.add o (mul n sz)) (dJ c')) (bounds n n (dN (aM tm) lo) (dN (aM tm) hi) O λl h _=>_))=_;unfold St.row St.look;rw[Z];simp only[bF];rw[show mul (Nat.sub c cl) sz=o from ho.symm,kY,kY,cR,dQ (show Nat.add o (mul n sz)<=Y cs from cg)];show bounds n n _ _ O _=_;rw[rJ h hl (fG _)];rfl
  rw[F];cases D:(beq i 0||ble (Nat.succ i) j) with
  |true=>exact⟨C ⟨b,o+i*sz,O⟩,c+i,s.aL b,rfl,.inr ⟨b,by simp[ah],rfl⟩,FM.mk (.inl rfl),λ_=>⟨rfl,.inr ⟨hu,rfl⟩⟩⟩
  |false=>
   have h0:j-i=0:=by
    have V:ble (Nat.succ i) j=U:=by
     cases hh:ble (Nat.succ i) j with
     |true=>rw[hh,KK] at D;cases D
     |false=>rfl
    (have h2:¬i+1<=j:=λh=>by rw[dQ (show Nat.succ i<=j from h)] at V;cases V);omega
   rw[h0];exact⟨C ⟨b,o+i*sz,C (o+1+1)⟩,c+i,s.aL b,rfl,.inr ⟨b,by simp[ah],rfl⟩,FM.mk (.inr ⟨rfl,.inr ⟨b,o,_,_,rfl,rfl⟩⟩),λh0=>absurd h0 aa⟩
end
structure Part (e sz:Nat)(a:aP)(n c:Nat)(a':aP)(n' c':Nat):Prop where
 h:0<n'->∀s,tg s a n c e sz->tg s a' n' c' e sz
def Part.refl {e sz:Nat}{a:aP}{n c:Nat}:Part e sz a n c a n c:=⟨λ_ _ h=>h⟩
def Part.of {e sz n c c' i j:Nat}{a a':aP}(g:i<=j/\j<=n)(h:0<j-i->a'=TN a (i*sz)/\((c<cl/\c'=c-i)\/(cl<=c/\c'=c+i))):Part e sz a n c a' (j-i) c':=⟨λh0 s hv=>by
 obtain⟨rfl,hc⟩:=h h0;obtain⟨rfl,rfl,rfl⟩|⟨b,o,cs,w,rfl,hb,D,hr⟩:=hv;omega;refine .inr ⟨b,o+i*sz,cs,w,rfl,hb,D,?_⟩;obtain⟨m,B⟩|⟨m,B,z,F⟩:=hr;rcases hc with⟨_,rfl⟩|⟨z,_⟩;exact .inl ⟨aa,aa⟩;omega;rcases hc with⟨G,_⟩|⟨_,rfl⟩;omega;refine .inr ⟨m,aa,?_,?_⟩;rw[z,show c+i-cl=(c-cl)+i by omega,mO];have:i*sz+(j-i)*sz=j*sz:=by rw[<-mO];congr 1;omega
 have:j*sz<=n*sz:=Ai _ g.2;omega⟩
def aaR {a:aP}{i j:Nat}:TN (TN a i) j=TN a (i+j):=by obtain _|⟨b,o,_|q⟩:=a<;>simp[TN,Nat.add_assoc]
def Sub.trans {α:Type}{sz:Nat}{p0 p q:List α}{a0 a a':aP}{i n:Nat}(h0:0<Y p)(h:Sub sz a0 p0 a p)(F:(p.drop i).take n=q)(hn:i+n<=Y p)(B:FM sz a i n a'):Sub sz a0 p0 a' q:=by
 obtain⟨m,n0,rfl,D,hs⟩:=h.h;have cg:Y ((p0.drop m).take n0)=n0:=by rw[de,fq];omega
 rw[cg] at h0 hn;have ha:a=TN a0 (m*sz):=by obtain h|⟨h,_⟩:=hs.h;exact h;omega
 subst ha;have g:q=(p0.drop (m+i)).take n:=by rw[<-F,List.drop_take,KN,wx];congr 1;omega
 obtain rfl|⟨rfl,rfl|⟨b,o,o',r,z,rfl⟩⟩:=B.h;exact⟨⟨m+i,n,g,aa,⟨.inl (by rw[aaR,mO])⟩⟩⟩;exact⟨⟨m,0,by rw[g];simp,aa,⟨.inl rfl⟩⟩⟩;refine⟨⟨m,0,by rw[g];simp,aa,⟨.inr ⟨rfl,.inr ?_⟩⟩⟩⟩;obtain _|⟨G,N,_|S⟩:=a0;cases z;cases z;exact⟨_,_,_,_,rfl,rfl⟩;cases z
section
variable {o:Operand}{a:aP}{c:Nat}{p q:List α}{lo hi:Option Operand}{u v:Int}
def ga.ah9 (hs:Sub sz a p a' q)(h:It.aU (H a (Y p) c) e sz (ab (sz:=sz) p)∈L):ga Γ L a' (Y q) sz (ab (sz:=sz) q):=
 .sub h (λs hr=>hr.sub hs) (by rw[hs.bC];exact λb hb=>hb)
def CZ (h:i<=j/\j<=Y p):Y ((p.drop i).take (j-i))=j-i:=by rw[de,fq];omega
def Jq [ht:TT E t e sz α enc](hx:Ev l x (H a (Y p) c))(hm:It.aU (H a (Y p) c) e sz (ab (sz:=sz) p)∈L)(hb:ZY l (Y p) lo hi i j)(B:(p.drop i).take (j-i)=q)
  (h:∀m a' c',Sub sz a p a' q->Part e sz a (Y p) c a' (Y q) c'->K (H a' (Y q) c') L m m (λb=>b∈ah a) Z):WO E X Γ l (.slice t x lo hi O) L K:=λtm s hl hi=>by
 have z:∀b∈ah a,qW Γ s b:=λb hb=>hi.may hm (by
  cases a with
  |none=>simp[ah] at hb
  |some a=>simpa[It.bC,nH,ah] using hb)
 have hv:=nV.slv (hi.it _ hm) λb hb=>(z b hb).1;obtain⟨a',c',s',h2,h3,D,F⟩:=BK (ht:=ht) hb hl hv;have hs:Sub sz a p a' q:=⟨⟨i,j-i,B.symm,by have:=hb.h;omega,D⟩⟩;have cg:Y q=j-i:=by rw[<-B];exact CZ hb.h
 have g:Part e sz a (Y p) c a' (Y q) c':=by rw[cg];exact Part.of hb.h F
 refine' zaE;exact eM.pure BD ⟨L,_,Z,hi,iS.id,h _ _ _ hs g⟩;exact eM.pure BD ⟨L,_,Z,hi.aL (z b ZU),cH (z b ZU).1 ZU,by rw[bh];exact h _ _ _ hs g⟩
def aaS [ht:TT E t e sz α enc](hx:Ev l x (H a (Y p) c))(B:0<Y p)(G:Sub sz a0 p0 a p)(g:Part e sz a0 (Y p0) c0 a (Y p) c)(hm:It.aU (H a0 (Y p0) c0) e sz (ab (sz:=sz) p0)∈L)(hb:ZY l (Y p) lo hi i j)(S:(p.drop i).take (j-i)=q)
  (h:∀m a' c',Sub sz a0 p0 a' q->Part e sz a0 (Y p0) c0 a' (Y q) c'->K (H a' (Y q) c') L m m (λb=>b∈ah a0) Z):WO E X Γ l (.slice t x lo hi O) L K:=λT s hl hi=>by
 have N:∀b∈ah a0,qW Γ s b:=λb hb=>hi.may hm (by
  cases a0 with
  |none=>simp[ah] at hb
  |some a=>simpa[It.bC,nH,ah] using hb)
 have hv:=g.h B s (nV.slv (hi.it _ hm) λb hb=>(N b hb).1);obtain⟨a',c',s',V,P,W,h5⟩:=BK (ht:=ht) hb hl hv;have hs:Sub sz a0 p0 a' q:=Sub.trans B G S (by have:=hb.h;omega) W;have cg:Y q=j-i:=by rw[<-S];exact CZ hb.h
 have F:Part e sz a0 (Y p0) c0 a' (Y q) c':=⟨λh0 s hv=>by rw[cg] at h0⊢;exact(Part.of hb.h h5).h h0 s (g.h B s hv)⟩;have D:∀call:gw,IP E call (aM T) s (.slice t x lo ‹Option Operand› O)=C (H a' (Y q) c',s'):=λcall=>by show fX E s t (aM T x) _ _ O=_;rw[hx.eval hl,V,cg]
 rw[G.bC] at P;obtain rfl|⟨b,z,rfl⟩:=P;exact eM.pure D ⟨L,_,Z,hi,iS.id,h _ _ _ hs F⟩;exact eM.pure D ⟨L,_,Z,hi.aL (N b z),cH (N b z).1 z,by rw[bh];exact h _ _ _ hs F⟩
def Rd.may {cs:aV}(h:Rd Γ a n sz cs)(hi:Inv Γ s L):∀b∈ah a,qW Γ s b:=(ga.row (.rd h) hi).2
def tg.inv (h:tg Γ.s0 a n c e sz)(hi:Inv Γ s L)(B:∀b∈ah a,b∉Γ.M):tg s a n c e sz:=by obtain h|⟨b,o,cs,w,rfl,g,m,z⟩:=h;exact .inl h;have:=hi.le;exact .inr ⟨b,o,cs,w,rfl,aa,by rw[hi.fr b g (B b (by simp[ah]))];exact m,z⟩
def Rd.sub (h:Rd Γ a (Y p) sz (ab (sz:=sz) p))(hs:Sub sz a p a' q):Rd Γ a' (Y q) sz (ab (sz:=sz) q):=
 ⟨h.row.sub hs,by rw[hs.bC];exact h.A,by rw[hs.bC];exact h.M⟩
def RU [ht:TT E t e sz α enc](hx:Ev l x (H a (Y p) c))(hm:Rd Γ a (Y p) sz (ab (sz:=sz) p))(hv:tg Γ.s0 a (Y p) c e sz)(hb:ZY l (Y p) lo hi i j)(z:(p.drop i).take (j-i)=q)
  (h:∀m a' c',Rd Γ a' (Y q) sz (ab (sz:=sz) q)->K (H a' (Y q) c') L m m (λb=>b∈ah a) Z):WO E X Γ l (.slice t x lo hi O) L K:=λtm s hl hi=>by
 have g:=hm.may hi;obtain⟨a',c',s',h2,h3,B,_⟩:=BK (ht:=ht) hb hl (hv.inv hi hm.M);have hs:Sub sz a p a' q:=⟨⟨i,j-i,z.symm,by have:=hb.h;omega,B⟩⟩;have cg:Y q=j-i:=by rw[<-z];exact CZ hb.h
 refine' zaE;exact eM.pure BD ⟨L,_,Z,hi,iS.id,h _ _ _ (hm.sub hs)⟩;exact eM.pure BD ⟨L,_,Z,hi.aL (g b ZU),cH (g b ZU).1 ZU,by rw[bh];exact h _ _ _ (hm.sub hs)⟩
def acG (m:Ev l o (.int k u))(g:0<=u/\u<=(n:Int)):ZY l n (C o) O u.toNat n:=⟨.inr ⟨o,k,rfl,nX m g.1⟩,.inl ⟨rfl,rfl⟩,aa⟩
def RV (m:Ev l o (.int k u))(g:0<=u/\u<=(n:Int)):ZY l n O (C o) 0 u.toNat:=⟨.inl ⟨rfl,rfl⟩,.inr ⟨o,k,rfl,nX m g.1⟩,aa⟩
def afJ (z:Ev l o (.int k u))(g:Ev l o' (.int k' v))(m:0<=u/\u<=v/\v<=(n:Int)):ZY l n (C o) (C o') u.toNat v.toNat:=⟨.inr ⟨o,k,rfl,nX z m.1⟩,.inr ⟨o',k',rfl,nX g aa⟩,aa⟩
def Xd:(p.drop i).take (Y p-i)=p.drop i:=za (by rw[fq];omega)
def Pu:(p.drop 0).take (j-0)=p.take j:=by simp
def Xe [ht:TT E t e sz α enc](B:Ev l x (H a (Y p) c))(z:Ev l o (.int k u))(hm:It.aU (H a (Y p) c) e sz (ab (sz:=sz) p)∈L)(g:0<=u/\u<=(Y p:Int))
  (h:∀m a' c',Sub sz a p a' (p.drop u.toNat)->Part e sz a (Y p) c a' (Y (p.drop u.toNat)) c'->K (H a' (Y (p.drop u.toNat)) c') L m m (λb=>b∈ah a) Z):WO E X Γ l (.slice t x (C o) O O) L K:=Jq B hm (acG z g) Xd h
def Xf [ht:TT E t e sz α enc](B:Ev l x (H a (Y p) c))(z:Ev l o (.int k u))(hm:It.aU (H a (Y p) c) e sz (ab (sz:=sz) p)∈L)(g:0<=u/\u<=(Y p:Int))
  (h:∀m a' c',Sub sz a p a' (p.take u.toNat)->Part e sz a (Y p) c a' (Y (p.take u.toNat)) c'->K (H a' (Y (p.take u.toNat)) c') L m m (λb=>b∈ah a) Z):WO E X Γ l (.slice t x O (C o) O) L K:=Jq B hm (RV z g) Pu h
def Xg [ht:TT E t e sz α enc](D:Ev l x (H a (Y p) c))(B:Ev l o (.int k u))(g:Ev l o' (.int k' v))(hm:It.aU (H a (Y p) c) e sz (ab (sz:=sz) p)∈L)(z:0<=u/\u<=v/\v<=(Y p:Int))
  (h:∀m a' c',Sub sz a p a' ((p.drop u.toNat).take (v.toNat-u.toNat))->Part e sz a (Y p) c a' (Y ((p.drop u.toNat).take (v.toNat-u.toNat))) c'->K (H a' (Y ((p.drop u.toNat).take (v.toNat-u.toNat))) c') L m m (λb=>b∈ah a) Z):WO E X Γ l (.slice t x (C o) (C o') O) L K:=Jq D hm (afJ B g z) rfl h
def Xh [ht:TT E t e sz α enc](G:Ev l x (H a (Y p) c))(F:Ev l o (.int k u))(B:Sub sz a0 p0 a p)(g:Part e sz a0 (Y p0) c0 a (Y p) c)(hm:It.aU (H a0 (Y p0) c0) e sz (ab (sz:=sz) p0)∈L)(z:0<Y p)(D:0<=u/\u<=(Y p:Int))
  (h:∀m a' c',Sub sz a0 p0 a' (p.take u.toNat)->Part e sz a0 (Y p0) c0 a' (Y (p.take u.toNat)) c'->K (H a' (Y (p.take u.toNat)) c') L m m (λb=>b∈ah a0) Z):WO E X Γ l (.slice t x O (C o) O) L K:=aaS G z B g hm (RV F D) Pu h
def Xi [ht:TT E t e sz α enc](B:Ev l x (H a (Y p) c))(z:Ev l o (.int k u))(hm:Rd Γ a (Y p) sz (ab (sz:=sz) p))(hv:tg Γ.s0 a (Y p) c e sz)(g:0<=u/\u<=(Y p:Int))
  (h:∀m a' c',Rd Γ a' (Y (p.drop u.toNat)) sz (ab (sz:=sz) (p.drop u.toNat))->K (H a' (Y (p.drop u.toNat)) c') L m m (λb=>b∈ah a) Z):WO E X Γ l (.slice t x (C o) O O) L K:=RU B hm hv (acG z g) Xd h
def Xj [ht:TT E t e sz α enc](B:Ev l x (H a (Y p) c))(z:Ev l o (.int k u))(hm:Rd Γ a (Y p) sz (ab (sz:=sz) p))(hv:tg Γ.s0 a (Y p) c e sz)(g:0<=u/\u<=(Y p:Int))
  (h:∀m a' c',Rd Γ a' (Y (p.take u.toNat)) sz (ab (sz:=sz) (p.take u.toNat))->K (H a' (Y (p.take u.toNat)) c') L m m (λb=>b∈ah a) Z):WO E X Γ l (.slice t x O (C o) O) L K:=RU B hm hv (RV z g) Pu h
end
abbrev acH {α:Type}{sz:Nat}[au α sz](E:hJ)(X:fb)(f:FuncId)(vs:aV)(s:St)(A:List Nat)(e:TypeId)(p:List α):Prop:=eJ E X f vs s [] A λv L=>∃a k a0,∃p0:List α,∃g,v= H a (Y p) k/\L=[.aU (H a0 (Y p0) g) e sz (ab (sz:=sz) p0)]/\Sub sz a0 p0 a p/\Part e sz a0 (Y p0) g a (Y p) k
def TO {α:Type}{sz:Nat}{enc:au α sz}{e:TypeId}{p:List α}(D:iu l xs vs)(h:∀s,acH E X f vs s [] e p)(k:∀m g a c a0 (p0:List α) c0,Sub sz a0 p0 a p->Part e sz a0 (Y p0) c0 a (Y p) c->gk L m->m<=g->K (H a (Y p) c) (.aU (H a0 (Y p0) c0) e sz (ab (sz:=sz) p0)::L) m g (iI [] [] m g) (iJ [] m g)):WC E X Γ l f xs ts L K:=
 cI (Lm:=[]) (R:=L) D (.refl _) (λs hi b hb=>by cases hb) (λs hi=>h s) (by rintro v L' m g z hm ⟨a,c,a0,p0,c0,rfl,rfl,hs,B⟩;exact k m g a c a0 p0 c0 hs B z hm)
def aia (a:aP):TN a 0=a:=by obtain _|⟨b,o,_|q⟩:=a<;>rfl
def Sub.all {α:Type}{sz:Nat}{a:aP}{p:List α}:Sub sz a p a p:=⟨⟨0,Y p,aq,aa,⟨.inl (by rw[Am,aia])⟩⟩⟩
def aib {α:Type}{sz e:Nat}{enc:au α sz}{p q p0:List α}{a a0:aP}{k g:Nat}{rs:List ResultVar}{x:Ex}(B:x= .normal\/x= .ret)(hr:AE E l L rs [H a (Y q) k])(hs:Sub sz a0 p0 a q)(m:Part e sz a0 (Y p0) g a (Y q) k)(z:cb [.aU (H a0 (Y p0) g) e sz (ab (sz:=sz) p0)] L)(h:p=q):
  zt E rs (λv L=>∃a k a0,∃p0:List α,∃g,v= H a (Y p) k/\L=[.aU (H a0 (Y p0) g) e sz (ab (sz:=sz) p0)]/\Sub sz a0 p0 a p/\Part e sz a0 (Y p0) g a (Y p) k) x l L:=by subst h;exact⟨B,_,_,hr,z,a,k,a0,p0,g,rfl,rfl,hs,m⟩
def dG {a:aP}{n sz:Nat}{cs:aV}(B:iu l xs vs)(h:∀s,bJ s a n sz cs->jA E X f vs s (ah a) r)(z:ga Γ L a n sz cs)(k:∀m g,gk L m->m<=g->K r L m g (iI (ah a) [] m g) (iJ [] m g)):WC E X Γ l f xs ts L K:=TH B z h k
def Pv {a:aP}{n g:Nat}{cs:aV}{α:Type}{sz:Nat}{enc:au α sz}{e:TypeId}{p:List α}(D:iu l xs vs)(h:∀s,bJ s a n g cs->eD E X f vs s (ah a) e p)(B:ga Γ L a n g cs)(k:∀m z a' c,gk L m->m<=z->K (H a' (Y p) c) (.aU (H a' (Y p) c) e sz (ab (sz:=sz) p)::L) m z (iI (ah a) [] m z) (iJ [] m z)):WC E X Γ l f xs ts L K:=TI D B h k
section
variable {o:Operand}{a:aP}{c:Nat}{p q:List α}
def Xk [ht:TT E t e sz α enc]{tm:Tm}(h:ZY l n O (C o) 0 j)(hl:mS l tm)(hv:tg s a n c e sz):
  ∃s',fX E s t (H a n c) (dN (aM tm) O) (dN (aM tm) (C o)) O=C (H a j c,s')/\(s'=s\/∃b∈ah a,s'=s.aL b):=by
 obtain⟨z,hr,_⟩:=ht.h;obtain⟨hu,ii,z1,m,B,P,S,T,V,W⟩:=hr.h;have F:size E e=C sz:=by unfold size;rw[m];simp[B]
 have Z:=h.h;have D:∀a:aP,(a=O\/∃b o,a=C ⟨b,o,O⟩)->oZ a (mul 0 sz)=a:=λa ha=>by rw[show mul 0 sz=0 from Am _];obtain rfl|⟨b,o,rfl⟩:=ha<;>rfl
 have g:∀a:aP,(a=O\/∃b o,a=C ⟨b,o,O⟩)->n<=c->cQ sz a n c (dN (aM tm) O) (dN (aM tm) (C o)) O=C (H a j c):=λa ha hc=>by unfold cQ;rw[rJ h hl hc];show C (Value.slice (bo (beq c 0) a (oZ a (mul 0 sz))) (j-0) (c-0))=_;rw[D a ha];cases beq c 0<;>rfl
 unfold fX;rw[hu];show ∃s',bo (II a) (ob (size E e) λsz=>bo (ble cl c) (bo (nO (dN (aM tm) O) (dN (aM tm) (C o)) O) (pj a c s) (iF e sz a n c (dN (aM tm) O) (dN (aM tm) (C o)) O s)) (ob (cQ sz a n c (dN (aM tm) O) (dN (aM tm) (C o)) O) λv=>aD v s)) (ob (size E e) λsz=>rm e sz a n c (dN (aM tm) O) (dN (aM tm) (C o)) O s)=_/\_;rw[F];obtain⟨rfl,rfl,rfl⟩|⟨b,o',cs,w,rfl,hb,N,⟨hc,hu⟩|⟨rfl,hu,ho,cg⟩⟩:=hv;refine⟨s,?_,.inl rfl⟩;show(ob (cQ sz O 0 0 _ _ O) λv=>aD v s)=_;rw[g O (.inl rfl) (fG _)];rfl;refine⟨s,?_,.inl rfl⟩;rw[show ble cl c=U from by rw[<-tK,mm];omega];show(ob (cQ sz (C ⟨b,o',O⟩) n c _ _ O) λv=>aD v s)=_;rw[g _ (.inr ⟨b,o',rfl⟩) hc];rfl;rw[dQ hu];show ∃s',bo (nO (dN (aM tm) O) (dN (aM tm) (C o)) O) (pj (C ⟨b,o',O⟩) c s) (iF e sz (C ⟨b,o',O⟩) n c (dN (aM tm) O) (dN (aM tm) (C o)) O s)=_/\_;cases hz:nO (dN (aM tm) O) (dN (aM tm) (C o)) O with
 |true=>obtain⟨_,rfl⟩:=LF h hl hz;exact⟨s,rfl,.inl rfl⟩
 |false=>refine⟨s.aL b,?_,.inr ⟨b,by simp[ah],rfl⟩⟩;show iF e sz (C ⟨b,o',O⟩) n c (dN (aM tm) O) (dN (aM tm) (C o)) O s=_;unfold iF;show s.row b (λc' G w s=>dq (bo w J (beq sz 1)&&beq G e&&beq o' (mul (Nat.sub c cl) sz)&&ble (Nat.add o' (mul n sz)) (dJ c')) (bounds n n (dN (aM tm) O) (dN (aM tm) (C o)) O λl h _=>_))=_;unfold St.row St.look;rw[N];simp only[bF];rw[show mul (Nat.sub c cl) sz=o' from ho.symm,kY,kY,cR,dQ (show Nat.add o' (mul n sz)<=Y cs from cg)];show bounds n n _ _ O _=_;rw[rJ h hl (fG _)];show aD (Value.slice (C ⟨b,o'+0*sz,O⟩) (j-0) (c+0)) (s.aL b)=_;rw[Am];rfl
def LG:∀p q:List α,ab (sz:=sz) (p++q)=ab (sz:=sz) p++ab (sz:=sz) q
 |[],q=>rfl
 |x::p,q=>by rw[jk,eU,eU,LG p q,iD]
end
variable {κ ν:Type}{vf:ν->Value}{fv:Operand}{z:Value}{g:FuncId}{fi ca ws:aV}{ys:List Operand}
class He (E:hJ)(t:TypeId)(z:outParam Value):Prop where
 h:∃kt e,iE E t=some (.map kt e)/\iE E kt=some .string/\zero E e=some z
class RW (E:hJ)(t:TypeId)(z:outParam Value):Prop where
 h:∃kt e k,iE E t=some (.map kt e)/\iE E kt=some (.int k)/\zero E e=some z
class Pw (E:hJ)(t:TypeId):Prop where
 h:∃u,iE E t=some (.pointer u)
section
variable [DecidableEq κ]
def cO:List (κ×ν)->κ->Option ν
 |[],_=>O
 |p::m,k=>if k=p.1 then C p.2 else cO m k
def ig:List (κ×ν)->κ->ν->List (κ×ν)
 |[],k,v=>[(k,v)]
 |p::m,k,v=>if k=p.1 then(k,v)::m else p::ig m k v
def lq (kf:κ->Value)(vf:ν->Value)(m:List (κ×ν)):List (Value×Value):=m.map λp=>(kf p.1,vf p.2)
def lu:∀(m:List (κ×ν))(k k':κ)(v:ν),cO (ig m k v) k'=if k'=k then C v else cO m k'
 |[],k,k',v=>by unfold ig cO;split<;>rfl
 |p::m,k,k',v=>by unfold ig;by_cases h:k=p.1;rw[ai h];unfold cO;by_cases B:k'=k;rw[ai B,ai B];rw[af B,af B,af (by rwa[<-h])];rw[af h];unfold cO;by_cases D:k'=p.1;rw[ai D,ai D,af (λe=>h (e.symm.trans D))];rw[af D,af D,lu m k k' v]
variable {kf:κ->Value}
def zv (B:∀a b,ku (kf a) (kf b)=C (decide (a=b)))(k:κ):∀m:List (κ×ν),tV (kf k) (lq kf vf m)=C ((cO m k).map vf)
 |[]=>rfl
 |p::m=>by show ob (ku (kf k) (kf p.1)) (λb=>bo b (C (C (vf p.2))) (tV (kf k) (lq kf vf m)))=_;rw[B,zv B k m];show _=C ((if k=p.1 then C p.2 else cO m k).map vf);by_cases h:k=p.1;rw[ai h,gZ h];rfl;rw[af h,kX h];rfl
def LH (D:∀a b,ku (kf a) (kf b)=C (decide (a=b)))(k:κ)(v:ν):∀m:List (κ×ν),(cO m k).isSome=J->OV (kf k) (vf v) (lq kf vf m)=C (lq kf vf (ig m k v))
 |[],h=>by cases h
 |p::m,h=>by show ob (ku (kf k) (kf p.1)) (λb=>bo b (C ((kf k,vf v)::lq kf vf m)) (ob (OV (kf k) (vf v) (lq kf vf m)) λr=>C ((kf p.1,vf p.2)::r)))=_;rw[D];unfold cO at h;unfold ig;by_cases B:k=p.1;rw[ai B];simp only[B,decide_true];rfl;rw[af B] at h;rw[af B,LH D k v m h];simp only[B,decide_false];rfl
def LI (k:κ)(v:ν):∀m:List (κ×ν),cO m k=O->lq kf vf m++[(kf k,vf v)]=lq kf vf (ig m k v)
 |[],h=>rfl
 |p::m,h=>by unfold cO at h;unfold ig;by_cases B:k=p.1;rw[ai B] at h;cases h;rw[af B] at h;rw[af B];show(kf p.1,vf p.2)::(lq kf vf m++[(kf k,vf v)])=_;rw[LI k v m h];rfl
def LJ (a b:List UInt8):ku (sv a) (sv b)=C (decide (a=b)):=by show C (gP a b)=_;rw[fk];by_cases h:a=b<;>simp[h]
def LK (a b:Int):ku (iv a) (iv b)=C (decide (a=b)):=by show dq (pA .i64 .i64) (C (xP a b))=_;rw[kl];by_cases h:a=b;subst h;simp;rfl;rw[show(a== b)=U by simpa using h,kX h];rfl
end
section
variable {o:Operand}{b:Nat}[DecidableEq κ]{kf:κ->Value}{m:List (κ×ν)}{k:κ}{v d:ν}
def pP (h:∀b,gk L b->K (.map (C b)) (.iC b (.map [])::L) b (b+1) (λi=>i=b) (λi=>i=b)):WO E X Γ l (.makeMap t O) L K:=
 sI (mk:=λb=>.map (C b)) (ob:=λ_=>.map []) (it:=λb=>.iC b (.map [])) (λB s call hl _=>rfl) (λs b h=>h) (λb=>rfl) h
def C0 {kt e:TypeId}{kd:TypeDesc}(h1:iE E t=C (.map kt e))(h2:iE E kt=C kd)(h:wA E kt kd (kf k)=J)(B:zero E e=C z)(F:∀a b,ku (kf a) (kf b)=C (decide (a=b)))(N:vf d=z){o:fa}(G:o= .map (lq kf vf m))(D:s.heap.get b=C o)(ok:Bool):
  u7 E s t (.map (C b)) (kf k) ok=C (bo ok (.tuple ⟨[vf ((cO m k).getD d),M (cO m k).isSome]⟩) (vf ((cO m k).getD d)),s.aL b):=by
 subst G;unfold u7;rw[h1];show ob (iE E kt) _=_;rw[h2];show dq (wA E kt kd (kf k)) _=_;rw[h,dY,B];show ob (s.look b) _=_;unfold St.look;rw[D];show ob (tV (kf k) (lq kf vf m)) _=_;rw[zv F];cases cO m k with
 |none=>rw[<-N];rfl
 |some v=>rfl
def C1 {kt e:TypeId}{kd:TypeDesc}(h1:iE E t=C (.map kt e))(h2:iE E kt=C kd)(F:wA E kt kd (kf k)=J)(G:zero E e=C z)(N:∀a b,ku (kf a) (kf b)=C (decide (a=b)))(T:vf d=z)(P:Ev l x (.map (C b)))(S:Ev l y (kf k))(hm:It.iC b (.map (lq kf vf m))∈L)(ok:Bool)
  (h:∀n,K (bo ok (.tuple ⟨[vf ((cO m k).getD d),M (cO m k).isSome]⟩) (vf ((cO m k).getD d))) L n n (λi=>i=b) Z):WO E X Γ l (.lookup t x y ok) L K:=λD s hl hi=>by have B:=hi.may hm (b:=b) (by simp[It.bC]);refine eM.pure (v:=bo ok (.tuple ⟨[vf ((cO m k).getD d),M (cO m k).isSome]⟩) (vf ((cO m k).getD d))) (s':=s.aL b) (λcall=>?_) ⟨L,(λi=>i=b),Z,hi.aL B,cH B.1 rfl,by rw[bh];exact h _⟩;show u7 E s t (aM D x) (aM D y) ok=_;rw[P.eval hl,S.eval hl];exact C0 h1 h2 F G N T rfl (hi.it _ hm) ok
def BL {kt e:TypeId}{kd:TypeDesc}(h1:iE E t=C (.map kt e))(h2:iE E kt=C kd)(G:wA E kt kd (kf k)=J)(F:∀a b,ku (kf a) (kf b)=C (decide (a=b)))(V:Ev l x (.map (C b)))(W:Ev l y (kf k))(S:Ev l o (vf v))(hu:CT (.iC b (.map (lq kf vf m))) (.iC b (.map (lq kf vf (ig m k v)))) L L')
  (h:∀n,K (.tuple ⟨[]⟩) L' n n (λi=>i=b) (λi=>i=b)):WO E X Γ l (.mapUpdate t x y o) L K:=λD s hl hi=>by
 obtain⟨R,Z,p2⟩:=hu.bX;have hm:It.iC b (.map (lq kf vf m))∈L:=Z.mem_iff.2 aq;have B:=hi.may hm (b:=b) (by simp[It.bC]);refine eM.pure (v:=.tuple ⟨[]⟩) (s':=s.put b (C (.map (lq kf vf (ig m k v))))) (λcall=>?_) ⟨L',(λi=>i=b),(λi=>i=b),hi.put hu rfl rfl (by show T.get (St.heap _) b=_;simp),jx B.1 rfl rfl,by rw[dn];exact h _⟩;show sq E s t (aM D x) (aM D y) (aM D o)=_;rw[V.eval hl,W.eval hl,S.eval hl];unfold sq;rw[h1];show ob (iE E kt) _=_;rw[h2];show dq (wA E kt kd (kf k)) _=_;rw[G,dY];show ob (s.look b) _=_;have N:s.heap.get b=C (.map (lq kf vf m)):=hi.it _ hm;unfold St.look;rw[N];show ob (tV (kf k) (lq kf vf m)) _=_;rw[zv F];cases ha:cO m k with
 |none=>show aD (Value.tuple ⟨[]⟩) (s.put b (C (.map (lq kf vf m++[(kf k,vf v)]))))=_;rw[LI k v m ha];rfl
 |some w=>show ob (OV (kf k) (vf v) (lq kf vf m)) _=_;rw[LH F k v m (by rw[ha];rfl)];rfl
omit [DecidableEq κ] in
def TP {kt e:TypeId}(h1:iE E t=C (.map kt e))(F:Ev l x (.map (C b)))(hm:It.iC b (.map (lq kf vf m))∈L)
  (h:∀n,K (iv (Y m:Int)) L n n (λi=>i=b) Z):WO E X Γ l (.call ⟨.builtin .len,⟨[x]⟩,⟨[t]⟩⟩) L K:=λG s hl hi=>by have B:=hi.may hm (b:=b) (by simp[It.bC]);refine eM.pure (v:=iv (Y m:Int)) (s':=s.aL b) (λcall=>?_) ⟨L,(λi=>i=b),Z,hi.aL B,cH B.1 rfl,by rw[bh];exact h _⟩;show tW E s .len [t] (aM G x)=_;rw[F.eval hl];show Bw E s t b=_;have D:s.heap.get b=C (.map (lq kf vf m)):=hi.it _ hm;unfold Bw;rw[h1];show ob (s.look b) _=_;unfold St.look;rw[D];show aD (Value.int .i64 (.ofNat (dJ (lq kf vf m)))) (s.aL b)=_;rw[cR];unfold lq;rw[fH];rfl
end
section
variable {o:Operand}{b:Nat}
abbrev VT (m:List (Int×Int)):fa:=.map (lq iv iv m)
abbrev mSI (m:List (List UInt8×Int)):fa:=.map (lq sv iv m)
abbrev mSB (m:List (List UInt8×Bool)):fa:=.map (lq sv Value.bool m)
def TQ [ht:RW E t (iv 0)]{m:List (Int×Int)}{k:Int}(G:Ev l x (.map (C b)))(N:Ev l y (iv k))(hm:It.iC b (VT m)∈L)(h:∀n,K (iv ((cO m k).getD 0)) L n n (λi=>i=b) Z):WO E X Γ l (.lookup t x y U) L K:=by obtain⟨kt,e,kd,B,D,F⟩:=ht.h;exact C1 B D rfl F LK rfl G N hm U h
def TR [ht:He E t (iv 0)]{m:List (List UInt8×Int)}{k:List UInt8}(G:Ev l x (.map (C b)))(N:Ev l y (sv k))(hm:It.iC b (mSI m)∈L)(h:∀n,K (iv ((cO m k).getD 0)) L n n (λi=>i=b) Z):WO E X Γ l (.lookup t x y U) L K:=by obtain⟨kt,e,B,D,F⟩:=ht.h;exact C1 B D rfl F LJ rfl G N hm U h
def TS [ht:He E t (M U)]{m:List (List UInt8×Bool)}{k:List UInt8}(G:Ev l x (.map (C b)))(N:Ev l y (sv k))(hm:It.iC b (mSB m)∈L)(h:∀n,K (M ((cO m k).getD U)) L n n (λi=>i=b) Z):WO E X Γ l (.lookup t x y U) L K:=by obtain⟨kt,e,B,D,F⟩:=ht.h;exact C1 B D rfl F LJ rfl G N hm U h
def Xl {z:Value}[ht:RW E t z]{m:List (Int×Int)}{k v:Int}(G:Ev l x (.map (C b)))(N:Ev l y (iv k))(F:Ev l o (iv v))(hu:CT (.iC b (VT m)) (.iC b (VT (ig m k v))) L L')(h:∀n,K (.tuple ⟨[]⟩) L' n n (λi=>i=b) (λi=>i=b)):WO E X Γ l (.mapUpdate t x y o) L K:=by obtain⟨kt,e,kd,B,D,P⟩:=ht.h;exact BL B D rfl LK G N F hu h
def Xm {z:Value}[ht:He E t z]{m:List (List UInt8×Int)}{k:List UInt8}{v:Int}(G:Ev l x (.map (C b)))(N:Ev l y (sv k))(F:Ev l o (iv v))(hu:CT (.iC b (mSI m)) (.iC b (mSI (ig m k v))) L L')(h:∀n,K (.tuple ⟨[]⟩) L' n n (λi=>i=b) (λi=>i=b)):WO E X Γ l (.mapUpdate t x y o) L K:=by obtain⟨kt,e,B,D,P⟩:=ht.h;exact BL B D rfl LJ G N F hu h
def Xn {z:Value}[ht:He E t z]{m:List (List UInt8×Bool)}{k:List UInt8}{v:Bool}(G:Ev l x (.map (C b)))(N:Ev l y (sv k))(F:Ev l o (M v))(hu:CT (.iC b (mSB m)) (.iC b (mSB (ig m k v))) L L')(h:∀n,K (.tuple ⟨[]⟩) L' n n (λi=>i=b) (λi=>i=b)):WO E X Γ l (.mapUpdate t x y o) L K:=by obtain⟨kt,e,B,D,P⟩:=ht.h;exact BL B D rfl LJ G N F hu h
def Xo {z:Value}[ht:RW E t z]{m:List (Int×Int)}(D:Ev l x (.map (C b)))(hm:It.iC b (VT m)∈L)(h:∀n,K (iv (Y m:Int)) L n n (λi=>i=b) Z):WO E X Γ l (.call ⟨.builtin .len,⟨[x]⟩,⟨[t]⟩⟩) L K:=by obtain⟨kt,e,kd,B,F,G⟩:=ht.h;exact TP B D hm h
def vl:∀vs:aV,iu l (vs.map Operand.const) vs
 |[]=>.nil
 |v::vs=>.cons .const (vl vs)
def Jr (hf:Ev l fv (.func (.func g) ⟨fi⟩ ⟨ca⟩))(D:iu l xs vs)(k:WO E X Γ l (.call ⟨.value (.func g),⟨(fi++(vs++ca)).map Operand.const⟩,ts⟩) L K):WO E X Γ l (.call ⟨.value fv,⟨xs⟩,ts⟩) L K:=λh s hl hi=>by obtain⟨N,v,s',B,hr⟩:=k h s hl hi;refine⟨N,v,s',B,λn hn lf m=>(?_:_=_).trans (hr n hn lf m)⟩;generalize qv E X lf [] n=call;show zd call (aM h fv) (Bi (aM h) xs) s=zd call (.func (.func g) #[] #[]) (Bi (aM h) ((fi++(vs++ca)).map Operand.const)) s;rw[hf.eval hl,u9,u9,D.eval hl,(vl _).eval hl];show call g _ s=call g _ s;simp
def LL {fn:Fn}(m:iu l xs vs)(B:iu l ys ws)(k:∀n,K (.func fn ⟨vs⟩ ⟨ws⟩) L n n Z Z):WO E X Γ l (.makeFunc fn ⟨xs⟩ ⟨ys⟩) L K:=jw (λh s call hl=>by show aD (Value.func fn ⟨Bi (aM h) xs⟩ ⟨Bi (aM h) ys⟩) s=_;rw[u9,u9,m.eval hl,B.eval hl];rfl) k
def adV {f:FuncId}{a b:Array Value}(h:Ev l x (.func (.func f) a b))(k:∀n,K (.func (.func f) a b) L n n Z Z):WO E X Γ l (.nilCheck x) L K:=jw (λm s call hl=>by show K2 E (aM m x) s=_;rw[h.eval hl];rfl) k
def Hf [ht:Pw E t]{t2:TypeId}{p:aP}(B:Ev l x (.pointer p))(D:Ev l y (.pointer O))(k:∀n,K (M p.isNone) L n n Z Z):WO E X Γ l (.binOp .eql t x y t2) L K:=fZ B D (λF=>by obtain⟨u,m⟩:=ht.h;show ob (iE E t) (λd=>xQ .eql (V9 E d (.pointer p) (.pointer O)))=_;rw[m];cases p<;>rfl) k
def yi [ht:Pw E t]{t2:TypeId}{p:aP}(B:Ev l x (.pointer p))(D:Ev l y (.pointer O))(k:∀n,K (M p.isSome) L n n Z Z):WO E X Γ l (.binOp .neq t x y t2) L K:=fZ B D (λF=>by obtain⟨u,m⟩:=ht.h;show ob (iE E t) (λd=>xQ .neq (V9 E d (.pointer p) (.pointer O)))=_;rw[m];cases p<;>rfl) k
end
section
variable {o:Operand}{b p:Nat}{z:List UInt8}
def TU [ht:yf E t](m:Ev l x (sv z))(h:∀b,gk L b->K (.pointer (C ⟨b,0,O⟩)) (.iC b (.ji z 0)::L) b (b+1) (λi=>i=b) (λi=>i=b)):WO E X Γ l (.range t x) L K:=
 sI (mk:=λb=>.pointer (C ⟨b,0,O⟩)) (ob:=λ_=>.ji z 0) (it:=λb=>.iC b (.ji z 0)) (λB s call hl _=>by show IJ E s t (aM B x)=_;rw[m.eval hl];unfold IJ;rw[ht.h];rfl) (λs b h=>h) (λb=>rfl) h
def TV (F:Ev l x (.pointer (C ⟨b,0,O⟩)))(hu:CT (.iC b (.ji z p)) (.iC b (.ji z (p+1))) L L')(B:p<Y z)(hc:(z.getD p 0).toNat<128)(h:∀n,K (.tuple ⟨[M J,iv (p:Int),.int .i32 ((z.getD p 0).toNat:Int)]⟩) L' n n (λi=>i=b) (λi=>i=b)):WO E X Γ l (.next x J) L K:=λN s hl hi=>by
 obtain⟨R,G,S⟩:=hu.bX;have hm:It.iC b (.ji z p)∈L:=G.mem_iff.2 aq;have m:=hi.may hm (b:=b) (by simp[It.bC]);have D:s.heap.get b=C (.ji z p):=hi.it _ hm;have hn:jH z p=C (z.getD p 0):=by rw[ec,c8 B,eX,c8 B];rfl
 refine eM.pure (v:=.tuple ⟨[M J,iv (p:Int),.int .i32 ((z.getD p 0).toNat:Int)]⟩) (s':=s.put b (C (.ji z (p+1)))) (λcall=>?_) ⟨L',(λi=>i=b),(λi=>i=b),hi.put hu rfl rfl (by show T.get (St.heap _) b=_;simp),jx m.1 rfl rfl,by rw[dn];exact h _⟩;show GM s (aM N x) J=_;rw[F.eval hl];show ob (s.look b) _=_;unfold St.look;rw[D];show dq J (Av s b z p)=_;rw[dY];unfold Av;rw[hn];show bo (ble (Nat.succ (z.getD p 0).toNat) 128) _ _=_;rw[dQ (show Nat.succ (z.getD p 0).toNat<=128 by omega)];rfl
def Px (z:List UInt8)(p:Nat)(h:128<=(z.getD p 0).toNat)(m:p<Y z):128<=(Utf8.decode ⟨⟨z⟩⟩ p).1:=by
 unfold Utf8.decode;have h0:((⟨⟨z⟩⟩:ByteArray).get! (p+0)).toNat=(z.getD p 0).toNat:=by
  have:(⟨⟨z⟩⟩:ByteArray).get! (p+0)=z.getD p 0:=by show(⟨z⟩:Array UInt8)[p+0]! =z.getD p 0;rw[wu];simp[getElem!_def,c8 m]
  rw[this]
 simp only[h0];rw[af aa];repeat' split
 all_goals simp only[ep,gv,ge_iff_le,Utf8.runeError] at *
 all_goals omega
def TW (G:Ev l x (.pointer (C ⟨b,0,O⟩)))(hr:Bm (.iC b (.ji z p)) L R)(D:p<Y z)(hc:128<=(z.getD p 0).toNat)(h:∀n (r:Nat),128<=r->K (.tuple ⟨[M J,iv (p:Int),.int .i32 (r:Int)]⟩) R n n (λi=>i=b) (λi=>i=b)):WO E X Γ l (.next x J) L K:=λN s hl hi=>by
 have m:=hi.bX hr.bX;have B:=m.may ed (b:=b) (by simp[It.bC]);have F:s.heap.get b=C (.ji z p):=m.it _ ed;have hn:jH z p=C (z.getD p 0):=by rw[ec,c8 D,eX,c8 D];rfl
 refine eM.pure (v:=.tuple ⟨[M J,iv (p:Int),.int .i32 ((Utf8.decode ⟨⟨z⟩⟩ p).1:Int)]⟩) (s':=s.put b (C (.ji z (p+(Utf8.decode ⟨⟨z⟩⟩ p).2)))) (λcall=>?_) ⟨R,(λi=>i=b),(λi=>i=b),m.kill rfl,jx B.1 rfl rfl,by rw[dn];exact h _ _ (Px z p hc D)⟩;show GM s (aM N x) J=_;rw[G.eval hl];show ob (s.look b) _=_;unfold St.look;rw[F];show dq J (Av s b z p)=_;rw[dY];unfold Av;rw[hn];show bo (ble (Nat.succ (z.getD p 0).toNat) 128) _ _=_;rw[show ble (Nat.succ (z.getD p 0).toNat) 128=U by rw[<-tK,mm];omega];rfl
def TX (F:Ev l x (.pointer (C ⟨b,0,O⟩)))(hm:It.iC b (.ji z p)∈L)(D:Y z<=p)(h:∀n,K (.tuple ⟨[M U]⟩) L n n (λi=>i=b) Z):WO E X Γ l (.next x J) L K:=λG s hl hi=>by have m:=hi.may hm (b:=b) (by simp[It.bC]);have B:s.heap.get b=C (.ji z p):=hi.it _ hm;refine eM.pure (v:=.tuple ⟨[M U]⟩) (s':=s.aL b) (λcall=>?_) ⟨L,(λi=>i=b),Z,hi.aL m,cH m.1 rfl,by rw[bh];exact h _⟩;show GM s (aM G x) J=_;rw[F.eval hl];show ob (s.look b) _=_;unfold St.look;rw[B];show dq J (Av s b z p)=_;rw[dY];unfold Av;rw[show jH z p=O by rw[ec,mQ D]];rfl
end
section
variable {a:aP}{p:List α}
def Py [ht:Pw E t](B:Ev l x (fY a i sz j))(D:Ev l y (.pointer O))(m:ga Γ L a n sz (ab (sz:=sz) p))(hi:i<Y p)(k:∀n,K (M U) L n n Z Z):WO E X Γ l (.binOp .eql t x y t2) L K:=λF s hl h=>by obtain⟨b,o,_,_,_,rfl,_⟩:=(m.row h).1.bD hi;exact Hf (p:=C ⟨b,o+(i*sz+j),O⟩) (ht:=ht) B D k F s hl h
def Pz (B:Ev l x (fY a i sz j))(m:ga Γ L a n sz (ab (sz:=sz) p))(hi:i<Y p)(k:∀n,K (fY a i sz j) L n n Z Z):WO E X Γ l (.nilCheck x) L K:=λD s hl h=>by obtain⟨b,o,_,_,_,rfl,_⟩:=(m.row h).1.bD hi;refine eM.pure (v:=fY (C ⟨b,o,O⟩) i sz j) (s':=s) (λcall=>?_) ⟨L,Z,Z,h,iS.id,k _⟩;show K2 E (aM D x) s=_;rw[B.eval hl];rfl
end
def aaT (m:Ev l x (sv p))(B:Ev l y (sv q))(h:∀n,K (M (!(Op.bytesLess q p))) L n n Z Z):WO E X Γ l (.binOp .leq t x y t2) L K:=fZ m B (λD=>by
 show C (Value.bool (bo (oo p q) J (gP p q)))=_;rw[sy,fk,<-pO p q];have:∀a b:Bool,bo a J b=(a||b):=by intro a b;cases a<;>rfl
 rw[this,Bool.not_not];congr 3;rw[o6];simp) h

variable {c':Nat}
section
variable {o:Operand}{a:aP}{c:Nat}{p q:List α}
def TY {cs:aV}[ht:TT E t e sz α enc](W:Ev l x (H a n c))(V:Ev l o (.int k (i:Int)))(hm:It.aU (H a n c) e sz cs∈L)(hj:i<=n)
  (h:∀m a' c',FM sz a i (n-i) a'->K (H a' (n-i) c') L m m (λb=>b∈ah a) Z):WO E X Γ l (.slice t x (C o) O O) L K:=λN s hl hi=>by
 have F:∀b∈ah a,qW Γ s b:=λb hb=>hi.may hm (by
  cases a with
  |none=>simp[ah] at hb
  |some a=>simpa[It.bC,nH,ah] using hb)
 have hv:=nV.slv (hi.it _ hm) λb hb=>(F b hb).1;obtain⟨a',c',s',S,T,G,h5⟩:=BK (ht:=ht) (i:=i) (j:=n) (lo:=C o) (hi:=O) ⟨.inr ⟨o,k,rfl,V⟩,.inl ⟨rfl,rfl⟩,aa⟩ hl hv;have D:∀call:gw,IP E call (aM N) s (.slice t x (C o) O O)=C (H a' (n-i) c',s'):=λcall=>by show fX E s t (aM N x) _ _ O=_;rw[W.eval hl,S]
 obtain rfl|⟨b,B,rfl⟩:=T;exact eM.pure D ⟨L,_,Z,hi,iS.id,h _ _ _ G⟩;exact eM.pure D ⟨L,_,Z,hi.aL (F b B),cH (F b B).1 B,by rw[bh];exact h _ _ _ G⟩
def TZ {cs:aV}[ht:TT E t e sz α enc](V:Ev l x (H a n c))(T:Ev l o (.int k (i:Int)))(hm:It.aU (H a n c) e sz cs∈L)(W:i<=n)
  (h:∀m,K (H a i c) L m m (λb=>b∈ah a) Z):WO E X Γ l (.slice t x O (C o) O) L K:=λG s hl hi=>by
 have F:∀b∈ah a,qW Γ s b:=λb hb=>hi.may hm (by
  cases a with
  |none=>simp[ah] at hb
  |some a=>simpa[It.bC,nH,ah] using hb)
 have hv:=nV.slv (hi.it _ hm) λb hb=>(F b hb).1;obtain⟨s',N,S⟩:=Xk (ht:=ht) (j:=i) ⟨.inl ⟨rfl,rfl⟩,.inr ⟨o,k,rfl,T⟩,aa⟩ hl hv;have D:∀call:gw,IP E call (aM G) s (.slice t x O (C o) O)=C (H a i c,s'):=λcall=>by show fX E s t (aM G x) _ _ O=_;rwa[V.eval hl]
 obtain rfl|⟨b,B,rfl⟩:=S;exact eM.pure D ⟨L,_,Z,hi,iS.id,h _⟩;exact eM.pure D ⟨L,_,Z,hi.aL (F b B),cH (F b B).1 B,by rw[bh];exact h _⟩
end
class Xp (E:hJ)(t:TypeId)(i:Nat)(off:outParam Nat):Prop where
 h:∃fs f d,iE E t=some (.struct ⟨fs⟩)/\jH fs i=some f/\iE E f.type=some d/\wz d=false/\f.offset=off
noncomputable def afK (E:hJ)(t:TypeId)(i:Nat):Option Nat:=ob (iE E t) λd=>match d with
 |.struct ⟨fs⟩=>ob (jH fs i) λf=>ob (iE E f.type) λd=>dq (!wz d) (C f.offset)
 |_=>O
theorem aaU {E:hJ}{t:TypeId}{i off:Nat}(h:afK E t i=C off):Xp E t i off:=by obtain⟨d,B,m⟩:=aG h;split at m;rename_i fs;obtain⟨f,D,F⟩:=aG m;obtain⟨d,G,N⟩:=aG F;obtain⟨P,S⟩:=bw N;exact⟨fs,f,d,B,D,G,by simpa using P,dM S⟩;cases m
def Xq {x:It}{L:cq}(h:x∈L):CT x x L L:=by
 induction L with
 |nil=>cases h
 |cons y L ih=>obtain rfl|h:=cA.1 h;exact .here;exact .there (ih h)
section
variable {a:aP}
def T0 {i off:Nat}{cs:aV}{v:Value}[ht:Xp E t i off](N:Ev l x (.agg ⟨cs⟩))(hv:cs[off]?=C v)(k:∀n,K v L n n Z Z):WO E X Γ l (.field t x i) L K:=jw (λP s call hl=>by obtain⟨fs,f,d,m,B,D,F,G⟩:=ht.h;show IM E s t (aM P x) i=_;rw[N.eval hl];unfold IM;rw[m];show ob (jH fs i) _=_;rw[B];show ob (iE E f.type) _=_;rw[D];show dq (!wz d) _=_;rw[F,G];show dq J (ob (jH cs off) _)=_;rw[dY,ec,hv];rfl) k
def Xr {m n:Nat}(B:Ev l x (iv m))(D:Ev l y (iv n))(hm:m<4611686018427387904)(hn:n<4611686018427387904)(h:∀i,K (iv ((m^^^ n:Nat):Int)) L i i Z Z):WO E X Γ l (.binOp .xor t x y t2) L K:=fZ B D (sH rfl (by show dq (ble (Nat.succ m) 4611686018427387904&&ble (Nat.succ n) 4611686018427387904) (C (Value.int .i64 (.ofNat (Nat.xor m n))))=_;rw[dQ hm,dQ hn];rfl)) h
def T1 {e:Nat}{p:List UInt8}{enc:au UInt8 1}[h1:TT E t e 1 UInt8 enc][V:yg E e .u8](hx:Ev l x (H a (Y p) (Y p)))(hm:It.aU (H a (Y p) (Y p)) e 1 (ab p)∈L)(hp:0<Y p)(hb:Y p<=1000000)
  (k:∀n,K (H a (Y p) (Y p)) L n n (λi=>i∈ah a) (λi=>i∈ah a)):WO E X Γ l (.convert t t x) L K:=λtm s hl hi=>by
 obtain⟨B,_⟩|⟨b,n',k',w,rest,B,G,W,D⟩:=hi.it _ hm;exfalso;injection B with B G;omega;cases B;have hu:(1000000:Nat)<cl:=by decide
 obtain rfl:rest=[]:=jG (by obtain⟨_,_,D⟩|⟨D,_⟩:=D;rw[dB,W] at D;omega;omega);rw[fT] at G;have m:=(hi.may hm (b:=b) (by simp[It.bC,nH]));have hr:=hi.aL m;obtain⟨z,T,_⟩:=h1.h;obtain⟨N,i,v,P,S,_⟩:=T.h;have hs:size E e=C 1:=by unfold size;rw[P];simp[S]
 refine eM.pure (v:=H (C ⟨b,0,O⟩) (Y p) (Y p)) (s':=(s.aL b).put b (C (.cells (ab p) e U))) (λcall=>?_) ⟨L,(λi=>i∈ah (C ⟨b,0,O⟩)),(λi=>i∈ah (C ⟨b,0,O⟩)),hr.put (Xq hm) rfl rfl ?_,(iS.trans (cH m.1 (by simp[ah])) (jx (by simpa using m.1) (by simp[ah]) (by simp[ah]))),by rw[dn,bh];exact k _⟩;show qq E s t t (aM tm x)=_;rw[hx.eval hl];unfold qq;rw[N];show ob (iE E e) (λd=>dq (isByte d&&beq t t)<| s.row b λcs F _ s=>ob (size E F) λsz=>ob (iE E F) λZ=>dq (isByte Z&&beq sz 1)<| aD (H (C ⟨b,0,O⟩) (Y p) (Y p)) (s.put b (C (.cells cs F U))))=_;rw[V.h];show dq (beq t t) _=_;rw[kY,dY];unfold St.row St.look;rw[G];simp only[bF,hs,V.h];rfl;exact nV.dz (w:=U) (by rw[qs,ai rfl]) W (.inl ⟨rfl,Nat.lt_of_le_of_lt hb hu⟩)
end
end Go.Lg
