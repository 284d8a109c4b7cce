/- Lemmas of the proof. No conditions. -/
import Derived.Test.YtnealhiolaklpaaGreatDoorAf2
set_option maxRecDepth 100000
set_option maxHeartbeats 4000000
set_option linter.all false
open Bool renaming false->U,true->J
open Option renaming none->O,some->C
open List renaming length->Y
open Go.Value renaming slice->H,bool->M,int->I
open Go.Proofs.Tryz
open Nat (beq ble mul)
open Go.Result (andThen_ok)
open Go.Sem (run_bind)
open Go.Region (binds)
open List (replicate)
open Int (toNat)
open Go.Builtin (firstCells)
open Go.Instr (checkKey)
namespace Go.Pl
open Go Go.Ev Go.Lg Go.Proofs
variable {E:hJ}{X:fb}{l:Kn}{L R:cq}{g:FuncId}{xs:List Operand}{vs:aV}{a:aP}{n sz c e:Nat}{r:Value}{x y o:Operand}{α:Type}{enc:au α sz}{p:List α}{n2:Nat}{s:St}{z w:aw}
def NY (s:St)(z:aw)(hz:Y z<=100000)(hr:dy s):bM 144 [sv z] s [5,1] (.tuple ⟨[nv ((bY z).getD aK),M (bY z).isSome]⟩):=by
 have hd:lN ⟨s,([]:cq).flatMap It.bC,[5,1]⟩:=lN.of hr aq aq;have Q:=λs hn=>F6 s z hz hn;cases hf:b6 z with
 |none=>rw[hf] at Q;rw[Pg.J9 hf];refine a8 f144 ?_;(repeat' first|(apply mA;exact aj;assumption;(exact Q);intro _ _ agS agT _ _)|refine' nJ|fail)
 |some f=>
  rw[hf] at Q;have TA:=(Pg.l7 hf).2;by_cases h7:Y f=7
  .obtain⟨w0,t,u,v,A,B,G,rfl⟩:∃w0 t u v A B G,f=[w0,t,u,v,A,B,G]:=by
    match f,h7 with
    |[w0,t,u,v,A,B,G],_=>exact⟨w0,t,u,v,A,B,G,rfl⟩
   have hfo:=(Pg.l7 hf).1;(have hwl:Y v<=100000:=by (have:Y v<=Y z:=by rw[hfo];simp only[Pg.cS,dB,fS];omega);omega);(have h0:=λs=>ia s w0);(have h1:=λs=>ia s t);(have h2:=λs=>ia s u);(have FN:=λs a c hr hn=>QT s a c v A B hwl hr hn);(have N:=λh=>Pg.NN (s:=z) (a:=w0) (b:=t) (c:=u) (d:=v) (e:=A) (f:=B) (g:=G) hf h);refine a8 f144 ?_;(repeat' first|(apply mA;exact aj;assumption;(exact Q);intro _ _ agS agT _ _)|((with_reducible apply gb (α:=aP) (xs:=[_,_,_]));exact nI;(exact rfl);(exact rfl);intro bl _)|refine' eI|fail);(all_goals first|(exfalso;omega;done)|(exfalso;simp at *;done)|contradiction|skip);refine W.bu (λk l L=>∃(i b2 S:Nat)(a4 a5:aP)(c4 c5:Nat),Le [(0,sv z),(2,bk b2),(4,H a4 [w0,t,u,v,A,B,G].length c4),(6,bk S),(25,H a5 (Y (node3 S)) c5),(26,iv ((3:Nat):Int)),(27,iv (i:Int))] l/\cb [.box b2 [iv 0,iv 0,iv 0,iv 0,iv 0,iv 0,iv 0,iv 0,iv 0,iv 0] 67 U,.box S (Kh ((aA w0).getD 0:Nat) ((aA t).getD 0:Nat) ((aA u).getD 0:Nat) i) 67 U,.aU (H a4 [w0,t,u,v,A,B,G].length c4) 9 1 (ab [w0,t,u,v,A,B,G]),.aU (H a5 (Y (node3 S)) c5) 240 1 (ab (node3 S))] L/\k=3-i/\i<=3/\∀j,j<i->(aA ([w0,t,u].getD j [])).isSome=J)
    (λl L=>∃(b2 S:Nat)(a4:aP)(c4:Nat),Le [(0,sv z),(2,bk b2),(4,H a4 [w0,t,u,v,A,B,G].length c4),(6,bk S)] l/\cb [.box b2 [iv 0,iv 0,iv 0,iv 0,iv 0,iv 0,iv 0,iv 0,iv 0,iv 0] 67 U,.box S (Kh ((aA w0).getD 0:Nat) ((aA t).getD 0:Nat) ((aA u).getD 0:Nat) 3) 67 U,.aU (H a4 [w0,t,u,v,A,B,G].length c4) 9 1 (ab [w0,t,u,v,A,B,G])] L/\∀j,j<3->(aA ([w0,t,u].getD j [])).isSome=J) _ ⟨0,_,_,_,_,_,_,bd,ak,rfl,aa,λj T=>by omega⟩ ?_ ?_
   rintro k l L ⟨i,b2,S,a4,a5,c4,c5,Bk,hL,rfl,hi3,D⟩;refine' cP;(have h6:i=0\/i=1\/i=2\/i=3:=by omega);obtain rfl|rfl|rfl|rfl:=h6;cases V:(aA w0).isSome with
   |false=>rw[V] at h0;rw[N (.inl (nn V))];(repeat' first|(apply bq;exact aj;assumption;(exact h0);intros)|refine' nJ|fail)
   |true=>rw[V] at h0;(repeat' first|(apply bq;exact aj;assumption;(exact h0);intros)|refine' cY|fail);all_goals exact⟨_,aa,1,_,_,_,_,_,_,bd,ak,rfl,aa,λj T=>by rcases(by omega:j<0\/j=0) with T|rfl;exact D j T;exact V⟩
   cases Z:(aA t).isSome with
   |false=>rw[Z] at h1;rw[N (.inr (.inl (nn Z)))];(repeat' first|(apply bq;exact aj;assumption;(exact h1);intros)|refine' nJ|fail)
   |true=>rw[Z] at h1;(repeat' first|(apply bq;exact aj;assumption;(exact h1);intros)|refine' cY|fail);all_goals exact⟨_,aa,2,_,_,_,_,_,_,bd,ak,rfl,aa,λj T=>by rcases(by omega:j<1\/j=1) with T|rfl;exact D j T;exact Z⟩
   cases Wq:(aA u).isSome with
   |false=>rw[Wq] at h2;rw[N (.inr (.inr (.inl (nn Wq))))];(repeat' first|(apply bq;exact aj;assumption;(exact h2);intros)|refine' nJ|fail)
   |true=>rw[Wq] at h2;(repeat' first|(apply bq;exact aj;assumption;(exact h2);intros)|refine' cY|fail);all_goals exact⟨_,aa,3,_,_,_,_,_,_,bd,ak,rfl,aa,λj T=>by rcases(by omega:j<2\/j=2) with T|rfl;exact D j T;exact Wq⟩
   (refine' iK);exact⟨_,_,_,_,bd,ak,D⟩;rintro l L ⟨b2,S,a4,c4,Bk,hL,D⟩;refine' gh;have g0:=D 0 aa;have g1:=D 1 aa;have g2:=D 2 aa;dsimp only[List.getD] at g0 g1 g2;obtain⟨n0,e0⟩:=sj.1 g0;obtain⟨n1,e1⟩:=sj.1 g1;obtain⟨n2,e2⟩:=sj.1 g2;have e0':aA w0=C n0:=e0;have e1':aA t=C n1:=e1;have e2':aA u=C n2:=e2;rw[e0',e1',e2'];dsimp only[Option.getD];have rK:Kh (n0:Int) (n1:Int) (n2:Int) 3=[iv (n0:Int),iv (n1:Int),iv (n2:Int),iv 0,iv 0,iv 0,iv 0,iv 0,iv 0,iv 0]:=rfl;rw[rK];have agU:=FN;cases NU:(cy v).isSome with
   |false=>rw[NU] at FN;rw[N (.inr (.inr (.inr (.inl (np NU)))))];generalize Ip v A B=tt at FN;(have FN:∀(s:St)(a:aP)(c:Nat),bJ s a (Y (List.take (toNat 6-toNat 3) (List.drop (toNat 3) [w0,t,u,v,A,B,G]))) 1 (ab (List.take (toNat 6-toNat 3) (List.drop (toNat 3) [w0,t,u,v,A,B,G])))->dy s->bM 200 [H a (Y (List.take (toNat 6-toNat 3) (List.drop (toNat 3) [w0,t,u,v,A,B,G]))) c] s (ah a++[5,1]) (.tuple ⟨[tv tt,M U]⟩):=by have F:=FN;simp only[tO,GJ,wo] at F;exact F);refine' zaf
   |true=>
   cases hby:(aA A).isSome with
   |false=>rw[hby] at FN;rw[N (.inr (.inr (.inr (.inr (.inl (nn hby))))))];generalize Ip v A B=tt at FN;(have FN:∀(s:St)(a:aP)(c:Nat),bJ s a (Y (List.take (toNat 6-toNat 3) (List.drop (toNat 3) [w0,t,u,v,A,B,G]))) 1 (ab (List.take (toNat 6-toNat 3) (List.drop (toNat 3) [w0,t,u,v,A,B,G])))->dy s->bM 200 [H a (Y (List.take (toNat 6-toNat 3) (List.drop (toNat 3) [w0,t,u,v,A,B,G]))) c] s (ah a++[5,1]) (.tuple ⟨[tv tt,M U]⟩):=by have F:=FN;simp only[tO,GJ,wo] at F;exact F);refine' zaf
   |true=>
   cases hbw:(aA B).isSome with
   |false=>rw[hbw] at FN;rw[N (.inr (.inr (.inr (.inr (.inr (nn hbw))))))];generalize Ip v A B=tt at FN;(have FN:∀(s:St)(a:aP)(c:Nat),bJ s a (Y (List.take (toNat 6-toNat 3) (List.drop (toNat 3) [w0,t,u,v,A,B,G]))) 1 (ab (List.take (toNat 6-toNat 3) (List.drop (toNat 3) [w0,t,u,v,A,B,G])))->dy s->bM 200 [H a (Y (List.take (toNat 6-toNat 3) (List.drop (toNat 3) [w0,t,u,v,A,B,G]))) c] s (ah a++[5,1]) (.tuple ⟨[tv tt,M U]⟩):=by have F:=FN;simp only[tO,GJ,wo] at F;exact F);refine' zaf
   |true=>
    obtain⟨p,e3⟩:=sj.1 NU;obtain⟨n4,e4⟩:=sj.1 hby;obtain⟨n5,e5⟩:=sj.1 hbw;(have FN:∀(s:St)(a:aP)(c:Nat),bJ s a (Y (List.take (toNat 6-toNat 3) (List.drop (toNat 3) [w0,t,u,v,A,B,G]))) 1 (ab (List.take (toNat 6-toNat 3) (List.drop (toNat 3) [w0,t,u,v,A,B,G])))->dy s->bM 200 [H a (Y (List.take (toNat 6-toNat 3) (List.drop (toNat 3) [w0,t,u,v,A,B,G]))) c] s (ah a++[5,1]) (.tuple ⟨[tv ⟨p,(n4:Int),(n5:Int)⟩,M J]⟩):=by have:=agU;dsimp only[Ip] at this;rwa[e3,e4,e5] at this);clear agU;(have hnp:=λs hn=>qO s ⟨(n0:Int),(n1:Int),(n2:Int),⟨p,(n4:Int),(n5:Int)⟩⟩ hn);rw[Pg.F4 hf e0' e1' e2' e3 e4 e5];by_cases he:dK ⟨(n0:Int),(n1:Int),(n2:Int),⟨p,(n4:Int),(n5:Int)⟩⟩=z
    .rw[he] at hnp;rw[ai he];obtain⟨t1,t2,t3,t4,t5⟩:=p;(repeat' first|(apply xq;exact aj;assumption;(intro s h hr;exact FN s _ _ hr h);exact ax;intros)|(apply bq;exact aj;assumption;(intro s h;first|exact hnp s h|exact qO s ⟨_,_,_,⟨⟨_,_,_,_,_⟩,_,_⟩⟩ h);intros)|refine' nJ|fail)
    rw[af he];generalize hpz:dK ⟨(n0:Int),(n1:Int),(n2:Int),⟨p,(n4:Int),(n5:Int)⟩⟩=y at *
    obtain⟨t1,t2,t3,t4,t5⟩:=p;(repeat' first|(apply xq;exact aj;assumption;(intro s h hr;exact FN s _ _ hr h);exact ax;intros)|(apply bq;exact aj;assumption;(intro s h;first|exact hnp s h|exact qO s ⟨_,_,_,⟨⟨_,_,_,_,_⟩,_,_⟩⟩ h);intros)|refine' nJ|fail)
  rw[Pg.NM hf h7];refine a8 f144 ?_;(repeat' first|(apply mA;exact aj;assumption;(exact Q);intro _ _ agS agT _ _)|refine' eI|fail);(all_goals first|(exfalso;simp at *;omega;done)|(exfalso;omega;done)|contradiction|skip);(all_goals refine' aC);all_goals rfl
section
variable {l:cc}
def qf (st:ae)(p:fm):Option (Option dX):=if av p=J then C O else match bY (b0 st p) with
 |none=>O
 |some n=>if(Pg.dU st n.aO).isSome=J then C (C n) else O
def q8 (st:ae)(t:bt):Option (List (Option dX)):=if dL st t=J then C (Pg.bI st t) else O
def NZ {α β:Type}(f:α->Option β)(g:α->β):∀l:List α,(∀x∈l,f x=C (g x))->l.mapM f=C (l.map g)
 |[],_=>rfl
 |x::l,h=>by rw[Pg.od,h x ed,NZ f g l λy b=>h y (dI _ b)];rfl
def mapM_mem {α β:Type}(f:α->Option β){l:List α}{r:List β}(h:l.mapM f=C r):∀x∈l,∃y,f x=C y:=λx b=>by
 cases hf:f x with
 |none=>rw[Pg.mapM_none f b hf] at h;cases h
 |some y=>exact⟨y,rfl⟩
def mM {st:ae}{t:bt}:(Pg.dU st t).isSome=da st t:=by unfold Pg.dU;cases da st t<;>rfl
def QU {st:ae}{t:bt}(h:Pg.dU st t=O):q8 st t=O:=by have b:=mM (st:=st) (t:=t);rw[h] at b;unfold q8 dL;rw[<-b];rfl
def Vq {st:ae}{t:bt}(h:Pg.dU st t=C l):q8 st t=l.mapM (qf st):=by
 obtain⟨ht,hl,k⟩:=Pg.ph h;unfold q8;by_cases i:dL st t=J;rw[ai i];have ha:=(Pg.gN st t).1 i;unfold Pg.bI;rw[k,Gp];refine(NZ _ _ l λp j=>?_).symm;unfold qf;obtain f|⟨f,u⟩:=ha.2 p (hl▸j);rw[ai f];show C O=C (bY (b0 st p));rw[Pg.jC f,Pg.mH];obtain⟨n,v,A⟩:=f u;show _=C (bY (b0 st p));by_cases d:av p=J;rw[ai d,Pg.jC d,Pg.mH];rw[af d,v];dsimp only;rw[mM,ai A];rw[af i];cases hm:l.mapM (qf st) with
 |none=>rfl
 |some r=>
  exfalso;apply i;refine(Pg.gN st t).2 ⟨ht,λp j=>?_⟩;obtain⟨y,b⟩:=mapM_mem _ hm p (hl▸j);unfold qf at b;by_cases d:av p=J;exact .inl d;right;rw[af d] at b;cases hn:bY (b0 st p) with
  |none=>rw[hn] at b;cases b
  |some n=>
   rw[hn] at b;dsimp only at b;rw[mM] at b;refine⟨λ_=>⟨n,rfl,?_⟩,λB=>?_⟩;cases ht:da st n.aO with
   |true=>rfl
   |false=>rw[ht,af B3] at b;cases b
   (have:b0 st p=[]:=by unfold b0;rw[B];rfl);rw[this,Pg.mH] at hn;cases hn
def oR {st:ae}{t:bt}(h0:0<=st.dm)(h:Pg.dU st t=C l):(∀p∈l,aQ p=J/\p.bE<=st.dm)/\Y l=t.many.toNat/\Y l<=16:=by
 obtain⟨ht,hl,_⟩:=Pg.ph h;have hb:t.bU.bE<=st.dm:=by by_cases hb:st.dm<t.bU.bE;rw[Pg.wi h0 hb] at h;cases h;omega
 simp only[da,ep,gv,fI] at ht;obtain⟨⟨⟨u,v⟩,i⟩,j⟩:=ht;cases f:du st t with
 |none=>rw[f] at j;cases j
 |some w=>
  obtain⟨b,D⟩:=Pg.EP h0 u v i hb f;rw[h] at b;have d:l=w.take t.many.toNat:=by split at b;exact dM b;cases b
  obtain⟨A,_⟩:=Pg.EO h0 t.depth.toNat f (λq k=>by rw[gI] at k;subst k;exact⟨i,hb⟩);refine⟨λp B=>A p (An (d▸B)),?_,?_⟩;rw[d,de];omega;rw[d,de];omega
abbrev Ga:=List (Option (Nat×dX))
def dR (o:Option (Nat×dX)):aP:=o.map λx=>⟨x.1,0,O⟩
def ab8:Option (Nat×dX)->cq
 |none=>[]
 |C (b,n)=>[.box b (jg n) 67 U]
def jh (G:Ga):cq:=G.reverse.flatMap ab8
def N0 (G:Ga):jh (G++[O])=jh G:=by simp[jh,ab8]
def N1 (G:Ga)(b:Nat)(n:dX):jh (G++[C (b,n)])= .box b (jg n) 67 U::jh G:=by simp[jh,ab8]
abbrev Ki (E:hJ)(X:fb)(f:FuncId)(vs:aV)(s:St)(A:List Nat)(p:List (Option dX))(r:Bool):Prop:=eJ E X f vs s [] A λR L=>∃(G:Ga)(a:aP)(k:Nat),G.map (Option.map Prod.snd)=p/\R= .tuple ⟨[H a (Y G) k,M r]⟩/\L= .aU (H a (Y G) k) 68 1 (ab (G.map dR))::jh G
def cb.skip {x:It}{L L2:cq}(h:cb L2 L):cb L2 (x::L):=by obtain⟨l,b,d⟩:=h;exact⟨l,b,d.cons x⟩
def wj {P:Prop}(h:P:=by(first|((repeat(first|exact cb.refl _|refine cb.cons (by(repeat(first|exact Bm.here|apply Bm.there))) ?_|refine cb.skip ?_));done)|fail)):P:=h
def Zo {α:Type}(g:List α)(d y:α)(k:Nat):(g++replicate (k+1) d).set (Y g) y=(g++[y])++replicate k d:=by rw[List.set_append_right _ _ (fG _),vG];simp[Rk]
end
end Go.Pl
