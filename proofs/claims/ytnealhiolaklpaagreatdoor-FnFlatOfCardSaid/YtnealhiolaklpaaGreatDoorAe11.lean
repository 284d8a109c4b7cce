/- Lemmas of the proof. No conditions. -/
import Derived.Test.YtnealhiolaklpaaGreatDoorAe10
set_option maxRecDepth 100000
set_option maxHeartbeats 4000000
set_option linter.all false
open Bool renaming false->U,true->J
open Option renaming none->O,some->C
open List renaming length->Y
open Go.Value renaming slice->H,bool->M,int->I
open Go.Proofs.Tryz
open Nat (beq ble mul)
open Go.Result (andThen_ok)
open Go.Sem (run_bind)
open Go.Region (binds)
open List (replicate)
open Int (toNat)
open Go.Builtin (firstCells)
open Go.Instr (checkKey)
namespace Go.Pl
open Go Go.Ev Go.Lg Go.Proofs
variable {E:hJ}{X:fb}{Γ:ng}{l:Kn}{L:cq}{K:KO}{g:FuncId}{xs:List Operand}{ts:Array TypeId}{vs:aV}{a a':aP}{c c':Nat}{p:List cB}{q:ot}{r:Value}{s:St}
def aep {q:ot}{i:Nat}(hl:Y (q.getD i nG).b0<=192):tB q i=J↔(0<=(q.getD i nG).id/\(q.getD i nG).id<=15)/\(0<i->(q.getD (i-1) nG).id<(q.getD i nG).id)/\((q.getD i nG).ej=J->(q.getD i nG).b0=[]):=by
 have b:decide (192<Y (q.getD i nG).b0)=U:=by rw[mW];omega
 unfold tB fI;rw[b];generalize(q.getD i nG).id=x;generalize(q.getD (i-1) nG).id=y;generalize(q.getD i nG).ej=fo;generalize(q.getD i nG).b0=tx;have hd:(y<x)↔¬(x<=y):=by omega
 rw[hd];by_cases d:x<=y<;>by_cases e:0<i<;>by_cases f:tx=[]<;>by_cases h:0<=x<;>by_cases j:x<=15<;>cases fo<;>simp_all
def U2 {p:List cB}{q:ot}{i:Nat}{A B:Acc}(h:D1 p q i A=C B):∃t,Jh q (p.getD i fp).id=C t/\¬9<(cO (ig A.li (p.getD i fp).id ((cO A.li (p.getD i fp).id).getD 0+1)) (p.getD i fp).id).getD 0/\((q.getD t nG).ej=J->¬1<(cO (ig A.li (p.getD i fp).id ((cO A.li (p.getD i fp).id).getD 0+1)) (p.getD i fp).id).getD 0)/\((0<i/\bP (p.getD (i-1) fp).ar (p.getD i fp).ar=J/\(cO A.fo (bS (p.getD i fp).ar).1).getD U=J/\bG (bS (p.getD i fp).ar).2=J/\¬12<(cO (ig A.xB (bS (p.getD i fp).ar).1 ((cO A.xB (bS (p.getD i fp).ar).1).getD 0+1)) (bS (p.getD i fp).ar).1).getD 0/\B=⟨ig A.li (p.getD i fp).id ((cO A.li (p.getD i fp).id).getD 0+1),ig A.xB (bS (p.getD i fp).ar).1 ((cO A.xB (bS (p.getD i fp).ar).1).getD 0+1),ig A.fo (p.getD i fp).ar (q.getD t nG).ej⟩)\/(¬0<i/\B=⟨ig A.li (p.getD i fp).id ((cO A.li (p.getD i fp).id).getD 0+1),A.xB,ig A.fo (p.getD i fp).ar (q.getD t nG).ej⟩)):=by
 unfold D1 at h;cases ht:Jh q (p.getD i fp).id with
 |none=>rw[ht] at h;cases h
 |some t=>
  rw[ht] at h;dsimp only at h;split at h;cases h;rename_i d;by_cases h0:0<i;rw[ai h0] at h;unfold iIn at h;by_cases e:(cO A.fo (bS (p.getD i fp).ar).1).getD U=U\/bG (bS (p.getD i fp).ar).2=U;rw[ai e] at h;cases h;rw[af e] at h;split at h;cases h;rename_i m j;split at j;cases j;rename_i k;(cases j);unfold M8 at h;split at h;cases h;rename_i b;(cases h);refine⟨t,rfl,λh=>b (.inl h),λd f=>b (.inr ⟨d,f⟩),.inl ⟨h0,?_,?_,?_,k,rfl⟩⟩;cases hs:bP (p.getD (i-1) fp).ar (p.getD i fp).ar with
  |true=>rfl
  |false=>exact absurd ⟨h0,hs⟩ d
  cases hs:(cO A.fo (bS (p.getD i fp).ar).1).getD U with
  |true=>rfl
  |false=>exact absurd (.inl hs) e
  cases hs:bG (bS (p.getD i fp).ar).2 with
  |true=>rfl
  |false=>exact absurd (.inr hs) e
  rw[af h0] at h;dsimp only at h;unfold M8 at h;split at h;cases h;rename_i b;(cases h);exact⟨t,rfl,λh=>b (.inl h),λd f=>b (.inr ⟨d,f⟩),.inr ⟨h0,rfl⟩⟩
def Np (s:St)(a:aP)(c:Nat)(a':aP)(c':Nat)(f:Flat)(hf:SC f)(N:iok f=J)(hr:tu s a a' f):bM 11 [flV a c a' c' f] s (flA a a') (M J):=by
 have hdn:=YY.n hr;have hdt:=YY.t hr;have RM:=hf.tl;have ON:=hf.nl;rw[aen,ep,ep,ep,ep,ep,ep] at N;obtain⟨⟨⟨⟨⟨⟨x,Q⟩,T⟩,d⟩,h5⟩,h6⟩,D⟩:=N;have Q:=vR Q;have T:=vR T;have h5:=vR h5;have k:(1:Int)<=(Y f.aB:Int)/\(Y f.aB:Int)<=16:=by unfold fI at x;simp at x;omega
 have h1':1<=Y f.aB:=by omega
 have h3':(!(decide (f.names.getD 0 fp=⟨[47],0⟩)))=U:=by rw[T];decide
 have d:∀j,j<Y f.aB->tB f.aB j=J:=λj hj=>o5.1 d j (B4.2 hj);have hs:=JU d;cases w:Z6 f.names f.aB (Y f.names) 0 ⟨[],[],[]⟩ with
 |none=>rw[w] at D;cases D
 |some A0=>
  rw[w] at D;have D:=vR D;clear x;refine a8 f11 ?_;repeat' first|refine' uH|refine' ais|refine' eI|fail
  all_goals first|(exfalso;simp[k.1,k.2] at sN;done)|(exfalso;omega;done)|contradiction|(exfalso;simp_all;done)|(exfalso;simp_all;omega)|skip
  refine W.bu (λm l L=>∃(i b:Nat),Le [(1,bk b),(33,H a' (Y f.aB) c'),(34,iv (Y f.aB:Int)),(35,iv (i:Int))] l/\cb [.box b (tq a c f.names a' c' f.aB) 39 U] L/\m=Y f.aB-i/\i<=Y f.aB)
   (λl L=>∃b:Nat,Le [(1,bk b)] l/\cb [.box b (tq a c f.names a' c' f.aB) 39 U] L) _ ⟨0,_,bd,ak,rfl,aa⟩ ?_ ?_
  .rintro m l L ⟨i,b,hl,v,rfl,g1⟩;refine' cP;by_cases hi:i<Y f.aB
   .have Z:=hf.th _ (a7 hi au.ad);have F:=(aep (q:=f.aB) (i:=i) Z.2.2).1 (d i hi);rw[show i-1=((i:Int)-1).toNat by omega] at F;obtain⟨c1,c2,c3⟩:=F;(have c2':¬(0<i)\/(f.aB.getD ((i:Int)-1).toNat au.ad).id<(f.aB.getD i au.ad).id:=by by_cases h:0<i;exact .inr (c2 h);exact .inl h);(repeat' first|refine' uH|refine' eI|fail);(all_goals try refine z_2);all_goals exact⟨_,aa,i+1,b,bd,ak,rfl,aa⟩
   (refine' eR);(all_goals try refine z_2);all_goals exact⟨b,bd,ak⟩
  rintro l L ⟨b,hl,v⟩;(repeat(first|(with_reducible first|refine aJ ?_|refine eZ ?_|refine gG ?_)));refine W.le ?_ hl v;clear hl v d;(repeat' first|(apply pP;intro bm _)|refine' eI|fail);all_goals try refine z_2
  refine W.bu (λm l L=>∃(i b o y z:Nat)(A:Acc),Le [(1,bk b),(5,.map (C o)),(6,.map (C y)),(7,.map (C z)),(94,H a (Y f.names) c),(95,iv (Y f.names:Int)),(96,iv (i:Int))] l/\cb [.box b (tq a c f.names a' c' f.aB) 39 U,.iC o (VT A.li),.iC y (mSI A.xB),.iC z (mSB A.fo)] L/\m=Y f.names-i/\i<=Y f.names/\D4 f.names f.aB i A/\Z6 f.names f.aB (Y f.names-i) i A=C A0)
   (λl L=>∃(b o:Nat)(A:Acc),Le [(1,bk b),(5,.map (C o))] l/\cb [.box b (tq a c f.names a' c' f.aB) 39 U,.iC o (VT A.li)] L/\A=A0) _ ⟨0,_,_,_,_,⟨[],[],[]⟩,bd,ak,rfl,aa,YC _ _,w⟩ ?_ ?_
  .rintro m l L ⟨i,b,o,y,z,A,hl,v,rfl,g1,g2,u⟩;refine' cP;by_cases hi:i<Y f.names;rw[show Y f.names-i=(Y f.names-(i+1))+1 by omega,Z6] at u;cases e:D1 f.names f.aB i A with
   |none=>rw[e] at u;cases u
   |some B=>rw[e] at u;obtain⟨t,ht,c4,S,hB⟩:=U2 e;(have G:D4 f.names f.aB (i+1) B:=by by_cases hn:NmC f.names f.aB i;obtain⟨A2,x,Q⟩:=(D5 g2).1 hn;rw[e] at x;cases x;exact Q;rw[(D5 g2).2 hn] at e;cases e);rw[show i-1=((i:Int)-1).toNat by omega] at hB;refine aiR ⟨hf,hr,hs,hi,g2⟩ b o y z ht c4 S hB _ (λl L hl v=>?_);(repeat(first|(with_reducible first|refine aJ ?_|refine eZ ?_|refine gG ?_)));exact⟨_,aa,i+1,b,o,y,z,B,hl,v,rfl,aa,G,u⟩
   (have V:i=Y f.names:=by omega);subst V;rw[vG,Z6] at u;refine' eR;(all_goals try refine Dk);all_goals exact⟨b,o,A,bd,ak,dM u⟩
  rintro l L ⟨b,o,A,hl,v,rfl⟩;(repeat(first|(with_reducible first|refine aJ ?_|refine eZ ?_|refine gG ?_)));refine' cP;(repeat' first|(apply Xo;exact bN;exact kD;intro _)|refine' eI|fail);all_goals(refine⟨by(first|exact .inl rfl|exact .inr rfl),_,[],bH,cb.nil _,?_,rfl⟩;refine congrArg Value.bool ?_;show decide _=J;rw[gv];omega)
variable {a2:aP}{n n2 sz sz2:Nat}{cs cs2:aV}
def Ib (d:iu l xs vs)(h:∀s,bJ s a n sz cs->bJ s a2 n2 sz2 cs2->jA E X g vs s (ah a++ah a2) r)(h1:ga Γ L a n sz cs)(h2:ga Γ L a2 n2 sz2 cs2)(k:∀m b,gk L m->m<=b->K r L m b (iI (ah a++ah a2) [] m b) (iJ [] m b)):WC E X Γ l g xs ts L K:=
 dZ d (λs hi=>⟨λi hb=>by obtain hb|hb:=cG.1 hb;exact(h1.row hi).2 i hb;exact(h2.row hi).2 i hb,h s (h1.row hi).1 (h2.row hi).1⟩) k
def El (s:St)(a:aP)(c:Nat)(a2:aP)(c2:Nat)(p:List cB)(k:Y p<=1000)(h1:bJ s a (Y p) 2 (ab p))(h2:bJ s a2 (Y p) 2 (ab p)):bM 10 [H a (Y p) c,H a2 (Y p) c2] s (ah a++ah a2) (M J):=by
 have d:=Rd.of (A:=ah a++ah a2) h1 λ_ hb=>im _ hb;have e:=Rd.of (A:=ah a++ah a2) h2 λ_ hb=>dt _ hb;refine a8 f10 ?_;refine' eR;all_goals try refine Dk
 refine W.bu (λm l L=>∃(i:Nat),Le [(0,H a (Y p) c),(1,H a2 (Y p) c2),(5,iv (i:Int))] l/\cb [] L/\m=Y p-i/\i<=Y p)
  (λl L=>Le [] l/\cb [] L) _ ⟨0,bd,ak,rfl,aa⟩ ?_ ?_
 .rintro m l L ⟨i,hl,b,rfl,f⟩;refine' cP;by_cases hi:i<Y p
  ·(have j:(!decide (p.getD i au.ad=p.getD i au.ad))=U:=by rw[gZ rfl];rfl);(repeat' first|(apply SB;exact bN;exact bN;intro _)|refine' eI|fail);(all_goals try refine Dk);all_goals exact⟨_,aa,i+1,bd,ak,rfl,aa⟩
  (refine' eR);(all_goals try refine Dk);all_goals exact⟨bd,ak⟩
 rintro l L ⟨hl,b⟩;(repeat(first|(with_reducible first|refine aJ ?_|refine eZ ?_|refine gG ?_)));refine' cP;refine' qcx
def zR (s:St)(a:aP)(c:Nat)(a':aP)(c':Nat)(a2:aP)(c2:Nat)(b:aP)(d:Nat)(p:List cB)(q:ot)(z:Y p<=1000)(B:Y q<=1000)(h1:bJ s a (Y p) 2 (ab p))(h2:bJ s a' (Y q) 3 (ab q))(j:bJ s a2 (Y p) 2 (ab p))(k:bJ s b (Y q) 3 (ab q)):
  bM 7 [.agg ⟨tq a c p a' c' q⟩,.agg ⟨tq a2 c2 p b d q⟩] s ((ah a++ah a')++(ah a2++ah b)) (M J):=by
 have t:=Rd.of (A:=(ah a++ah a')++(ah a2++ah b)) h1 λ_ hb=>im _ (im _ hb);have u:=Rd.of (A:=(ah a++ah a')++(ah a2++ah b)) h2 λ_ hb=>im _ (dt _ hb);have v:=Rd.of (A:=(ah a++ah a')++(ah a2++ah b)) j λ_ hb=>dt _ (im _ hb);have w:=Rd.of (A:=(ah a++ah a')++(ah a2++ah b)) k λ_ hb=>dt _ (dt _ hb);refine a8 f7 ?_;(repeat' first|(apply Ib;exact aj;(intro s h1 h2;exact El s _ _ _ _ _ aa h1 h2);exact ax;exact ax;intros)|refine' eI|fail);all_goals try refine Dk
 refine W.bu (λm l L=>∃(i e f:Nat),Le [(2,bk e),(3,bk f),(5,iv (i:Int))] l/\cb [.box e (tq a c p a' c' q) 39 U,.box f (tq a2 c2 p b d q) 39 U] L/\m=Y q-i/\i<=Y q)
  (λl L=>Le [] l/\cb [] L) _ ⟨0,_,_,bd,ak,rfl,aa⟩ ?_ ?_
 .rintro m l L ⟨i,e,f,hl,o,rfl,x⟩;refine' cP;by_cases hi:i<Y q
  ·(have y:(!decide (q.getD i au.ad=q.getD i au.ad))=U:=by rw[gZ rfl];rfl);(repeat' first|(apply abA;exact bN;exact bN;intro _)|refine' eI|fail);(all_goals try refine Dk);all_goals exact⟨_,aa,i+1,e,f,bd,ak,rfl,aa⟩
  (refine' eR);(all_goals try refine Dk);all_goals exact⟨bd,ak⟩
 rintro l L ⟨hl,o⟩;(repeat(first|(with_reducible first|refine aJ ?_|refine eZ ?_|refine gG ?_)));refine' cP;refine' qcx
end Go.Pl
