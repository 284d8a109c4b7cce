/- Lemmas of the proof. No conditions. -/
import Derived.Test.YtnealhiolaklpaaGreatDoorAf3
set_option maxRecDepth 100000
set_option maxHeartbeats 4000000
set_option linter.all false
open Bool renaming false->U,true->J
open Option renaming none->O,some->C
open List renaming length->Y
open Go.Value renaming slice->H,bool->M,int->I
open Go.Proofs.Tryz
open Nat (beq ble mul)
open Go.Result (andThen_ok)
open Go.Sem (run_bind)
open Go.Region (binds)
open List (replicate)
open Int (toNat)
open Go.Builtin (firstCells)
open Go.Instr (checkKey)
namespace Go.Pl
open Go Go.Ev Go.Lg Go.Proofs
variable {E:hJ}{X:fb}{Γ:ng}{l:Kn}{L R:cq}{K:KO}{g:FuncId}{xs:List Operand}{ts:Array TypeId}{vs:aV}{a:aP}{n sz c e m:Nat}{cs:aV}{r:Value}{x y o:Operand}{α:Type}{enc:au α sz}{p:List α}{q:Bool}{s:St}{z w:aw}
def BZ {st:ae}(h:cZ 100000 st)(p:fm):Y (b0 st p)<=3000:=by
 unfold b0;cases b:dD st p with
 |none=>exact jl _
 |some z=>
  show Y z<=3000;cases d:av p with
  |true=>unfold dD at b;rw[d,ai rfl] at b;cases b;exact jl _
  |false=>rw[(Pg.y0 d b).2.1];exact h.row p.row.toNat
def xw (st:ae)(p:fm):Sr (dD st p)= .tuple ⟨[sv (b0 st p),M (dD st p).isSome]⟩:=by unfold b0;cases dD st p<;>rfl
def Vr (s:St)(b:Nat)(v:SA)(st:ae)(h:cZ 100000 st)(h0:0<=st.dm)(t:bt)(hr:fh s b v st)(hn:dy s):Ki aZ aW 83 [bk b,tv t] s (mL b v++[5,1]) ((q8 st t).getD []) (q8 st t).isSome:=by
 refine' zaa;have hd:lN ⟨s,([]:cq).flatMap It.bC,mL b v++[5,1]⟩:=lN.of hn aq aq;have u:=λs hr hn=>sX s b v st h h0 t hr hn;cases hl:Pg.dU st t with
 |none=>rw[hl] at u;rw[QU hl];refine a8 f83 ?_;refine W.lO (α:=aP) (e:=68) ?_;(repeat' first|(apply jP;exact aj;assumption;(exact u);(exact eh.mk ax (cJ.mk ax ax ax));intro _ _ Zp B k V aez _ _)|refine' cY|fail);all_goals refine' zaK
 |some q=>
  rw[hl] at u;have u:∀s,fh s b v st->dy s->sW aZ aW 48 [bk b,tv t] s (mL b v++[5,1]) 31 q J:=u;obtain⟨hqa,_,ab6⟩:=oR h0 hl;rw[Vq hl];refine a8 f83 ?_;refine W.lO (α:=aP) (e:=68) ?_;(repeat' first|(apply jP;exact aj;assumption;(exact u);(exact eh.mk ax (cJ.mk ax ax ax));intro _ _ Zp B k V aez _ _)|refine' cY|fail);rw[px];refine W.bu (λm l L=>∃(i:Nat)(G:Ga)(P:List (aP))(D:aP)(F:Nat),Le [(0,bk b),(8,H D (Y P) F),(28,H Zp (Y q) (Y q)),(29,iv (Y q:Int)),(30,iv (i:Int))] l/\cb (.aU (H D (Y P) F) 68 1 (ab P):: .aU (H B (Y k) V) 31 5 (ab k):: .aU (ew) 68 1 (ab ([]:List (aP)))::jh G) L/\m=Y q-i/\i<=Y q/\Y G=i/\P=G.map dR++replicate (Y q-i) O/\(q.take i).mapM (qf st)=C (G.map (Option.map Prod.snd)))
                         (λl L=>∃(G:Ga)(D:aP)(F:Nat),Le [(8,H D (Y G) F)] l/\cb (.aU (H D (Y G) F) 68 1 (ab (G.map dR))::jh G) L/\q.mapM (qf st)=C (G.map (Option.map Prod.snd))) (Y q) ⟨0,[],replicate (Y q) O,_,_,bd,by(rw[show jh []=[] from rfl];exact ak),aa,aa,rfl,rfl,rfl⟩ ?_ ?_
  rintro m l L ⟨i,G,P,D,F,Bk,hL,rfl,h1,hG,hP,hm⟩;refine' cP;(have hPl:Y P=Y q:=by rw[hP,dB,fH,sk];omega);by_cases hi:i<Y q;have hpm:=a7 (show i<Y q by omega) au.ad;obtain⟨hqo,hqb⟩:=hqa _ hpm;have A:=λs=>bO s (q.getD i au.ad);(have hni:qf st (q.getD i au.ad)=O->q.mapM (qf st)=O:=λhx=>Pg.mapM_none (qf st) hpm hx);(have T:∀y,qf st (q.getD i au.ad)=C y->(q.take (i+1)).mapM (qf st)=C (G.map (Option.map Prod.snd)++[y]):=λy hy=>Pg.oc (qf st) hi hm hy);obtain⟨k',VQ⟩:∃k',Y q-i=k'+1:=⟨Y q-i-1,aa⟩;(have Lq:Y q-(i+1)=k':=by omega);rw[VQ] at hP;(have hGm:Y (G.map dR)=i:=by rw[fH,hG]);cases hh:av (q.getD i au.ad) with
  |true=>rw[hh] at A;(repeat' first|(apply ag;exact aj;(exact A);intros)|refine' cY|fail);exact⟨_,aa,i+1,G++[O],P,D,F,bd,by(rw[N0];exact wj),rfl,aa,by rw[dB,hG];rfl,by rw[hP,Lq,qR];simp[Rk,dR],by rw[T O (by unfold qf;rw[hh,ai rfl]),qR];rfl⟩
  |false=>
   rw[hh] at A;(have S:=λs hr=>u0 s b v st h (q.getD i au.ad) hqo hr);rw[xw] at S;have Q:∀s,fh s b v st->bM 49 [bk b,pv (q.getD i au.ad)] s (mL b v) (.tuple ⟨[sv (b0 st (q.getD i au.ad)),M (dD st (q.getD i au.ad)).isSome]⟩):=S;clear S;have j:=λs hn=>NY s (b0 st (q.getD i au.ad)) (by have:=BZ h (q.getD i au.ad);omega) hn;have mU:qf st (q.getD i au.ad)=match bY (b0 st (q.getD i au.ad)) with
     |none=>O
     |some n=>if(Pg.dU st n.aO).isSome=J then C (C n) else O:=by
    unfold qf;rw[hh,af B3];rfl
   generalize(dD st (q.getD i au.ad)).isSome=rb at Q;generalize b0 st (q.getD i au.ad)=z at Q j mU;cases hz:bY z with
   |none=>rw[hz] at j mU;have hng:∀s,dy s->bM 144 [sv z] s [5,1] (.tuple ⟨[nv aK,M U]⟩):=j;rw[hni mU];(repeat' first|(apply ag;exact aj;(exact A);intros)|(apply gY;exact aj;(exact Q);(exact eh.mk ax (cJ.mk ax ax ax));intros)|(apply bq;exact aj;assumption;(exact hng);intros)|refine' cY|fail);all_goals refine' zaK
   |some n=>
    rw[hz] at j mU;dsimp only at mU;have hng:∀s,dy s->bM 144 [sv z] s [5,1] (.tuple ⟨[nv n,M J]⟩):=j;clear j;have d:=λs hr hn=>sX s b v st h h0 n.aO hr hn;cases hs:(Pg.dU st n.aO).isSome with
    |false=>rw[hs] at d;rw[hs,af B3] at mU;generalize(Pg.dU st n.aO).getD []=lw at d;have N:∀s,fh s b v st->dy s->sW aZ aW 48 [bk b,tv n.aO] s (mL b v++[5,1]) 31 lw U:=d;rw[hni mU];(repeat' first|(apply ag;exact aj;(exact A);intros)|(apply gY;exact aj;(exact Q);(exact eh.mk ax (cJ.mk ax ax ax));intros)|(apply bq;exact aj;assumption;(exact hng);intros)|(apply jP;exact aj;assumption;(exact N);(exact eh.mk ax (cJ.mk ax ax ax));intro _ _ agV Z aeA aeB agW _ _)|refine' cY|fail);all_goals refine' zaK
    |true=>rw[hs] at d;rw[hs,ai rfl] at mU;generalize(Pg.dU st n.aO).getD []=lw at d;have N:∀s,fh s b v st->dy s->sW aZ aW 48 [bk b,tv n.aO] s (mL b v++[5,1]) 31 lw J:=d;(repeat' first|(apply ag;exact aj;(exact A);intros)|(apply gY;exact aj;(exact Q);(exact eh.mk ax (cJ.mk ax ax ax));intros)|(apply bq;exact aj;assumption;(exact hng);intros)|(apply jP;exact aj;assumption;(exact N);(exact eh.mk ax (cJ.mk ax ax ax));intro _ _ agV Z aeA aeB agW _ _)|refine' cY|fail);refine⟨_,aa,i+1,G++[C (ba,n)],P.set i (ko ba),D,F,by(rw[mV];exact bd),by(rw[N1,mV];exact wj),rfl,aa,by rw[dB,hG];rfl,?_,by rw[T (C n) mU,qR];rfl⟩;rw[hP,Lq,qR];have:=Zo (G.map dR) O (C (⟨ba,0,O⟩:Addr)) k';rwa[hGm] at this
  (have hi:i=Y q:=by omega);rw[hi,lG] at hm;rw[hi,vG,List.replicate_zero,fT] at hP;subst hP;rw[fH];refine' iK;exact⟨G,D,F,bd,wj,hm⟩;rintro l L ⟨G,D,F,Bk,hL,hm⟩;refine' gh;rw[hm];refine' iK;all_goals exact⟨bK,_,_,bH,cb.refl _,G,D,F,rfl,rfl,rfl⟩
structure Iq (s:St)(a:aP)(G:Ga):Prop where
 row:bJ s a (G.map dR).length 1 (ab (G.map dR))
 nd:∀b n,some (b,n)∈G->bJ s (ko b) 1 10 (jg n)
def N2 (a:aP)(G:Ga):List Nat:=ah a++G.flatMap λo=>o.toList.map Prod.fst
def SN {a:aP}{G:Ga}{b:Nat}{n:dX}(h:C (b,n)∈G):b∈N2 a G:=dt _ (kZ.2 ⟨_,h,aq⟩)
def mj (p:List (Option dX))(i:Int):Option dX:=if 0<=i/\i<Y p then p.getD i.toNat O else O
section
variable {t:TypeId}{r:aP}
structure VZ (Γ:ng)(a:aP)(p:List (aP)):Prop where
 rd:Rd Γ a p.length 1 (ab p)
def uZ {p:List (aP)}{i:Nat}[ht:j7 E t](f:Ev l x (fY a i 1 0))(b:VZ Γ a p)(hi:i<Y p)(d:p.getD i O=r)(k:∀n,K (.pointer r) L n n (λi=>i∈ah a) Z):WO E X Γ l (.load t x) L K:=
 Ly f (.rd b.rd) hi rfl λn=>by subst d;exact k n
def Ir {y:Operand}{p:List (aP)}{i c e:Nat}{j:IntKind}[ht:ky E t e 1](f:Ev l x (H a n c))(h:Ev l y (I j (i:Int)))(b:VZ Γ a p)(hi:i<Y p)(d:∀n,K (fY a i 1 0) L n n Z Z)(hn:n=Y p):WO E X Γ l (.indexAddr t x y) L K:=by subst hn;exact pb f h (.rd b.rd) hi d
def QM {y:Operand}{p:List (aP)}{i c e:Nat}{j:IntKind}[ht:ky E t e 1](f:Ev l x (H a (Y p) c))(h:Ev l y (I j (i:Int)))(b:VZ Γ a p)(hi:i<Y p)(d:∀n,K (fY a i 1 0) L n n Z Z):WO E X Γ l (.indexAddr t x y) L K:=Ir f h b hi d rfl
end
def EW (s:St)(a:aP)(c:Nat)(G:Ga)(i:Int)(D:Y G<=100000)(hr:Iq s a G):bM 84 [H a (Y G) c,iv i] s (N2 a G) (.tuple ⟨[nv ((mj (G.map (Option.map Prod.snd)) i).getD aK),M (mj (G.map (Option.map Prod.snd)) i).isSome]⟩):=by
 have B:VZ ⟨s,([]:cq).flatMap It.bC,N2 a G⟩ a (G.map dR):=⟨Rd.of hr.row λ_ hb=>im _ hb⟩;have j:Y (G.map dR)=Y G:=fH ..;have f:=λs=>vq s i 0 ((Y G:Int)-1);by_cases hb:0<=i/\i<=(Y G:Int)-1;obtain⟨k,rfl⟩:=tI hb.1;have u:k<Y G:=by omega
 have hwi:∀s,bM 22 [iv (k:Int),iv 0,iv ((Y G:Int)-1)] s [] (M J):=λs=>(qN hb)▸f s;have t:mj (G.map (Option.map Prod.snd)) (k:Int)=(G.getD k O).map Prod.snd:=by unfold mj;rw[ai (by rw[fH];omega)];rw[eX,eX,px,mP];cases G[k]?<;>rfl
 have d:(G.map dR).getD k O=dR (G.getD k O):=by rw[eX,eX,mP];cases G[k]?<;>rfl
 rw[t];cases hg:G.getD k O with
 |none=>
  rw[hg] at d;have VV:(G.map dR).getD k O=O:=d;rw[<-j] at hwi u⊢;generalize G.map dR=P at *
  refine' zai
 |some x=>
  obtain⟨b,n⟩:=x;rw[hg] at d;have VV:(G.map dR).getD k O=C ⟨b,0,O⟩:=d;(have hm:C (b,n)∈G:=by rw[<-hg];exact gX O u);(have v:Rd ⟨s,([]:cq).flatMap It.bC,N2 a G⟩ (ko b) 1 10 (jg n):=Rd.of (hr.nd b n hm) λ_ hb=>by simp[ah] at hb;subst hb;exact SN hm);clear hm;generalize N2 a G=A at *
  rw[<-j] at hwi u⊢;generalize G.map dR=P at *
  refine' zai
 have hwi:∀s,bM 22 [iv i,iv 0,iv ((Y G:Int)-1)] s [] (M U):=λs=>by have:=f s;rw[show fI i 0 ((Y G:Int)-1)=U by unfold fI;simp only[rh,mW];omega] at this;exact this
 have t:mj (G.map (Option.map Prod.snd)) i=O:=by unfold mj;rw[af (by rw[fH];omega)]
 rw[t];rw[<-j] at hwi⊢;generalize G.map dR=P at *
 refine' zai
def ml (st:ae)(n:dX):aw×Bool:=match Pg.dU st n.aO with
 |none=>([],U)
 |some l=>match il (Y l:Int) 0 (l.map (b0 st)) [] with
  |none=>([],U)
  |some s=>(s,decide ((Y s:Int)=n.size))
def Is {many:Int}{k:Nat}{s:aw}{l:List aw}{out:aw}:il many k (s::l) out=if decide (s=[])||(decide ((k:Int)+1<many)&&decide (Y s≠128)) then O else il many (k+1) l (out++s):=rfl
def qg {α:Type}(l:List α)(d:α){i:Nat}(h:i<Y l):l.drop i=l.getD i d::l.drop (i+1):=by rw[xF h,eX,c8 h];rfl
def EX (s:St)(b:Nat)(v:SA)(st:ae)(h:cZ 100000 st)(h0:0<=st.dm)(n:dX)(hr:fh s b v st)(hn:dy s):bM 85 [bk b,nv n] s (mL b v++[5,1]) (.tuple ⟨[sv (ml st n).1,M (ml st n).2]⟩):=by
 refine' zaa;have hd:lN ⟨s,([]:cq).flatMap It.bC,mL b v++[5,1]⟩:=lN.of hn aq aq;have d:=λs hr hn=>sX s b v st h h0 n.aO hr hn;cases hl:Pg.dU st n.aO with
 |none=>
  rw[hl] at d;have N:∀s,fh s b v st->dy s->sW aZ aW 48 [bk b,tv n.aO] s (mL b v++[5,1]) 31 ([]:cc) U:=d;clear d;have S:ml st n=([],U):=by unfold ml;rw[hl]
  rw[S];refine a8 f85 ?_;(repeat' first|(apply jP;exact aj;assumption;(exact N);(exact eh.mk ax (cJ.mk ax ax ax));intro _ _ A u t D Q _ _)|refine' nJ|fail)
 |some q=>
  rw[hl] at d;have N:∀s,fh s b v st->dy s->sW aZ aW 48 [bk b,tv n.aO] s (mL b v++[5,1]) 31 q J:=d;clear d;obtain⟨hqa,_,ab6⟩:=oR h0 hl;have S:ml st n=match il (Y q:Int) 0 (q.map (b0 st)) [] with
    |none=>([],U)
    |some s=>(s,decide ((Y s:Int)=n.size)):=by unfold ml;rw[hl]
  rw[S];clear S;refine a8 f85 ?_;(repeat' first|(apply jP;exact aj;assumption;(exact N);(exact eh.mk ax (cJ.mk ax ax ax));intro _ _ A u t D Q _ _)|refine' cY|fail);refine W.bu (λm l L=>∃(i F:Nat)(z:aw),Le [(0,bk b),(3,bk F),(6,H A (Y q) (Y q)),(8,sv z),(22,H A (Y q) (Y q)),(23,iv (Y q:Int)),(24,iv (i:Int))] l/\cb [.aU (H u (Y t) D) 31 5 (ab t),.box F (jg n) 67 U] L/\m=Y q-i/\i<=Y q/\Y z<=3000*i/\il (Y q:Int) 0 (q.map (b0 st)) []=il (Y q:Int) i ((q.map (b0 st)).drop i) z)
   (λl L=>∃(F:Nat)(z:aw),Le [(3,bk F),(8,sv z)] l/\cb [.box F (jg n) 67 U] L/\Y z<=48000/\il (Y q:Int) 0 (q.map (b0 st)) []=C z) (Y q) ⟨0,_,[],bd,ak,aa,aa,aq,rfl⟩ ?_ ?_
  rintro m l L ⟨i,F,z,Z,hL,rfl,h1,hzl,k⟩;refine' cP;by_cases hi:i<Y q
  .have hpm:=a7 (show i<Y q by omega) au.ad;obtain⟨hqo,hqb⟩:=hqa _ hpm;have B:=λs hr=>u0 s b v st h (q.getD i au.ad) hqo hr;rw[xw] at B;have G:∀s,fh s b v st->bM 49 [bk b,pv (q.getD i au.ad)] s (mL b v) (.tuple ⟨[sv (b0 st (q.getD i au.ad)),M (dD st (q.getD i au.ad)).isSome]⟩):=B;clear B;have RM:=BZ h (q.getD i au.ad);(have V:(q.map (b0 st)).drop i=b0 st (q.getD i au.ad)::(q.map (b0 st)).drop (i+1):=by rw[<-Gq,<-Gq,qg q au.ad hi,lF]);rw[V,Is] at k;generalize(dD st (q.getD i au.ad)).isSome=rb at G;generalize b0 st (q.getD i au.ad)=w at G k RM;by_cases j:w=[]\/((i:Int)+1<(Y q:Int)/\Y w≠128)
   .rw[ai (by simp only[km,ep,gv];exact j)] at k;rw[k];(repeat' first|(apply gY;exact aj;(exact G);(exact eh.mk ax (cJ.mk ax ax ax));intros)|refine' cY|fail);(all_goals first|((refine' aC);rfl;done)|skip);all_goals(exfalso;obtain hb|⟨hb1,T⟩:=j<;>first|omega|(simp_all;done))
   have GX:w≠[]:=λhb=>j (.inl hb);(have T:¬((i:Int)+1<(Y q:Int)/\Y w≠128):=λhb=>j (.inr hb));rw[af (by simp only[km,ep,gv];exact j)] at k;(repeat' first|(apply gY;exact aj;(exact G);(exact eh.mk ax (cJ.mk ax ax ax));intros)|refine' cY|fail);(all_goals first|exact⟨_,aa,i+1,F,z++w,bd,ak,rfl,aa,by rw[dB];omega,k⟩|skip);all_goals(exfalso;first|omega|(simp_all;done))
  (have hi:i=Y q:=by omega);subst hi;rw[xC (by rw[fH];exact fG _)] at k;refine' iK;exact⟨F,z,bd,ak,aa,k⟩;rintro l L ⟨F,z,Z,hL,hzl,hm⟩;refine' gh;rw[hm];refine' qcy
section
variable {t t2:TypeId}
def Gb (b:Ev l x (H O n c))(k:∀n,K (.pointer O) L n n Z Z):WO E X Γ l (.call ⟨.builtin .unsafeSliceData,⟨[x]⟩,⟨[t]⟩⟩) L K:=λd s hl hi=>
 eM.pure (v:=.pointer O) (s':=s) (λcall=>by show pB (aM d x) s=_;rw[b.eval hl];rfl) ⟨L,Z,Z,hi,iS.id,k _⟩
def Gc {z:aw}(h:Y z=0)(d:Ev l x (.pointer O))(f:Ev l y (iv (Y z:Nat)))(k:∀n,K (sv []) L n n Z Z):WO E X Γ l (.call ⟨.builtin .unsafeString,⟨[x,y]⟩,⟨[t,t2]⟩⟩) L K:=λb s hl hi=>
 eM.pure (v:=sv []) (s':=s) (λcall=>by show lQ E [t,t2] (aM b x) (aM b y) s=_;rw[d.eval hl,f.eval hl,h];rfl) ⟨L,Z,Z,hi,iS.id,k _⟩
end
def N3 (s:St)(b:Nat)(p:aP)(c:Nat):Ht 54 [bk b] s (NW b p O c []) [] λR L=>R=sv []/\L=[]:=by
 refine a8 f54 ?_;dsimp only[NW];(repeat' first|(apply Gb;exact bN;intro _)|((with_reducible apply Gc (z:=([]:aw)));(exact rfl);exact bN;exact bN;intro _)|refine' eI|fail);all_goals try refine Dk
 all_goals exact⟨bK,_,_,bH,ak,rfl,rfl⟩
def iL (st:ae)(n:dX):Option aw:=if dE st n=J then C (a6 st n) else O
def agX (s:aw):Vj s [0]= !decide (kC s=s):=by
 have hr:s=s.reverse.reverse:=(List.reverse_reverse s).symm;cases hs:s.reverse with
 |nil=>rw[hs] at hr;subst hr;rfl
 |cons c r=>
  rw[hs,List.reverse_cons] at hr;generalize r.reverse=z at hr;subst hr;rw[HK];unfold Vj;have d:Y (z++[c])- [(0:UInt8)].length=Y z:=by simp
  rw[d,Ap];by_cases hc:c=0;subst hc;rw[ai rfl];have b:=Pg.LY z;(have f:kC z≠z++[0]:=λh=>by rw[h,dB] at b;simp at b;omega);simp[f];rw[af hc];simp[hc]
def z7 {st:ae}{n:dX}(h:cM n=U\/n.kind≠1\/Pg.dU st n.aO=O):iL st n=O:=by unfold iL;rw[af];intro hc;simp only[dE,ep,gv] at hc;obtain h|h|h:=h;rw[h] at hc;exact absurd hc.1.1.1 aq;exact h hc.1.1.2;have:=mM (st:=st) (t:=n.aO);rw[h,hc.1.2] at this;cases this
def Zq {st:ae}{n:dX}{l:cc}(h1:cM n=J)(h2:n.kind=1)(h:Pg.dU st n.aO=C l):iL st n=if dE.go n 0 (l.map (b0 st))=J then C (kM n.size 0 (l.map (b0 st)) []) else O:=by have b:=mM (st:=st) (t:=n.aO);rw[h] at b;obtain⟨_,_,d⟩:=Pg.ph h;unfold iL dE a6;rw[h1,<-b,d,h2];simp
def Zr {n:dX}(h:cM n=J)(d:n.kind=1){i:Nat}(hi:i<n.aO.many.toNat):1<=eC n.size i/\eC n.size i<=12:=by obtain⟨_,hs,hm,_⟩:=Pg.ef h;have b:eG 1=12:=rfl;unfold dT cV at hm;rw[d,b] at hm;split at hm;omega;unfold eC;omega
def N4 {n:dX}{k:Nat}{s:aw}{l:List aw}:dE.go n k (s::l)=(decide ((Y s:Int)<=eC n.size k)&&decide (kC s=s)&&dE.go n (k+1) l):=rfl
def N5 {size:Int}{k:Nat}{s:aw}{l:List aw}{out:aw}:kM size k (s::l) out=kM size (k+1) l (out++s++jt (eC size k-Y s)):=rfl
def QV {z:aw}{n:Int}(h:0<=n/\n<=12)(b:(Y z:Int)<=n):EM z n=C (z++jt (n-Y z)):=by unfold EM;rw[ai ⟨qN h,b⟩]
def QW {z:aw}{n:Int}(b:¬(Y z:Int)<=n):EM z n=O:=by unfold EM;rw[af λh=>b h.2]
def EY (s:St)(b:Nat)(v:SA)(st:ae)(h:cZ 100000 st)(h0:0<=st.dm)(n:dX)(hr:fh s b v st)(hn:dy s):bM 21 [bk b,nv n] s (mL b v++[5,1]) (.tuple ⟨[sv ((iL st n).getD []),M (iL st n).isSome]⟩):=by
 refine' zaa;have hd:lN ⟨s,([]:cq).flatMap It.bC,mL b v++[5,1]⟩:=lN.of hn aq aq;have B:=λs=>xn s n;have j:=λs hr hn=>sX s b v st h h0 n.aO hr hn;cases D:cM n with
 |false=>rw[D] at B;rw[z7 (.inl D)];refine a8 f21 ?_;(repeat' first|(apply ag;exact aj;(exact B);intros)|refine' nJ|fail)
 |true=>
  rw[D] at B;by_cases hk:n.kind=1;cases hl:Pg.dU st n.aO with
  |none=>rw[hl] at j;have hlv:∀s,fh s b v st->dy s->sW aZ aW 48 [bk b,tv n.aO] s (mL b v++[5,1]) 31 ([]:cc) U:=j;clear j;rw[z7 (.inr (.inr hl))];refine a8 f21 ?_;(repeat' first|(apply ag;exact aj;(exact B);intros)|(apply jP;exact aj;assumption;(exact hlv);(exact eh.mk ax (cJ.mk ax ax ax));intro _ _ Zp G u Z aez _ _)|refine' nJ|fail)
  |some q=>
   rw[hl] at j;have hlv:∀s,fh s b v st->dy s->sW aZ aW 48 [bk b,tv n.aO] s (mL b v++[5,1]) 31 q J:=j;clear j;obtain⟨hqa,hqn,ab6⟩:=oR h0 hl;rw[Zq D hk hl];obtain⟨_,wm,_⟩:=Pg.ef D;generalize hF:(if dE.go n 0 (q.map (b0 st))=J then C (kM n.size 0 (q.map (b0 st)) []) else O)=F;refine a8 f21 ?_;(repeat' first|(apply ag;exact aj;(exact B);intros)|(apply jP;exact aj;assumption;(exact hlv);(exact eh.mk ax (cJ.mk ax ax ax));intro _ _ Zp G u Z aez _ _)|refine' cY|fail);refine W.lO (α:=UInt8) (e:=5) ?_;refine W.bu (λm l L=>∃(i b3 b8 c:Nat)(pp Q:aP)(z:aw),Le [(0,bk b),(3,bk b3),(8,bk b8),(32,H Zp (Y q) (Y q)),(33,iv (Y q:Int)),(34,iv (i:Int))] l/\cb [.box b8 [.pointer pp,H Q (Y z) c] 110 U,.aU (H Q (Y z) c) 5 1 (ab z),.aU (H G (Y u) Z) 31 5 (ab u),.box b3 (jg n) 67 U] L/\m=Y q-i/\i<=Y q/\Y z<=3012*i/\i<=Y z/\(pp=O\/pp=C ⟨b8,0,O⟩)/\(c=0\/c=cl)/\(i=0->Q=O/\z=[])/\F=(if dE.go n i ((q.map (b0 st)).drop i)=J then C (kM n.size i ((q.map (b0 st)).drop i) z) else O))
                                       (λl L=>∃(b8 c:Nat)(pp Q:aP)(z:aw),Le [(8,bk b8)] l/\cb [.box b8 [.pointer pp,H Q (Y z) c] 110 U,.aU (H Q (Y z) c) 5 1 (ab z)] L/\Y z<=100000/\(c=0\/c=cl)/\(z=[]->Q=O)/\F=C z) (Y q) ⟨0,_,_,0,O,O,[],bd,ak,aa,aa,aq,aq,.inl rfl,.inl rfl,λ_=>⟨rfl,rfl⟩,hF.symm⟩ ?_ ?_
   rintro m l L ⟨i,b3,b8,c,pp,Q,z,Bk,hL,rfl,h1,hzl,hzi,hpp,hcc,hz0,d⟩;refine' cP;by_cases hi:i<Y q
   .have hpm:=a7 (show i<Y q by omega) au.ad;obtain⟨hqo,hqb⟩:=hqa _ hpm;have V:=λs hr=>u0 s b v st h (q.getD i au.ad) hqo hr;rw[xw] at V;have T:∀s,fh s b v st->bM 49 [bk b,pv (q.getD i au.ad)] s (mL b v) (.tuple ⟨[sv (b0 st (q.getD i au.ad)),M (dD st (q.getD i au.ad)).isSome]⟩):=V;clear V;have RM:=BZ h (q.getD i au.ad);(have hd1:(q.map (b0 st)).drop i=b0 st (q.getD i au.ad)::(q.map (b0 st)).drop (i+1):=by rw[<-Gq,<-Gq,qg q au.ad hi,lF]);rw[hd1,N4,N5] at d;generalize(dD st (q.getD i au.ad)).isSome=rb at T;generalize b0 st (q.getD i au.ad)=w at T d RM;obtain⟨aj4,ai2⟩:=Zr D hk (show i<n.aO.many.toNat by omega);(have agY:=λs=>F7 s n.size i aa aa);have k:=λs=>Ke s w [0] aa aq;rw[agX] at k;generalize hlg:eC n.size i=lo at *
    (have hmx:max 0 lo=lo:=by omega);rw[hmx] at agY;have hps:∀s,bM 51 [iv n.size,iv (i:Int)] s [] (iv lo):=agY;(have A:=λs=>F8 s w lo aa);by_cases hw:(Y w:Int)<=lo
    .rw[QV ⟨aa,ai2⟩ hw] at A;have Pe:∀s,bM 50 [sv w,iv lo] s [] (.tuple ⟨[sv (w++jt (lo-Y w)),M J]⟩):=A;(have TA:(Y (w++jt (lo-Y w)):Int)=lo:=by unfold jt;rw[dB,sk];omega);by_cases hcw:kC w=w
     .rw[show(!decide (kC w=w))=U by simp[hcw]] at k;have hsx:∀s,bM 52 [sv w,sv [0]] s [] (M U):=k;rw[show(decide ((Y w:Int)<=lo)&&decide (kC w=w)&&dE.go n (i+1) ((q.map (b0 st)).drop (i+1)))=dE.go n (i+1) ((q.map (b0 st)).drop (i+1)) by simp[hw,hcw]] at d;rw[iD] at d;generalize w++jt (lo-Y w)=wf at *
      (repeat' first|(apply gY;exact aj;(exact T);(exact eh.mk ax (cJ.mk ax ax ax));intros)|(apply ag;exact aj;(exact hps);intros)|(apply ag;exact aj;(exact Pe);intros)|(apply ag;exact aj;(exact hsx);intros)|(apply qe;exact aj;exact cK;(intro s;exact nE s _ _ _ _ _ _ (by first|assumption|exact .inr rfl) aT mv);intro _ _ N S t _ _)|refine' cY|fail);have cg:Y (z++wf)=Y z+Y wf:=dB;exact⟨_,aa,i+1,b3,b8,S,_,N,z++wf,bd,ak,rfl,aa,aa,aa,.inr rfl,t,λhx=>by omega,d⟩
     rw[show(!decide (kC w=w))=J by simp[hcw]] at k;have hsx:∀s,bM 52 [sv w,sv [0]] s [] (M J):=k;rw[af (by simp[hcw])] at d;rw[d];generalize w++jt (lo-Y w)=wf at *
     (repeat' first|(apply gY;exact aj;(exact T);(exact eh.mk ax (cJ.mk ax ax ax));intros)|(apply ag;exact aj;(exact hps);intros)|(apply ag;exact aj;(exact Pe);intros)|(apply ag;exact aj;(exact hsx);intros)|(apply qe;exact aj;exact cK;(intro s;exact nE s _ _ _ _ _ _ (by first|assumption|exact .inr rfl) aT mv);intro _ _ N S t _ _)|refine' nJ|fail)
    rw[QW hw] at A;have Pe:∀s,bM 50 [sv w,iv lo] s [] (.tuple ⟨[sv [],M U]⟩):=A;rw[af (by simp only[ep,gv];exact λhx=>hw hx.1.1)] at d;rw[d];(repeat' first|(apply gY;exact aj;(exact T);(exact eh.mk ax (cJ.mk ax ax ax));intros)|(apply ag;exact aj;(exact hps);intros)|(apply ag;exact aj;(exact Pe);intros)|(apply ag;exact aj;(exact hsx);intros)|(apply qe;exact aj;exact cK;(intro s;exact nE s _ _ _ _ _ _ (by first|assumption|exact .inr rfl) aT mv);intro _ _ N S t _ _)|refine' nJ|fail)
   (have hi:i=Y q:=by omega);subst hi;rw[xC (by rw[fH];exact fG _)] at d;refine' iK;exact⟨b8,c,pp,Q,z,bd,ak,aa,hcc,λhz=>(hz0 (by rw[hz] at hzi;simpa using hzi)).1,d⟩;rintro l L ⟨b8,c,pp,Q,z,Bk,hL,hzl,hcc,hz0,hm⟩;refine' gh;rw[hm];by_cases hz:z=[]
   .subst hz;obtain rfl:=hz0 rfl;(repeat' first|(apply xv;exact aj;exact cK;(intro s;exact N3 s _ _ _);intros)|refine' nJ|fail)
   have hz1:0<Y z:=wq.2 hz;(have hz2:Y z<=1000000:=by omega);(refine W.SM (a:=Q) (n:=Y z) (c:=c) (by exact dI _ ed) hz1 λGX=>?_);obtain rfl:=hcc.resolve_left GX;(repeat' first|(apply xv;exact aj;exact cK;(intro s;exact ET s _ _ _ _ aT aT);intros)|refine' nJ|fail)
  rw[z7 (.inr (.inl hk))];refine a8 f21 ?_;(repeat' first|(apply ag;exact aj;(exact B);intros)|refine' nJ|fail)
structure B0 where
 bf:Nat
 b:Nat
 v:SA
 st:ae
 t:bt
 aN:aP
 kN:Nat
 G:Ga
 bm:Nat
 M:List (Int×(aP×Nat×List az))
abbrev vE (x:aP×Nat×List az):Value:=H x.1 (Y x.2.2) x.2.1
abbrev fiC (P:B0):aV:=[.pointer (C ⟨P.b,0,O⟩),iv P.t.bU.row,iv P.t.bU.bE,iv P.t.bU.size,iv P.t.bU.sum,iv P.t.bU.level,iv P.t.depth,iv P.t.many,H P.aN (Y P.G) P.kN,.map (C P.bm)]
structure agZ (s:St)(bm:Nat)(M:List (Int×(aP×Nat×List az))):Prop where
 lt:bm<s.next
 mp:s.heap.get bm=some (.map (lq iv vE M))
structure l9 (s:St)(P:B0):Prop where
 sp:fh s P.b P.v P.st
 nm:dy s
 bx:bJ s (some ⟨P.bf,0,none⟩) 1 10 (fiC P)
 mp:agZ s P.bm P.M
 nd:Iq s P.aN P.G
 en:∀x∈P.M,bJ s x.2.1 x.2.2.2.length 2 (ab x.2.2.2)
def enA (M:List (Int×(aP×Nat×List az))):List Nat:=M.flatMap λx=>ah x.2.1
abbrev nD (P:B0):List Nat:=mL P.b P.v++([5,1]++([P.bf,P.bm]++(N2 P.aN P.G++enA P.M)))
section
variable {P:B0}{A:List Nat}
def sf (Γ:ng)(L:cq)(P:B0):Prop:=∀s,Inv Γ s L->l9 s P/\∀b∈nD P,qW Γ s b
def z8 (f:iu l xs vs)(d:sf Γ L P)(h:∀s,l9 s P->jA E X g vs s (nD P) r)(k:∀m b,gk L m->m<=b->K r L m b (iI (nD P) [] m b) (iJ [] m b)):WC E X Γ l g xs ts L K:=
 dZ f (λs hi=>⟨(d s hi).2,h s (d s hi).1⟩) k
def Row.move {a:aP}{n sz:Nat}{cs:aV}(h:bJ s a n sz cs)(d:∀b∈ah a,b∈A):Rd ⟨s,([]:cq).flatMap It.bC,A⟩ a n sz cs:=Rd.of h d
def ab9 {a:aP}{G:Ga}{b:Nat}(h:b∈ah a):b∈N2 a G:=im _ h
def aca {M:List (Int×(aP×Nat×List az))}{x:Int×(aP×Nat×List az)}{b:Nat}(d:x∈M)(h:b∈ah x.2.1):b∈enA M:=kZ.2 ⟨x,d,h⟩
structure jF (Γ:ng)(P:B0):Prop where
 r0:l9 Γ.s0 P
 A:∀b∈nD P,b∈Γ.A
 M:∀b∈nD P,b∉Γ.M
def jF.of (h:l9 s P)(d:∀b∈nD P,b∈A):jF ⟨s,([]:cq).flatMap It.bC,A⟩ P:=⟨h,d,λ_ _ h=>by cases h⟩
def jF.rd {a:aP}{n sz:Nat}{cs:aV}(h:jF Γ P)(hr:bJ Γ.s0 a n sz cs)(ha:∀b∈ah a,b∈nD P):Rd Γ a n sz cs:=⟨hr,λb hb=>h.A b (ha b hb),λb hb=>h.M b (ha b hb)⟩
def Kj {b:Nat}(h:b∈mL P.b P.v):b∈nD P:=im _ h
def Kk {b:Nat}(h:b∈[5,1]):b∈nD P:=dt _ (im _ h)
def Zs {b:Nat}(h:b∈[P.bf,P.bm]):b∈nD P:=dt _ (dt _ (im _ h))
def QX {b:Nat}(h:b∈N2 P.aN P.G):b∈nD P:=dt _ (dt _ (dt _ (im _ h)))
def aeC {b:Nat}(h:b∈enA P.M):b∈nD P:=dt _ (dt _ (dt _ (dt _ h)))
def jF.bx (h:jF Γ P):Rd Γ (C ⟨P.bf,0,O⟩) 1 10 (fiC P):=h.rd h.r0.bx λb hb=>by simp[ah] at hb;subst hb;exact Zs aq
def jF.b (h:jF Γ P):Rd Γ (C ⟨P.b,0,O⟩) 1 8 (lL P.v P.st):=h.rd h.r0.sp.b λb hb=>by simp[ah] at hb;subst hb;exact Kj aq
def jF.rr (h:jF Γ P):Rd Γ P.v.r 64 1 (ab P.st.dV):=h.rd h.r0.sp.w.r λb hb=>Kj (dI _ (uO hb))
def jF.rf (h:jF Γ P):Rd Γ P.v.f 64 1 (ab P.st.aI):=h.rd h.r0.sp.w.f λb hb=>Kj (dI _ (uP hb))
def jF.la (h:jF Γ P):Rd Γ P.v.l 64 1 (ab P.st.bW):=h.rd h.r0.sp.w.l λb hb=>Kj (dI _ (uQ hb))
def jF.hs (h:jF Γ P):eh Γ L P.b P.v P.st:=⟨.rd h.b,⟨.rd h.rr,.rd h.rf,.rd h.la⟩⟩
def jF.nm (h:jF Γ P):lN Γ:=⟨h.r0.nm,h.A 5 (Kk aq),h.A 1 (Kk aq),h.M 5 (Kk aq),h.M 1 (Kk aq)⟩
def jF.nr (h:jF Γ P):Rd Γ P.aN (Y (P.G.map dR)) 1 (ab (P.G.map dR)):=h.rd h.r0.nd.row λb hb=>QX (ab9 hb)
def jF.nd (h:jF Γ P){b:Nat}{n:dX}(hm:C (b,n)∈P.G):Rd Γ (ko b) 1 10 (jg n):=h.rd (h.r0.nd.nd b n hm) λi hi=>by simp[ah] at hi;subst hi;exact QX (SN hm)
def jF.en (h:jF Γ P){x:Int×(aP×Nat×List az)}(hm:x∈P.M):Rd Γ x.2.1 (Y x.2.2.2) 2 (ab x.2.2.2):=h.rd (h.r0.en x hm) λb hb=>aeC (aca hm hb)
def jF.map (h:jF Γ P)(hi:Inv Γ s L):agZ s P.bm P.M/\qW Γ s P.bm:=by have hle:=hi.le;have h0:=h.r0.mp.lt;have hm:P.bm∈nD P:=Zs aq;exact⟨⟨aa,by rw[hi.fr P.bm h0 (h.M _ hm)];exact h.r0.mp.mp⟩,aa,.inl (h.A _ hm)⟩
def N6 {a:aP}{G:Ga}(h1:∀b∈ah a,qW Γ s b)(h2:∀b n,C (b,n)∈G->qW Γ s b):∀b∈N2 a G,qW Γ s b:=λb hb=>by
 obtain hb|hb:=cG.1 hb;exact h1 b hb;obtain⟨o,d,hb⟩:=kZ.1 hb;cases o with
 |none=>simp at hb
 |some x=>obtain⟨c,n⟩:=x;simp at hb;subst hb;exact h2 b n d
def adp (h1:∀b∈mL P.b P.v,qW Γ s b)(h2:∀b∈([5,1]:List Nat),qW Γ s b)(i:qW Γ s P.bf)(j:qW Γ s P.bm)(d:∀b∈N2 P.aN P.G,qW Γ s b)(f:∀x∈P.M,∀b∈ah x.2.1,qW Γ s b):∀b∈nD P,qW Γ s b:=λb hb=>by obtain hb|hb:=cG.1 hb;exact h1 b hb;obtain hb|hb:=cG.1 hb;exact h2 b hb;obtain hb|hb:=cG.1 hb;simp at hb;obtain rfl|rfl:=hb<;>assumption;obtain hb|hb:=cG.1 hb;exact d b hb;obtain⟨x,h,hb⟩:=kZ.1 hb;exact f x h b hb
def jF.has (h:jF Γ P):sf Γ L P:=λs hi=>
 have hb:=(ga.rd h.bx (L:=L)).row hi;have hm:=h.map hi;have hn:=(ga.rd h.nr (L:=L)).row hi
 ⟨⟨(h.hs.row hi).1,(h.nm.row hi).1,hb.1,hm.1,⟨hn.1,λb n hm=>((ga.rd (h.nd hm) (L:=L)).row hi).1⟩,λx d=>((ga.rd (h.en d) (L:=L)).row hi).1⟩,
  adp (h.hs.row hi).2 (h.nm.may hi) (hb.2 _ (by simp[ah])) hm.2 (N6 hn.2 λb n hm=>((ga.rd (h.nd hm) (L:=L)).row hi).2 b (by simp[ah])) λx d=>((ga.rd (h.en d) (L:=L)).row hi).2⟩
def Ba (Γ:ng)(L:cq)(a:aP)(G:Ga):Prop:=∀s,Inv Γ s L->Iq s a G/\∀b∈N2 a G,qW Γ s b
def jF.mU (h:jF Γ P):Ba Γ L P.aN P.G:=λs hi=>⟨(h.has s hi).1.nd,λb hb=>(h.has s hi).2 b (QX hb)⟩
def oe {a:aP}{G:Ga}(f:iu l xs vs)(d:Ba Γ L a G)(h:∀s,Iq s a G->jA E X g vs s (N2 a G) r)(k:∀m b,gk L m->m<=b->K r L m b (iI (N2 a G) [] m b) (iJ [] m b)):WC E X Γ l g xs ts L K:=
 dZ f (λs hi=>⟨(d s hi).2,h s (d s hi).1⟩) k
def Vs {x y:Operand}{t:TypeId}{k:Int}{kt e:TypeId}{kd:TypeDesc}(hd:jF Γ P)(h1:iE E t=C (.map kt e))(h2:iE E kt=C kd)(B:∀k:Int,wA E kt kd (iv k)=J)(D:zero E e=C (ew))(F:Ev l x (.map (C P.bm)))(G:Ev l y (iv k))
  (h:∀n,K (vE ((cO P.M k).getD (O,0,[]))) L n n (λi=>i=P.bm) Z):WO E X Γ l (.lookup t x y U) L K:=λu s hl hi=>by obtain⟨j,f⟩:=hd.map hi;refine eM.pure (v:=vE ((cO P.M k).getD (O,0,[]))) (s':=s.aL P.bm) (λcall=>?_) ⟨L,(λi=>i=P.bm),Z,hi.aL f,cH f.1 rfl,by rw[bh];exact h _⟩;show u7 E s t (aM u x) (aM u y) U=_;rw[F.eval hl,G.eval hl];exact C0 (kf:=iv) (vf:=vE) (m:=P.M) (d:=(O,0,[])) (b:=P.bm) h1 h2 (B k) D LK rfl rfl j.mp U
def wk (M:List (Int×(aP×Nat×List az))):cq:=M.reverse.flatMap λx=>[.aU (H x.2.1 (Y x.2.2.2) x.2.2.1) 100 2 (ab x.2.2.2)]
def QY (M:List (Int×(aP×Nat×List az)))(k:Int)(a:aP)(c:Nat)(es:List az):wk (M++[(k,a,c,es)])= .aU (H a (Y es) c) 100 2 (ab es)::wk M:=by simp[wk]
def Z7 (P:B0):cq:=.box P.bf (fiC P) 73 U:: .iC P.bm (.map (lq iv vE P.M)):: .aU (H P.aN (Y P.G) P.kN) 68 1 (ab (P.G.map dR))::(wk P.M++jh P.G)
def sY {G:Ga}{b:Nat}{n:dX}(h:C (b,n)∈G):It.box b (jg n) 67 U∈jh G:=kZ.2 ⟨_,List.mem_reverse.2 h,by simp[ab8]⟩
def Iu {M:List (Int×(aP×Nat×List az))}{x:Int×(aP×Nat×List az)}(h:x∈M):It.aU (H x.2.1 (Y x.2.2.2) x.2.2.1) 100 2 (ab x.2.2.2)∈wk M:=kZ.2 ⟨_,List.mem_reverse.2 h,aq⟩
def Ba.items {a:aP}{k:Nat}{G:Ga}(h1:It.aU (H a (Y G) k) 68 1 (ab (G.map dR))∈L)(h2:∀x∈jh G,x∈L):Ba Γ L a G:=λs hi=>by have hr:ga Γ L a (Y (G.map dR)) 1 (ab (G.map dR)):=.aU (by rwa[fH]);have hb:∀b n,C (b,n)∈G->ga Γ L (ko b) 1 10 (jg n):=λb n hm=>.box (h2 _ (sY hm)) rfl rfl;exact⟨⟨(hr.row hi).1,λb n hm=>((hb b n hm).row hi).1⟩,N6 (hr.row hi).2 λb n hm=>((hb b n hm).row hi).2 b (by simp[ah])⟩
def sf.items (hs:eh Γ L P.b P.v P.st)(hn:lN Γ)(h1:It.box P.bf (fiC P) 73 U∈L)(h2:It.iC P.bm (.map (lq iv vE P.M))∈L)(h:It.aU (H P.aN (Y P.G) P.kN) 68 1 (ab (P.G.map dR))∈L)(i:∀x∈jh P.G,x∈L)(j:∀x∈wk P.M,x∈L):sf Γ L P:=λs hi=>by have hb:ga Γ L (C ⟨P.bf,0,O⟩) 1 10 (fiC P):=.box h1 rfl rfl;have mU:=Ba.items h i s hi;have hm:=hi.may h2 (b:=P.bm) (by simp[It.bC]);have f:∀x∈P.M,ga Γ L x.2.1 (Y x.2.2.2) 2 (ab x.2.2.2):=λx d=>.aU (j _ (Iu d));exact⟨⟨(hs.row hi).1,(hn.row hi).1,(hb.row hi).1,⟨hm.1,hi.it _ h2⟩,mU.1,λx d=>((f x d).row hi).1⟩,adp (hs.row hi).2 (hn.may hi) ((hb.row hi).2 _ (by simp[ah])) hm mU.2 λx d=>((f x d).row hi).2⟩
end
def Ge (s:St)(a:aP)(c:Nat)(p:List az)(Z:Y p<=3000)(hn:∀e∈p,Y e.name<=100000)(hr:bJ s a (Y p) 2 (ab p)):bM 148 [H a (Y p) c] s (ah a) (M (bg p)):=by
 have hd:=Rd.of hr (A:=ah a) λb hb=>hb;refine a8 f148 ?_;refine' iK;refine W.bu (λk l L=>∃(i:Nat),Le [(0,H a (Y p) c),(5,H a (Y p) c),(6,iv (Y p:Int)),(7,iv (i:Int))] l/\cb [] L/\k=Y p-i/\i<=Y p/\(p.take i).all pU=J/\lV (p.take i)=J) (λl L=>Le [(0,H a (Y p) c)] l/\cb [] L/\p.all pU=J/\lV p=J) _ ⟨0,bd,ak,rfl,aa,rfl,rfl⟩ ?_ ?_
 .rintro k l L ⟨i,hl,V,rfl,Q,u,v⟩;refine' cP;by_cases hi:i<Y p;have hb:=hn _ (a7 hi au.ad);have T:=Sq au.ad hi;have G:=ME au.ad hi;have f:=λs=>H5 s (p.getD i au.ad).name hb;(have d:=λs=>vq s (p.getD i au.ad).id 1 15);(have S:((i:Int)-1).toNat=i-1:=by omega);cases D:bG (p.getD i au.ad).name with
  |false=>rw[D] at f;have j:=f;clear f d;have B:bg p=U:=BU au.ad hi (by unfold pU;rw[D];rfl);rw[B];(repeat' first|(apply ag;exact aj;(exact j);intros)|refine' nJ|fail)
  |true=>
   rw[D] at f;have j:=f;clear f;cases F:fI (p.getD i au.ad).id 1 15 with
   |false=>rw[F] at d;have t:=d;clear d;have B:bg p=U:=BU au.ad hi (by unfold pU;rw[D,F];rfl);rw[B];(repeat' first|(apply ag;exact aj;(exact j);intros)|(apply ag;exact aj;(exact t);intros)|refine' nJ|fail)
   |true=>rw[F] at d;have t:=d;clear d;(have N:(p.take (i+1)).all pU=J:=by rw[T,u];unfold pU;rw[D,F];rfl);(repeat' first|(apply ag;exact aj;(exact j);intros)|(apply ag;exact aj;(exact t);intros)|refine' cY|fail);rw[qJ,S] at ki;refine' aC;rw[MF (i:=i+1) (p:=p) (by rw[G,v,ki];simp;omega)];rfl;rw[qJ,S] at ki;exact⟨_,aa,i+1,bd,ak,rfl,aa,N,by rw[G,v,ki];simp⟩;exact⟨_,aa,i+1,bd,ak,rfl,aa,N,by rw[G,v];simp;omega⟩
  have hi:i=Y p:=by omega
  subst hi;rw[lG] at u v;refine' iK;all_goals exact⟨bd,ak,u,v⟩
 rintro l L ⟨hl,V,Q,u⟩;refine' gh;have B:bg p=decide (Y p<=12):=by unfold bg;rw[u];show(p.all pU&&J&&_)=_;rw[Q];rfl
 rw[B];refine' iK;all_goals refine' aC
 all_goals(refine congrArg Value.bool ?_;rw[tT];omega)
def N7:∀(l:List az),∀e∈l,Y e.name<=Y (aR l)
 |[],e,b=>by cases b
 |x::l,e,b=>by rw[Pg.jB];simp only[dB,fS];obtain rfl|b:=cA.1 b;omega;have:=N7 l e b;omega
def EZ (s:St)(z:aw)(hz:Y z<=100000)(hr:dy s):et aZ aW 86 [sv z] s [5,1] 100 ((df z).getD []) (df z).isSome:=by
 have hd:lN ⟨s,([]:cq).flatMap It.bC,[5,1]⟩:=lN.of hr aq aq;refine a8 f86 ?_;refine W.lO (α:=az) (e:=100) ?_;refine W.lO (α:=az) (e:=100) ?_;refine' iK;refine W.bu (λk l L=>∃(rest:aw)(out:List az)(a:aP)(c:Nat),Le [(4,H a (Y out) c),(5,sv rest)] l/\cb [.aU (H a (Y out) c) 100 2 (ab out),.aU (ew) 100 2 (ab ([]:List az))] L/\k=Y rest/\Pg.EG z rest out) (λl L=>∃(out:List az)(a:aP)(c:Nat),Le [(4,H a (Y out) c)] l/\cb [.aU (H a (Y out) c) 100 2 (ab out),.aU (ew) 100 2 (ab ([]:List az))] L/\Pg.EG z [] out) _ ⟨z,[],O,0,bd,ak,rfl,Pg.EG.start z⟩ ?_ ?_
 .rintro k l L ⟨rest,out,a,c,S,hL,rfl,t⟩;refine' cP;have hrl:Y rest<=Y z:=by have:=congrArg List.length t.eq;rw[dB] at this;omega
  have hol:=t.len;by_cases D:rest=[]
  .subst D;refine' iK;all_goals exact⟨out,a,c,bd,ak,t⟩
  have j:=λs=>QH s rest 59 aa;have Tc:=Pg.BX 59 rest;(have b:=λs=>QH s (Pg.eb 59 rest) 61 aa);(have d:=λs=>ia s (Pg.lD 61 (Pg.eb 59 rest)));have V:=Pg.BX 61 (Pg.eb 59 rest);by_cases F:Y (Pg.eb 59 rest)<Y rest
  .rw[gZ F] at j;have A:=j;clear j;by_cases v:Y (Pg.eb 61 (Pg.eb 59 rest))<Y (Pg.eb 59 rest);rw[gZ v] at b;have i:=b;clear b;cases hn:aA (Pg.lD 61 (Pg.eb 59 rest)) with
   |none=>rw[hn] at d;have u:∀s,dy s->bM 146 [sv (Pg.lD 61 (Pg.eb 59 rest))] s [5,1] (.tuple ⟨[iv 0,M U]⟩):=d;clear d;rw[t.fail D (.inr (.inr (.inl hn)))];(repeat' first|(apply ag;exact aj;(exact A);intros)|(apply ag;exact aj;(exact i);intros)|(apply bq;exact aj;assumption;(exact u);intros)|refine' cY|fail);all_goals exact⟨bK,_,[.aU (ew) 100 2 (ab ([]:List az))],bH,ak,O,0,rfl,rfl⟩
   |some n=>
    rw[hn] at d;have u:∀s,dy s->bM 146 [sv (Pg.lD 61 (Pg.eb 59 rest))] s [5,1] (.tuple ⟨[iv (n:Nat),M J]⟩):=d;clear d;have hn9:=(Pg.hZ hn).2;by_cases N:Y out<12
    .have T:=t.step F v hn N;(have G:Y (Pg.lD 59 rest)<Y rest:=by unfold Pg.lD;rw[fq];omega);(repeat' first|(apply ag;exact aj;(exact A);intros)|(apply ag;exact aj;(exact i);intros)|(apply bq;exact aj;assumption;(exact u);intros)|(apply ag;exact aj;exact λs=>NO s _ (by first|omega|(rw[de];omega));intros)|refine' cY|fail);all_goals exact⟨_,G,Pg.lD 59 rest,out++[⟨Pg.eb 61 (Pg.eb 59 rest),n⟩],_,_,bd,ak,rfl,T⟩
    rw[t.fail D (.inr (.inr (.inr aa)))];(repeat' first|(apply ag;exact aj;(exact A);intros)|(apply ag;exact aj;(exact i);intros)|(apply bq;exact aj;assumption;(exact u);intros)|refine' cY|fail);all_goals exact⟨bK,_,[.aU (ew) 100 2 (ab ([]:List az))],bH,ak,O,0,rfl,rfl⟩
   rw[kX v] at b;have i:=b;clear b;have u:=d;clear d;rw[t.fail D (.inr (.inl v))];(repeat' first|(apply ag;exact aj;(exact A);intros)|(apply ag;exact aj;(exact i);intros)|(apply bq;exact aj;assumption;(exact u);intros)|refine' cY|fail);all_goals exact⟨bK,_,[.aU (ew) 100 2 (ab ([]:List az))],bH,ak,O,0,rfl,rfl⟩
  rw[kX F] at j;have A:=j;clear j;have i:=b;clear b;have u:=d;clear d;rw[t.fail D (.inl F)];(repeat' first|(apply ag;exact aj;(exact A);intros)|(apply ag;exact aj;(exact i);intros)|(apply bq;exact aj;assumption;(exact u);intros)|refine' cY|fail);all_goals exact⟨bK,_,[.aU (ew) 100 2 (ab ([]:List az))],bH,ak,O,0,rfl,rfl⟩
 rintro l L ⟨out,a,c,S,hL,Q⟩;refine' gh;have hle:Y (aR out)<=Y z:=by have:=congrArg List.length Q.eq;rw[dB] at this;omega
 have f:=λs a c hr=>Ge s a c out (by have:=Q.len;omega) (λe h=>by have:=N7 out e h;omega) hr;rw[Q.done];cases Z:bg out with
 |true=>rw[Z] at f;have B:=f;clear f;rw[ai rfl];(repeat' first|(apply dG;exact aj;(intro s hr;exact B s _ _ hr);exact ax;intros)|refine' cY|fail);(all_goals refine' eu);all_goals rfl
 |false=>rw[Z] at f;have B:=f;clear f;rw[af B3];(repeat' first|(apply dG;exact aj;(intro s hr;exact B s _ _ hr);exact ax;intros)|refine' cY|fail);all_goals exact⟨bK,_,[.aU (ew) 100 2 (ab ([]:List az))],bH,ak,O,0,rfl,rfl⟩
end Go.Pl
namespace Go.Pg
open Go.Pl
variable {k j:Nat}{p r:List az}{e:az}
def jQ (G:Gr)(k:Nat):Prop:=∃e,G k=C e/\e.n.kind=2
def E0 (G:Gr)(l:List Nat)(j:Nat):Nat:=(l.map λa=>cE j (aY G a)).sum
def vy (f:Nat->Nat){n:Nat}:∀(l:List Nat),l.Nodup->(∀a∈l,a<n)->((List.range n).map f).sum=(l.map f).sum+((List.range n).map λk=>if k∈l then 0 else f k).sum
 |[],_,_=>by simp
 |a::l,hn,ha=>by rw[tM] at hn;have ih:=vy f l hn.2 λb hb=>ha b (by simp[hb]);have d:=JE (λk=>if k∈a::l then 0 else f k) (λk=>if k∈l then 0 else f k) a (λk g=>by by_cases hl:k∈l;rw[ai hl,ai (by simp[hl])];rw[af hl,af (by simp[hl,g])]) n;have c:=ha a aq;rw[ai c,ai c] at d;simp only[cA,true_or,iO,hn.1,ib] at d;rw[lF,xO,ih];simp only[cA];omega
def QZ {G:Gr}(hi:∀k,16<=k->G k=O)(h:jQ G k):k<16:=by obtain⟨e,a,_⟩:=h;obtain h|h:=jc k 16;exact h;rw[hi k h] at a;cases a
def acb {G:Gr}{l:List Nat}(hn:l.Nodup)(hl:∀a∈l,a<16)(j:Nat):E0 G l j<=gF G j:=by unfold E0 gF;rw[vy (λa=>cE j (aY G a)) l hn hl];omega
def SO {G:Gr}{l:List Nat}(hn:l.Nodup)(hl:∀a∈l,a<16)(j:Nat)(h0:∀k,k∉l->aY G k=[]):E0 G l j=gF G j:=by
 unfold E0 gF;rw[vy (λa=>cE j (aY G a)) l hn hl];have:((List.range 16).map λk=>if k∈l then 0 else cE j (aY G k)).sum=0:=by
  have c:∀n:Nat,((List.range n).map λk=>if k∈l then 0 else cE j (aY G k)).sum=0:=λn=>by
   induction n with
   |zero=>rfl
   |succ n ih=>rw[xN,qR,GK,ih];by_cases b:n∈l;simp[b];simp[b,h0 n b,cE]
  exact c 16
 omega
def N8 (G:Gr)(l:List Nat)(k j:Nat):E0 G (l++[k]) j=E0 G l j+cE j (aY G k):=by unfold E0;simp
def Q0 (j:Nat)(l r:List az):cE j (l++r)=cE j l+cE j r:=by unfold cE;rw[Ag]
def SP (j:Nat)(e:az):cE j [e]=if e.id.toNat=j then 1 else 0:=by unfold cE;simp[tF]
def Q1 {l:List az}{x:az}(h:x∈l)(a:x.id.toNat=j):0<cE j l:=by unfold cE;rw[tN];exact⟨x,h,by simpa using a⟩
def N9 {G:Gr}{l:List Nat}{a j:Nat}(ha:a∈l)(h:0<cE j (aY G a)):0<E0 G l j:=by
 unfold E0;induction l with
 |nil=>cases ha
 |cons b l ih=>rw[lF,xO];obtain rfl|ha:=cA.1 ha;omega;have:=ih ha;omega
structure Gw (G:Gr):Prop where
 wf:∀k e,G k=some e->R0 e
 hi:∀k,16<=k->G k=none
 bU:∃e,G 0=some e/\e.n.kind=2
structure BJ (G:Gr)(done:List Nat)(k:Nat)(todo:List Nat)(p:List az)(m:Nat->Nat):Prop where
 nd:(done++k::todo).Nodup
 rt:0∈done++k::todo
 dir:∀i∈done++k::todo,jQ G i
 ct:∀j,m j=E0 G done j+cE j p
 me:∀j,jQ G j->j≠0->(j∈done++k::todo↔0<m j)
 one:∀j,jQ G j->m j<=1
 ids:∀a∈done,∀x∈aY G a,∃e,G x.id.toNat=some e
 idp:∀x∈p,∃e,G x.id.toNat=some e
 ord:∃d:Nat->Nat,(∀a∈done,∀x∈aY G a,jQ G x.id.toNat->d a<d x.id.toNat)/\∀x∈p,jQ G x.id.toNat->d k<d x.id.toNat
structure BI (G:Gr)(done todo:List Nat)(m:Nat->Nat):Prop where
 nd:(done++todo).Nodup
 rt:0∈done++todo
 dir:∀i∈done++todo,jQ G i
 ct:∀j,m j=E0 G done j
 me:∀j,jQ G j->j≠0->(j∈done++todo↔0<m j)
 one:∀j,jQ G j->m j<=1
 ids:∀a∈done,∀x∈aY G a,∃e,G x.id.toNat=some e
 ord:∃d:Nat->Nat,∀a∈done,∀x∈aY G a,jQ G x.id.toNat->d a<d x.id.toNat
def BI.start {G:Gr}(h:Gw G):BI G [] [0] (λ_=>0):=
 ⟨aq,aq,λi hi=>by simp at hi;subst hi;exact h.bU,λj=>rfl,λj _ h0=>by simp[h0],λ_ _=>jl _,λa ha=>(by cases ha),⟨λ_=>0,λa ha=>by cases ha⟩⟩
def BI.first {G:Gr}{done todo:List Nat}{m:Nat->Nat}(h:BI G done (k::todo) m):BJ G done k todo [] m:=
 ⟨h.nd,h.rt,h.dir,λj=>by rw[h.ct j];rfl,h.me,h.one,h.ids,λx a=>(by cases a),let⟨d,hd⟩:=h.ord;⟨d,hd,λx a=>by cases a⟩⟩
def BJ.bW {G:Gr}{done todo:List Nat}{m:Nat->Nat}(h:BJ G done k todo (aY G k) m):BI G (done++[k]) todo m:=by
 have e:(done++[k])++todo=done++k::todo:=by simp
 refine⟨by rw[e];exact h.nd,by rw[e];exact h.rt,by rw[e];exact h.dir,λj=>by rw[h.ct j,N8],by rw[e];exact h.me,h.one,λa ha=>?_,?_⟩;rcases cG.1 ha with ha|ha;exact h.ids a ha;rw[gI] at ha;subst ha;exact h.idp;obtain⟨d,b,c⟩:=h.ord;refine⟨d,λa ha=>?_⟩;obtain ha|ha:=cG.1 ha;exact b a ha;rw[gI] at ha;subst ha;exact c
def bump (m:Nat->Nat)(i:Nat):Nat->Nat:=λj=>if j=i then m j+1 else m j
def BJ.file {G:Gr}{done todo:List Nat}{m:Nat->Nat}(h:BJ G done k todo p m)(l:∃r,G e.id.toNat=C r)(f:¬jQ G e.id.toNat):BJ G done k todo (p++[e]) (bump m e.id.toNat):=by
 have c:∀j,jQ G j->bump m e.id.toNat j=m j:=λj b=>af (by rintro rfl;exact f b);refine⟨h.nd,h.rt,h.dir,λj=>?_,λj b h0=>by rw[c j b];exact h.me j b h0,λj b=>by rw[c j b];exact h.one j b,h.ids,λx a=>?_,?_⟩;rw[Q0,SP];unfold bump;have:=h.ct j;by_cases b:j=e.id.toNat;rw[ai b,ai b.symm];omega;rw[af b,af (λh=>b h.symm)];omega;rcases cG.1 a with a|a;exact h.idp x a;rw[gI] at a;subst a;exact l
 obtain⟨d,g,i⟩:=h.ord;refine⟨d,g,λx a hd=>?_⟩;obtain a|a:=cG.1 a;exact i x a hd;rw[gI] at a;subst a;exact absurd hd f
def BJ.Zt {G:Gr}{done todo:List Nat}{m:Nat->Nat}(h:BJ G done k todo p m)(u:jQ G e.id.toNat)(h1:e.id.toNat≠0)(hm:¬1<m e.id.toNat+1):BJ G done k (todo++[e.id.toNat]) (p++[e]) (bump m e.id.toNat):=by
 have h0:m e.id.toNat=0:=by omega
 have n:e.id.toNat∉done++k::todo:=λhc=>by have:=(h.me _ u h1).1 hc;omega
 have el:done++k::(todo++[e.id.toNat])=(done++k::todo)++[e.id.toNat]:=by simp
 refine⟨?_,?_,λi hi=>?_,λj=>?_,λj l t=>?_,λj l=>?_,h.ids,λx c=>?_,?_⟩;rw[el,vD];refine⟨h.nd,aq,λa ha b hb=>?_⟩;rw[gI] at hb;subst hb;rintro rfl;exact n ha;rw[el];exact im _ h.rt;rw[el] at hi;obtain hi|hi:=cG.1 hi;exact h.dir i hi;rw[gI] at hi;subst hi;exact u;rw[Q0,SP];unfold bump;have:=h.ct j;by_cases l:j=e.id.toNat;rw[ai l,ai l.symm];omega;rw[af l,af (λh=>l h.symm)];omega;rw[el,cG,gI];unfold bump;by_cases f:j=e.id.toNat;simp[f];rw[af f];simp only[f,k7];exact h.me j l t;unfold bump;by_cases f:j=e.id.toNat;rw[ai f,f,h0];exact fG _;rw[af f];exact h.one j l;rcases cG.1 c with c|c;exact h.idp x c;rw[gI] at c;subst c;obtain⟨r,hr,_⟩:=u;exact⟨r,hr⟩;obtain⟨d,q,s⟩:=h.ord;refine⟨λi=>if i=e.id.toNat then d k+1 else d i,λa ha x g hd=>?_,λx g hd=>?_⟩;have o:a≠e.id.toNat:=by rintro rfl;exact n (im _ ha)
 have c:x.id.toNat≠e.id.toNat:=λhc=>by have:=N9 ha (Q1 g hc);have:=h.ct e.id.toNat;omega
 dsimp only;rw[af o,af c];exact q a ha x g hd;have v:k≠e.id.toNat:=by rintro rfl;exact n (dt _ aq)
 dsimp only;rw[af v];obtain g|g:=cG.1 g;have c:x.id.toNat≠e.id.toNat:=λhc=>by have:=Q1 g hc;have:=h.ct e.id.toNat;omega
 rw[af c];exact s x g hd;rw[gI] at g;subst g;rw[ai rfl];omega
def BJ.none {G:Gr}{done todo:List Nat}{m:Nat->Nat}(h:BJ G done k todo p m)(c:aY G k=p++e::r)(d:G e.id.toNat=O):¬Gd G:=λb=>by obtain⟨x,a⟩:=b.ids k e (by rw[c];simp);rw[d] at a;cases a
def BJ.ag0 {G:Gr}{done todo:List Nat}{m:Nat->Nat}(h:BJ G done k todo p m)(q:Gw G)(i:aY G k=p++e::r)(l:jQ G e.id.toNat)(h1:e.id.toNat≠0)(hm:1<m e.id.toNat+1):¬Gd G:=λd=>by
 obtain⟨x,f,c⟩:=l;have hl:=d.lk _ x h1 f;have o:x.n.aX=1:=by obtain⟨b,_⟩|⟨_,_,b⟩:=d.wf _ x f;rw[c] at b;cases b;exact b
 have mU:(done++[k]).Nodup:=by
  have:=h.nd;have g:done++k::todo=(done++[k])++todo:=by simp
  rw[g] at this;exact(vD.1 this).1
 have hle:=acb (G:=G) mU (λa ha=>QZ q.hi (h.dir a (by obtain ha|ha:=cG.1 ha;exact im _ ha;rw[gI] at ha;subst ha;exact dt _ aq))) e.id.toNat;rw[N8,i,Q0] at hle;have s:0<cE e.id.toNat (e::r):=Q1 (x:=e) aq rfl;have:=h.ct e.id.toNat;omega
def BI.fin {G:Gr}{done:List Nat}{m:Nat->Nat}(h:BI G done [] m)(z:Gw G):Gd G↔∀j e,j≠0->G j=C e->((m j:Nat):Int)=e.n.aX:=by
 have mU:done.Nodup:=by have:=h.nd;rwa [fT] at this
 have E:∀a∈done,a<16:=λa ha=>QZ z.hi (h.dir a (by rwa[fT]));have o:0∈done:=by have:=h.rt;rwa [fT] at this
 have F:∀j,jQ G j->j≠0->(j∈done↔0<m j):=λj R h0=>by have:=h.me j R h0;rwa [fT] at this
 have u:∀k,¬jQ G k->aY G k=[]:=λk i=>by
  unfold aY;cases S:G k with
  |none=>rfl
  |some e=>obtain⟨_,c,_⟩|⟨c,_⟩:=z.wf k e S;exact c;exact absurd ⟨e,S,c⟩ i
 constructor;intro y;obtain⟨d,hd⟩:=y.ac;have f:∀(n j:Nat),d j<=n->jQ G j->j∈done:=λn=>by
  induction n with
  |zero=>intro j R t;by_cases h0:j=0;subst h0;exact o;exfalso;obtain⟨e,q,i⟩:=t;have hl:=y.lk j e h0 q;(have D:e.n.aX=1:=by obtain⟨c,_⟩|⟨_,_,c⟩:=y.wf _ e q;rw[i] at c;cases c;exact c);(have T:0<gF G j:=by omega);by_cases hex:∃a,0<cE j (aY G a);obtain⟨a,ha⟩:=hex;unfold cE at ha;rw[tN] at ha;obtain⟨x,s,w⟩:=ha;have K:=hd a x s;(have c:x.id.toNat=j:=by simpa using w);rw[c] at K;omega;(have:gF G j=0:=by refine' zaW);omega
  |succ n ih=>intro j R t;by_cases h0:j=0;subst h0;exact o;have A:=t;obtain⟨e,q,i⟩:=t;have hl:=y.lk j e h0 q;(have D:e.n.aX=1:=by obtain⟨c,_⟩|⟨_,_,c⟩:=y.wf _ e q;rw[i] at c;cases c;exact c);by_cases hex:∃a,0<cE j (aY G a);obtain⟨a,ha⟩:=hex;have L:=ha;unfold cE at ha;rw[tN] at ha;obtain⟨x,s,w⟩:=ha;have K:=hd a x s;(have c:x.id.toNat=j:=by simpa using w);rw[c] at K;(have Q:jQ G a:=by obtain h|h:=Classical.em (jQ G a);exact h;rw[u a h] at s;cases s);have:=ih a aa Q;rw[F j A h0,h.ct j];exact N9 this L;exfalso;(have:gF G j=0:=by refine' zaW);omega
 intro j e h0 q;rw[<-y.lk j e h0 q,h.ct j,SO mU E j λk i=>u k λN=>i (f (d k) k (fG _) N)];intro hl;have f:∀k,k∉done->aY G k=[]:=λk i=>u k λ⟨e,q,B⟩=>by
  have h0:k≠0:=by rintro rfl;exact i o
  have K:=hl k e h0 q;have D:e.n.aX=1:=by obtain⟨c,_⟩|⟨_,_,c⟩:=z.wf _ e q;rw[B] at c;cases c;exact c
  exact i ((F k ⟨e,q,B⟩ h0).2 aa)
 refine⟨z.wf,z.hi,z.bU,λk x s=>?_,λj e h0 q=>?_,?_⟩;by_cases i:k∈done;exact h.ids k i x s;rw[f k i] at s;cases s;rw[<-hl j e h0 q,h.ct j,SO mU E j f];obtain⟨d,hd⟩:=h.ord;obtain⟨b,hb⟩:∃b,∀a,a∈done->d a<b:=by
  have:∀l:List Nat,∃b,∀a,a∈l->d a<b:=λl=>by
   induction l with
   |nil=>exact⟨0,λa ha=>by cases ha⟩
   |cons x l ih=>obtain⟨b,hb⟩:=ih;refine⟨b+d x+1,λa ha=>?_⟩;obtain rfl|ha:=cA.1 ha;omega;have:=hb a ha;omega
  exact this done
 refine⟨λk=>if k∈done then d k else b,λk x s=>?_⟩;have i:k∈done:=by obtain h|h:=Classical.em (k∈done);exact h;rw[f k h] at s;cases s
 dsimp only;rw[ai i];by_cases v:x.id.toNat∈done;rw[ai v];exact hd k i x s (h.dir _ (by rwa[fT]));rw[af v];exact hb k i
def BI.len {G:Gr}{done todo:List Nat}{m:Nat->Nat}(h:BI G done todo m)(c:Gw G):Y done+Y todo<=16:=by
 have hc:=vy (n:=16) (λ_=>1) (done++todo) h.nd λa ha=>QZ c.hi (h.dir a ha);have b:∀l:List Nat,(l.map λ_=>1).sum=Y l:=λl=>by induction l<;>simp_all<;>omega
 rw[b,b,V6,dB] at hc;omega
variable {st:ae}{t:bt}{n:Nat}{G:Gr}
def fF (st:ae)(t:bt):Gr:=λk=>match(bI st t).getD k O with
 |none=>O
 |some n=>C ⟨n,if n.kind=2 then(bc st n).getD [] else [],[]⟩
def nF {e:NE}(h:fF st t k=C e):(bI st t).getD k O=C e.n/\e.es=if e.n.kind=2 then(bc st e.n).getD [] else []:=by
 unfold fF at h;cases hn:(bI st t).getD k O with
 |none=>rw[hn] at h;cases h
 |some n=>rw[hn] at h;cases h;exact⟨rfl,rfl⟩
def og {n:dX}(h:(bI st t).getD k O=C n):fF st t k=C ⟨n,if n.kind=2 then(bc st n).getD [] else [],[]⟩:=by unfold fF;rw[h]
def y3 (h:(bI st t).getD k O=O):fF st t k=O:=by unfold fF;rw[h]
def mB {n:dX}(h:(bI st t).getD k O=C n):∃s,bY s=C n/\k<Y (bI st t):=by rw[eX] at h;by_cases a:k<Y (bI st t);rw[c8 a] at h;have hm:(bI st t)[k]∈bI st t:=B5 a;rw[lI] at h;rw[h] at hm;unfold bI at hm;obtain⟨s,_,hs⟩:=qj.1 hm;exact⟨s,hs,a⟩;rw[mQ aa] at h;cases h
def u1 (h:da st t=J):0<=t.many/\t.many<=16/\t.depth=bR t.many/\aQ t.bU=J:=by simp only[da,ep,gv,fI] at h;exact⟨h.1.1.1.1,h.1.1.1.2,h.1.1.2,h.1.2⟩
def Zu (st:ae)(t:bt):16<=Y (cv st t):=by unfold cv;rw[dB,iW];omega
def Iv (h:da st t=J):Y (fU st t)=t.many.toNat:=by have:=u1 h;have:=Zu st t;unfold fU;rw[fH,de];omega
def oh (h:da st t=J):Y (bI st t)=t.many.toNat/\Y (bI st t)<=16:=by have:=u1 h;unfold bI;rw[fH,Iv h];omega
def kk (st:ae)(t:bt)(k:Nat):(bj st t).getD k aK=((bI st t).getD k O).getD aK:=by
 unfold bj bI;rw[eX,eX,mP,mP];cases (fU st t)[k]? with
 |none=>rfl
 |some s=>cases bY s<;>rfl
def vz (st:ae)(t:bt):Y (bj st t)=Y (bI st t):=by unfold bj bI;simp
def mD {n:dX}(h:cM n=J):(n.kind=1\/n.kind=2)/\1<=n.aX/\n.aX<=9/\(n.kind=2->n.aX=1):=by obtain⟨b,_,_,_,_,_,hl,_⟩:=ef h;refine⟨b,hl.1,hl.2,λa=>?_⟩;simp only[cM,ep,fI,a,iO,gv] at h;omega
structure gD (st:ae)(t:bt):Prop where
 bU:∃n,(bI st t).getD 0 none=some n/\n.kind=2
 each:∀k n,(bI st t).getD k none=some n->(n.kind=1->dE st n=true)/\(n.kind=2->(bc st n).isSome=true)
def iM (st:ae)(t:bt):Prop:=dL st t=J/\gD st t/\Gd (fF st t)
def Q2 (ht:da st t=J)(h:gD st t):Gw (fF st t):=by refine⟨λk e l=>?_,λk b=>?_,?_⟩;obtain⟨c,d⟩:=nF l;obtain⟨s,hs,_⟩:=mB c;obtain⟨b,f,g,i⟩:=mD (jW hs).1;obtain b|b:=b;left;refine⟨b,?_,f,g⟩;rw[d,af aa];right;refine⟨b,?_,i b⟩;rw[d,ai b];obtain⟨es,a⟩:=sj.1 ((h.each k e.n c).2 b);rw[a,lI];unfold bc at a;split at a;cases a;split at a;cases a;split at a;cases a;exact(lY a).1;apply y3;have:=(oh ht).2;rw[eX,mQ aa];rfl;obtain⟨n,c,d⟩:=h.bU;exact⟨_,og c,d⟩
def E1 (k:Nat){n:dX}(h:(bI st t).getD k O=C n):aY (fF st t) k=if n.kind=2 then(bc st n).getD [] else []:=by rw[dH (og h)]
def Kl {n:dX}(h:n.kind≠2):bc st n=O:=by unfold bc;rw[ai (by simp[h])]
def Q3 (h:gD st t)(k:Nat):bc st ((bj st t).getD k aK)=jY (fF st t k):=by
 rw[kk];cases hn:(bI st t).getD k O with
 |none=>rw[y3 hn];exact uD st
 |some n=>rw[og hn,lI];unfold jY;dsimp only;by_cases a:n.kind=2;rw[ai a,ai a];obtain⟨es,b⟩:=sj.1 ((h.each k n hn).2 a);rw[b];rfl;rw[af a,Kl a]
def Gf (h:iM st t):fO st t=C (wl (fF st t) 146 ⟨[47],0⟩):=by
 obtain⟨u,q,c⟩:=h;have ht:=(gN st t).1 u|>.1;obtain⟨d,hd,v⟩:=rV c;obtain⟨r,hr,z⟩:=c.bU;have s:o1 0 [47]:=⟨[],aq,aq,rfl⟩;have cg:=Dg c (f:=146) aa [47] s;have a:∀k e,fF st t k=C e->(bj st t).getD k aK=e.n:=λk e l=>by rw[kk,(nF l).1];rfl
 have o:∀k e,fF st t k=C e->k<Y (bj st t):=λk e l=>by obtain⟨_,_,A⟩:=mB (nF l).1;rwa[vz]
 have b:walk st (bj st t) 146 ⟨[47],0⟩ []=([]++wl (fF st t) 146 ⟨[47],0⟩,J):=by apply Dh c hd v;exact o;intro k e l;rw[a k e l];intro k;exact Q3 q k;show 17<=146+_;omega;decide;exact⟨r,hr⟩;simpa using cg
 rw[kG] at b;have g:=Hr c 146 0 ⟨[47],0⟩ cx ⟨r,hr⟩ s;have w:ja st (wl (fF st t) 146 ⟨[47],0⟩) 0 (bj st t)=J:=by
  apply xb;intro i hi;rw[kz];cases m:fF st t i with
  |none=>
   have:(bj st t).getD i aK=aK:=by
    rw[kk];cases hn:(bI st t).getD i O with
    |none=>rfl
    |some n=>rw[og hn] at m;cases m
   rw[this];exact⟨λh=>absurd rfl h,λh=>by cases h⟩
  |some e=>rw[a i e m];refine⟨λ_=>?_,λB=>(q.each i e.n (nF m).1).1 B⟩;rw[<-rX c (f:=146) aa i e m];have:=Df (fF st t) i 146 ⟨[47],0⟩;rw[show(⟨[47],0⟩:cB).id.toNat=0 from rfl] at this;rw[<-this];unfold gT cF;rw[KX];congr 2;apply Rt;intro x D;have:=(g x D).1.1;rw[tT];omega
 have y:¬(bj st t=[]\/((bj st t).headD aK).kind≠2):=by
  have h0:=a 0 r hr;have hl:=o 0 r hr;rintro(hc|hc);rw[hc] at hl;cases hl;have:(bj st t).headD aK=r.n:=by rw[<-h0];cases bj st t<;>rfl
  rw[this] at hc;exact hc z
 unfold fO;rw[af (by rw[u];simp)];simp only;rw[af y,b];simp only;rw[ai w]
def okW (n:Nat)(kind:Nat->Int)(E:Nat->Option (List az)):Nat->cB->Prop
 |0,_=>False
 |f+1,x=>0<=x.id/\x.id.toNat<n/\kind x.id.toNat≠0/\(kind x.id.toNat=1\/(kind x.id.toNat≠1/\∃l,E x.id.toNat=C l/\∀e∈l,okW n kind E f ⟨bb x.ar e.name,e.id⟩))
def E2 {kind:Nat->Int}{E:Nat->Option (List az)}{f:Nat}{p:aw}:∀(l:List az)(o:List cB),l.foldl (λr e=>if r.2=J then iq n kind E f ⟨bb p e.name,e.id⟩ r.1 else r) (o,U)=(o,U)
 |[],_=>rfl
 |e::l,o=>by rw[xE];exact E2 l o
def wlE (kind:Nat->Int)(E:Nat->Option (List az)):Nat->cB->List cB
 |0,x=>[x]
 |f+1,x=>x::if kind x.id.toNat=1 then [] else((E x.id.toNat).getD []).flatMap λe=>wlE kind E f ⟨bb x.ar e.name,e.id⟩
def Oa {kind:Nat->Int}{E:Nat->Option (List az)}:∀(f:Nat)(x:cB)(out o:List cB),iq n kind E f x out=(o,J)->okW n kind E f x/\o=out++wlE kind E f x/\Y o<=144
 |0,x,out,o,h=>by rw[iq] at h;cases h
 |f+1,x,out,o,h=>by
  rw[iq] at h;split at h;cases h;rename_i hc;simp only[km,gv,not_or,ra,xK,fI,ep] at hc;obtain⟨⟨K,i⟩,m⟩:=hc;have hid:0<=x.id/\x.id.toNat<n:=by obtain⟨i,L⟩:=i;omega
  split at h;rename_i c;cases h;exact⟨⟨hid.1,hid.2,m,.inl c⟩,by rw[wlE,ai c],aa⟩;rename_i c;cases d:E x.id.toNat with
  |none=>rw[d] at h;cases h
  |some l=>
   rw[d] at h;dsimp only at h;have key:∀(l:List az)(a o:List cB),l.foldl (λr e=>if r.2=J then iq n kind E f ⟨bb x.ar e.name,e.id⟩ r.1 else r) (a,J)=(o,J)->Y a<=144->(∀e∈l,okW n kind E f ⟨bb x.ar e.name,e.id⟩)/\o=a++(l.flatMap λe=>wlE kind E f ⟨bb x.ar e.name,e.id⟩)/\Y o<=144:=by
    intro l;induction l with
    |nil=>intro a o h h0;cases h;exact⟨aq,aq,h0⟩
    |cons e l ih=>
     intro a o h h0;rw[xE] at h;simp only[iO] at h;cases q:iq n kind E f ⟨bb x.ar e.name,e.id⟩ a with
     |mk F b=>
      rw[q] at h;cases b with
      |false=>rw[E2] at h;cases h
      |true=>obtain⟨s,g2,u⟩:=Oa f _ _ _ q;obtain⟨v,w,z⟩:=ih F o h u;refine⟨λy g=>?_,?_,z⟩;rcases cA.1 g with rfl|g;exact s;exact v y g;rw[w,g2,mR,iD]
   obtain⟨A,B,D⟩:=key l (out++[x]) o h aa;refine⟨⟨hid.1,hid.2,m,.inr ⟨c,l,d,A⟩⟩,?_,D⟩;rw[B,wlE,af c,d,lI];simp
def KG (G:Gr):Nat->Nat->Prop
 |0,_=>False
 |f+1,k=>(∃e,G k=C e)/\∀x∈aY G k,KG G f x.id.toNat
def Ob (hid:∀k,∀x∈aY G k,x.id.toNat<16)(j:Nat):∀(f k:Nat),KG G f k->k<16->nn G f k j=(if k=j then 1 else 0)+sm 16 λa=>nn G f k a*cE j (aY G a)
 |0,k,hf,_=>hf.elim
 |f+1,k,hf,h=>by
  have b:∀a,nn G (f+1) k a=(if k=a then 1 else 0)+((aY G k).map λe=>nn G f e.id.toNat a).sum:=λa=>rfl;rw[b j];simp only[b,mO];have g:=JJ 16 (λ(e:az) a=>nn G f e.id.toNat a) (λa=>cE j (aY G a)) (aY G k);rw[JH,JI (λa=>cE j (aY G a)) h,g];have d:((aY G k).map λe=>nn G f e.id.toNat j)=(aY G k).map λe=>(if e.id.toNat=j then 1 else 0)+sm 16 λa=>nn G f e.id.toNat a*cE j (aY G a):=by apply qo;intro e c;exact Ob hid j f e.id.toNat (hf.2 e c) (hid k e c)
  rw[d,yw,XF]
def Oc:∀(f:Nat)(x:cB),KG G f x.id.toNat->∀y∈wl G f x,∃g,g<=f/\KG G g y.id.toNat
 |0,x,h,y,a=>h.elim
 |f+1,x,h,y,a=>by rw[wl] at a;obtain rfl|a:=cA.1 a;exact⟨f+1,fG _,h⟩;obtain⟨e,c,a⟩:=kZ.1 a;obtain⟨g,d,b⟩:=Oc f ⟨bb x.ar e.name,e.id⟩ (h.2 e c) y a;exact⟨g,aa,b⟩
open Classical in
def Zv {B:Nat}(h:∀k e,G k=C e->∃f,f<=B/\KG G f k)(hn:∀k,∀x∈aY G k,∃e,G k=C e):∃d:Nat->Nat,∀k,∀x∈aY G k,d k<d x.id.toNat:=by
 have a:∀k,(∃f,KG G f k)->∃f,KG G f k/\∀g,KG G g k->f<=g:=λk ⟨f,hf⟩=>by
  have:∀n,∀f,f<=n->KG G f k->∃f,KG G f k/\∀g,KG G g k->f<=g:=λn=>by
   induction n with
   |zero=>intro f hf h;(have:f=0:=by omega);subst this;exact h.elim
   |succ n ih=>intro f hf h;by_cases hex:∃g,g<f/\KG G g k;obtain⟨g,v,s⟩:=hex;exact ih g aa s;refine⟨f,h,λg v=>?_⟩;obtain q|q:=jc g f;exact absurd ⟨g,q,v⟩ hex;exact q
  exact this f f (fG _) hf
 refine⟨λk=>if i:∃f,KG G f k then B+1-Classical.choose (a k i) else 0,λk x w=>?_⟩;obtain⟨e,A⟩:=hn k x w;obtain⟨f0,D,b⟩:=h k e A;have i:∃f,KG G f k:=⟨f0,b⟩;obtain⟨o,u⟩:=Classical.choose_spec (a k i);have z:=u f0 b;generalize hc:Classical.choose (a k i)=c at o u z;obtain⟨c',rfl⟩:∃c',c=c'+1:=by
  cases c with
  |zero=>exact o.elim
  |succ c=>exact⟨c,rfl⟩
 have l:=o.2 x w;have m:∃f,KG G f x.id.toNat:=⟨c',l⟩;obtain⟨E,y⟩:=Classical.choose_spec (a x.id.toNat m);have F:=y c' l;dsimp only;rw[dif_pos i,dif_pos m,hc];omega
def Zw {kind:Nat->Int}{E:Nat->Option (List az)}:∀(f:Nat)(x:cB),okW n kind E f x->∀y∈wlE kind E f x,0<=y.id/\(kind y.id.toNat=1\/(E y.id.toNat).isSome=J)
 |0,x,h,y,a=>h.elim
 |f+1,x,h,y,a=>by obtain⟨c,m,o,b⟩:=h;rw[wlE] at a;obtain b|⟨b,l,d,g⟩:=b;rw[ai b,gI] at a;subst a;exact⟨c,.inl b⟩;rw[af b,d,lI] at a;obtain rfl|a:=cA.1 a;exact⟨c,.inr (by rw[d];rfl)⟩;obtain⟨e,i,a⟩:=kZ.1 a;exact Zw f _ (g e i) y a
def E3 {α β:Type}{f g:α->List β}:∀{l:List α},(∀x∈l,f x=g x)->l.flatMap f=l.flatMap g
 |[],_=>rfl
 |x::l,h=>by rw[mR,mR,h x aq,E3 λy a=>h y (by simp[a])]
def Km (st:ae)(t:bt):∀(f:Nat)(x:cB),okW (Y (bj st t)) (λi=>((bj st t).getD i aK).kind) (λi=>bc st ((bj st t).getD i aK)) f x->KG (fF st t) f x.id.toNat/\wlE (λi=>((bj st t).getD i aK).kind) (λi=>bc st ((bj st t).getD i aK)) f x=wl (fF st t) f x
 |0,x,h=>h.elim
 |f+1,x,h=>by
  obtain⟨q,u,b,a⟩:=h;dsimp only at b a;cases hn:(bI st t).getD x.id.toNat O with
  |none=>rw[kk,hn] at b;exact absurd rfl b
  |some n=>(have m:(bj st t).getD x.id.toNat aK=n:=by rw[kk,hn];rfl);rw[m] at b a;have g:=E1 x.id.toNat hn;obtain⟨s,hs,_⟩:=mB hn;have v:=(mD (jW hs).1).1;rw[KG,wlE,wl];rw[m];obtain a|⟨a,l,o,d⟩:=a;rw[g,af aa,ai a];exact⟨⟨⟨_,og hn⟩,aq⟩,rfl⟩;rw[g,ai aa,af a,o,lI];refine⟨⟨⟨_,og hn⟩,λy c=>(Km st t f _ (d y c)).1⟩,?_⟩;rw[E3 λy c=>(Km st t f _ (d y c)).2]
def Gg {out:List cB}(F:Nat)(V:dL st t=J)(hr:¬(bj st t=[]\/((bj st t).headD aK).kind≠2))(E:walk st (bj st t) F ⟨[47],0⟩ []=(out,J))(Z:ja st out 0 (bj st t)=J):iM st t:=by
 have ht:=(gN st t).1 V|>.1;obtain⟨w1,Q,w3⟩:=Oa _ _ _ _ E;rw[kG] at Q;have w:∀i,i<Y (bj st t)->(((bj st t).getD i aK).kind≠0->gT out i=((bj st t).getD i aK).aX)/\(((bj st t).getD i aK).kind=1->dE st ((bj st t).getD i aK)=J):=by
  have:∀(L:List dX)(k:Nat),ja st out k L=J->∀i,i<Y L->((L.getD i aK).kind≠0->gT out (k+i)=(L.getD i aK).aX)/\((L.getD i aK).kind=1->dE st (L.getD i aK)=J):=λL=>by
   induction L with
   |nil=>intro k _ i hi;cases hi
   |cons n L ih=>
    intro k u i hi;rw[ja,ep] at u;cases i with
    |zero=>
     rw[As,wu];have b:=u.1;refine⟨λK=>?_,λK=>?_⟩;rcases Decidable.em (gT out k=n.aX) with c|c;exact c;rw[show decide (n.kind≠0)=J from gZ K,show decide (gT out k≠n.aX)=J from gZ c] at b;cases b;cases hf:dE st n with
     |true=>rfl
     |false=>rw[hf,show decide (n.kind=1)=J from gZ K,vO,Aq,KK] at b;cases b
    |succ i=>rw[vM];have:=ih (k+1) u.2 i (by simpa using hi);rwa[show k+(i+1)=k+1+i by omega]
  intro i hi;have:=this (bj st t) 0 Z i hi;rwa [kz] at this
 have d:∀k e,fF st t k=C e->((bj st t).getD k aK)=e.n/\k<Y (bj st t)/\cM e.n=J:=λk e l=>by obtain⟨b,_⟩:=nF l;obtain⟨s,c,v⟩:=mB b;exact⟨by rw[kk,b];rfl,by rwa[vz],(jW c).1⟩
 obtain⟨a1,a2⟩:=Km st t F _ w1;have W:=Zw F _ w1;rw[<-Q] at W;rw[a2] at Q;have X:∀j,gT out j=((cF j out:Nat):Int):=λj=>by unfold gT cF;rw[KX];congr 2;apply Rt;intro x q;have:=(W x q).1;rw[tT];omega
 have D:∀k e,fF st t k=C e->((nn (fF st t) F 0 k:Nat):Int)=e.n.aX:=λk e l=>by obtain⟨b,c,v⟩:=d k e l;have A:=(w k c).1;rw[b] at A;have h5:=(mD v).1;rw[<-A aa,X,Q,Df];rfl
 have R:∀k e,fF st t k=C e->∃y∈out,y.id.toNat=k:=λk e l=>by
  have b:=D k e l;have c:=(mD (d k e l).2.2).2.1;have v:0<cF k out:=by rw[Q,Df];show 0<nn (fF st t) F 0 k;omega
  unfold cF at v;rw[tN] at v;obtain⟨y,N,o⟩:=v;exact⟨y,N,by simpa using o⟩
 have S:gD st t:=by
  refine⟨?_,λk n hn=>?_⟩;(have b:(bj st t).getD 0 aK=(bj st t).headD aK:=by cases bj st t<;>rfl);(have c:((bj st t).headD aK).kind=2:=by obtain h|h:=Decidable.em (((bj st t).headD aK).kind=2);exact h;exact absurd (.inr h) hr);rw[<-b,kk] at c;cases hn:(bI st t).getD 0 O with
  |none=>rw[hn] at c;exact absurd c cx
  |some n=>rw[hn] at c;exact⟨n,rfl,c⟩
  have l:=og hn;obtain⟨b,c,v⟩:=d k _ l;dsimp only at b;refine⟨λK=>?_,λK=>?_⟩;have:=(w k c).2;rw[b] at this;exact this K;obtain⟨y,N,o⟩:=R k _ l;rcases(W y N).2 with A|A;rw[o,b] at A;omega;rw[o,b] at A;exact A
 have E:=Q2 ht S;have m:∀k e,fF st t k=C e->∃f,f<=F/\KG (fF st t) f k:=λk e l=>by obtain⟨y,N,o⟩:=R k e l;rw[Q] at N;obtain⟨g,g1,g2⟩:=Oc F _ a1 y N;rw[o] at g2;exact⟨g,g1,g2⟩
 have z:∀k,∀x∈aY (fF st t) k,∃e,fF st t x.id.toNat=C e:=λk x q=>by
  obtain⟨e,l⟩:∃e,fF st t k=C e:=by
   cases u:fF st t k with
   |none=>unfold aY at q;rw[u] at q;cases q
   |some e=>exact⟨e,rfl⟩
  obtain⟨f,_,hf⟩:=m k e l;cases f with
  |zero=>exact hf.elim
  |succ f=>
   have:=hf.2 x q;cases f with
   |zero=>exact this.elim
   |succ f=>exact this.1
 have B:∀k,∀x∈aY (fF st t) k,x.id.toNat<16:=λk x q=>by obtain⟨e,l⟩:=z k x q;obtain h|h:=jc x.id.toNat 16;exact h;rw[E.hi _ h] at l;cases l
 refine⟨V,S,E.wf,E.hi,E.bU,z,λj e h0 l=>?_,Zv m λk x q=>?_⟩;have hs:(sm 16 λa=>nn (fF st t) F 0 a*cE j (aY (fF st t) a))=sm 16 λa=>cE j (aY (fF st t) a):=nz λa _=>by
  obtain hd|hd:=Classical.em (jQ (fF st t) a);obtain⟨r,T,Th⟩:=hd;have b:=D a r T;rw[(mD (d a r T).2.2).2.2.2 Th] at b;rw[show nn (fF st t) F 0 a=1 by omega,Nat.one_mul];have:aY (fF st t) a=[]:=by
   unfold aY;cases u:fF st t a with
   |none=>rfl
   |some r=>obtain⟨_,c,_⟩|⟨c,_⟩:=E.wf a r u;exact c;exact absurd ⟨r,u,c⟩ hd
  have h0:cE j []=0:=rfl;rw[this,h0,Nat.mul_zero]
 have b:=Ob B j F 0 a1 aa;rw[af (λh=>h0 h.symm),kz,hs,<-rW] at b;rw[<-D j e l,b];cases u:fF st t k with
 |none=>unfold aY at q;rw[u] at q;cases q
 |some e=>exact⟨e,rfl⟩
def E4 {out:List cB}(h:fO st t=C out):iM st t:=by
 unfold fO at h;by_cases a:dL st t=J;rw[af (by rw[a];simp)] at h;simp only at h;split at h;cases h;rename_i hr;generalize f:146=F at h;cases d:walk st (bj st t) F ⟨[47],0⟩ [] with
 |mk o b=>
  rw[d] at h;cases b with
  |false=>cases h
  |true=>simp only at h;split at h;rename_i c;cases h;exact Gg F a hr d c;cases h
 rw[ai (by simpa using a)] at h;cases h
end Go.Pg
namespace Go.Pl
open Go Go.Ev Go.Lg Go.Proofs
variable {E:hJ}{X:fb}{Γ:ng}{l:Kn}{L R:cq}{K:KO}{o:Go.Op}{g:FuncId}{xs:List Operand}{ts:Array TypeId}{vs:aV}{b:Nat}{v:SA}{st:ae}{p:List (Option dX)}{r:Bool}
def E5 (h:WO E X Γ l o L (λv L' m n R W=>∃a,L'.Perm a/\K v a m n R W)):WO E X Γ l o L K:=λq s d e=>by obtain⟨N,v,s',⟨L',R,Wr,i,f,a,k,j⟩,c⟩:=h q s d e;exact⟨N,v,s',⟨a,R,Wr,i.bX k,f,j⟩,c⟩
def sZ (n:iu l xs vs)(hd:lN Γ)(h:∀s,fh s b v st->dy s->Ki E X g vs s (mL b v++[5,1]) p r)(e:eh Γ L b v st)(k:∀m d (G:Ga) a c,G.map (Option.map Prod.snd)=p->gk L m->m<=d->K (.tuple ⟨[H a (Y G) c,M r]⟩) (.aU (H a (Y G) c) 68 1 (ab (G.map dR))::(L++jh G)) m d (iI (mL b v++[5,1]) [] m d) (iJ [] m d)):WC E X Γ l g xs ts L K:=
 E5 (cI (Lm:=[]) (R:=L) n (.refl _) (λs hi i hb=>(cG.1 hb).elim ((e.row hi).2 i) (hd.may hi i)) (λs hi=>h s (e.row hi).1 (hd.row hi).1) (by rintro v L' m d j hm ⟨G,a,c,f,rfl,rfl⟩;refine⟨_,?_,k m d G a c f j hm⟩;rw[jk];exact(Cm).cons _))
def Od {c d:Type}[DecidableEq c](k:c)(v:d):∀m:List (c×d),cO m k=O->ig m k v=m++[(k,v)]
 |[],_=>rfl
 |p::m,h=>by unfold cO at h;unfold ig;by_cases a:k=p.1;rw[ai a] at h;cases h;rw[af a] at h;rw[af a,Od k v m h];rfl
def Oe {a c:Type}[DecidableEq a](k:a)(v:c)(j:a):∀m:List (a×c),cO (m++[(k,v)]) j=match cO m j with
  |some x=>C x
  |none=>if j=k then C v else O
 |[]=>rfl
 |p::m=>by show cO (p::(m++[(k,v)])) j=_;unfold cO;by_cases h:j=p.1;rw[ai h,ai h];rw[af h,af h,Oe k v j m]
def vA {c d:Type}[DecidableEq c]{k:c}{v:d}:∀{m:List (c×d)},cO m k=C v->(k,v)∈m
 |[],h=>by cases h
 |p::m,h=>by unfold cO at h;by_cases a:k=p.1;rw[ai a] at h;cases h;subst a;exact ed;rw[af a] at h;exact dI _ (vA h)
def Aa {a d:Type}[DecidableEq a]{k:a}:∀{m:List (a×d)},(∀x∈m,x.1≠k)->cO m k=O
 |[],_=>rfl
 |p::m,h=>by unfold cO;rw[af (λe=>h p ed e.symm)];exact Aa λx c=>h x (dI _ c)
def Iw {many:Int}:∀{l:List aw}{k:Nat}{out s:aw},il many k l out=C s->(∀x∈l,Y x<=3000)->Y s<=Y out+3000*Y l
 |[],k,out,s,h,_=>by cases h;simp
 |x::l,k,out,s,h,hl=>by rw[Is] at h;split at h;cases h;have a:=Iw h λy c=>hl y (dI _ c);have d:=hl x ed;rw[dB] at a;rw[fS];omega
def Of {st:ae}(h:cZ 100000 st)(h0:0<=st.dm)(n:dX):Y (ml st n).1<=48000:=by
 unfold ml;cases hl:Pg.dU st n.aO with
 |none=>simp
 |some l=>
  dsimp only;obtain⟨_,_,a⟩:=oR h0 hl;cases hb:il (Y l:Int) 0 (l.map (b0 st)) [] with
  |none=>simp
  |some s=>(have:=Iw hb λx c=>by obtain⟨p,_,rfl⟩:=qj.1 c;exact BZ h p);rw[fH] at this;simp only[jm] at this;show Y s<=48000;omega
def Ko {st:ae}{n:dX}(h0:0<=st.dm)(h:cM n=J)(e:n.kind=2):bc st n=if(ml st n).2=J then df (ml st n).1 else O:=by
 unfold bc ml;have a:=mM (st:=st) (t:=n.aO);cases hl:Pg.dU st n.aO with
 |none=>rw[hl] at a;rw[h,<-a,e];rfl
 |some l=>
  rw[hl] at a;obtain⟨_,f,_⟩:=oR h0 hl;obtain⟨_,_,d⟩:=Pg.ph hl;obtain⟨_,_,_,hm,_⟩:=Pg.ef h;have c:n.aO.many=(Y l:Int):=by omega
  rw[af (by rw[h,<-a,e];simp)];unfold nc;rw[d,c];dsimp only;have hb:il (Y l:Int) 0 (l.map (b0 st)) []=O\/∃s,il (Y l:Int) 0 (l.map (b0 st)) []=C s:=by
   cases il (Y l:Int) 0 (l.map (b0 st)) [] with
   |none=>exact .inl rfl
   |some s=>exact .inr ⟨s,rfl⟩
  obtain hb|⟨s,hb⟩:=hb;simp only[hb];rfl;simp only[hb];by_cases hs:(Y s:Int)=n.size;rw[af (by simp[hs]),ai (by simp[hs])];rw[ai hs,af (by simp[hs])]
def Og {st:ae}{t:bt}{p:List (Option dX)}(h:q8 st t=C p):dL st t=J/\p=Pg.bI st t:=by unfold q8 at h;split at h;cases h;exact⟨aT,rfl⟩;cases h
def Ab {st:ae}{t:bt}{k:Nat}{n:dX}(h:(Pg.bI st t).getD k O=C n):cM n=J:=by obtain⟨s,hs,_⟩:=Pg.mB h;exact(Pg.jW hs).1
structure y4 (st:ae)(p:List (Option dX))(M:List (Int×(aP×Nat×List az)))(i:Nat):Prop where
 dir:∀j n,j<i->p.getD j none=some n->n.kind=2->∃x,cO M (j:Int)=some x/\bc st n=some x.2.2
 only:∀x∈M,∃(j:Nat)(n:dX),x.1=(j:Int)/\j<i/\p.getD j none=some n/\n.kind=2
def y4.start (st:ae)(p:List (Option dX)):y4 st p [] 0:=⟨λj n a=>absurd a (Nat.not_lt_zero j),λx c=>by cases c⟩
def y4.skip {st:ae}{p:List (Option dX)}{M:List (Int×(aP×Nat×List az))}{i:Nat}(h:y4 st p M i)(hn:∀n,p.getD i O=C n->n.kind≠2):y4 st p M (i+1):=⟨λj n a d c=>by
 rcases(by omega:j<i\/j=i) with a|rfl;exact h.dir j n a d c;exact absurd c (hn n d),λx k=>by
 obtain⟨j,n,e,m,f⟩:=h.only x k;exact⟨j,n,e,aa,f⟩⟩
def y4.dk {st:ae}{p:List (Option dX)}{M:List (Int×(aP×Nat×List az))}{i:Nat}(h:y4 st p M i):cO M (i:Int)=O:=Aa λx a=>by obtain⟨j,n,c,d,_⟩:=h.only x a;omega
def y4.add {st:ae}{p:List (Option dX)}{M:List (Int×(aP×Nat×List az))}{i:Nat}{n:dX}{es:List az}(h:y4 st p M i)(hn:p.getD i O=C n)(w:n.kind=2)(u:bc st n=C es)(a:aP)(c:Nat):y4 st p (M++[((i:Int),a,c,es)]) (i+1):=⟨λj m s k f=>by
 rw[Oe];rcases(by omega:j<i\/j=i) with s|rfl;obtain⟨x,e,q⟩:=h.dir j m s k f;rw[e];exact⟨x,rfl,q⟩;rw[h.dk];dsimp only;rw[ai rfl];rw[hn] at k;cases k;exact⟨_,rfl,u⟩,λx d=>by
 obtain d|d:=cG.1 d;obtain⟨j,n,e,q,t⟩:=h.only x d;exact⟨j,n,e,aa,t⟩;rw[gI] at d;subst d;exact⟨i,n,rfl,aa,hn,w⟩⟩
def E6 (st:ae)(p:List (Option dX))(i:Nat):Prop:=∀j n,j<i->p.getD j O=C n->(n.kind=1->dE st n=J)/\(n.kind=2->(bc st n).isSome=J)
def E6.succ {st:ae}{p:List (Option dX)}{i:Nat}(h:E6 st p i)(hn:∀n,p.getD i O=C n->(n.kind=1->dE st n=J)/\(n.kind=2->(bc st n).isSome=J)):E6 st p (i+1):=λj n a c=>by rcases(by omega:j<i\/j=i) with a|rfl;exact h j n a c;exact hn n c
instance:lK aZ 73 [(0,1),(1,7),(8,1),(9,1)] [.pointer O,dP,dP,dP,dP,dP,dP,dP,ew,.map O]:=jz bV
noncomputable def Vt (G:Pg.Gr):Bool:=@decide (Pg.Gd G) (Classical.propDecidable _)
def s3 {G:Pg.Gr}:Vt G=J↔Pg.Gd G:=by unfold Vt;exact @decide_eq_true_iff _ (Classical.propDecidable _)
structure s4 (P:B0):Prop where
 bj:P.G.map (Option.map Prod.snd)=Pg.bI P.st P.t
 tab:dL P.st P.t=true
 acd:Pg.gD P.st P.t
 en:y4 P.st (Pg.bI P.st P.t) P.M (Pg.bI P.st P.t).length
abbrev Zx (E:hJ)(X:fb)(f:FuncId)(vs:aV)(s:St)(A:List Nat)(b:Nat)(v:SA)(st:ae)(t:bt):Prop:=eJ E X f vs s [] A λR L=>(∃P:B0,P.b=b/\P.v=v/\P.st=st/\P.t=t/\s4 P/\R= .tuple ⟨[.pointer (C ⟨P.bf,0,O⟩),M (Vt (Pg.fF st t))]⟩/\L=Z7 P)\/(¬(dL st t=J/\Pg.gD st t)/\R= .tuple ⟨[.pointer O,M U]⟩/\L=[])
def E7 {p:List (Option dX)}{n:dX}{i:Int}(h:mj p i=C n)(s:St)(a:aP)(c:Nat)(G:Ga)(e:G.map (Option.map Prod.snd)=p)(hl:Y p<=16)(hr:Iq s a G):bM 84 [H a (Y G) c,iv i] s (N2 a G) (.tuple ⟨[nv n,M J]⟩):=by have d:=EW s a c G i (by rw[<-e,fH] at hl;omega) hr;rwa[e,h] at d
def E8 {p:List (Option dX)}{i:Int}(h:mj p i=O)(s:St)(a:aP)(c:Nat)(G:Ga)(e:G.map (Option.map Prod.snd)=p)(hl:Y p<=16)(hr:Iq s a G):bM 84 [H a (Y G) c,iv i] s (N2 a G) (.tuple ⟨[nv aK,M U]⟩):=by have d:=EW s a c G i (by rw[<-e,fH] at hl;omega) hr;rwa[e,h] at d
def SQ {p:List (Option dX)}:mj p 0=p.getD 0 O:=by
 unfold mj;cases p with
 |nil=>rfl
 |cons x l=>rw[ai (by simp only[fS];omega)];rfl
def Gh (hlk:∀s P,s4 P->l9 s P->bM 87 [.pointer (C ⟨P.bf,0,O⟩)] s (nD P) (.bool (Vt (Pg.fF P.st P.t))))(s:St)(b:Nat)(v:SA)(st:ae)(h:cZ 100000 st)(h0:0<=st.dm)(t:bt)(hr:fh s b v st)(hn:dy s):Zx aZ aW 34 [bk b,tv t] s (mL b v++[5,1]) b v st t:=by
 refine' zaa;have hd:lN ⟨s,([]:cq).flatMap It.bC,mL b v++[5,1]⟩:=lN.of hn aq aq;have F:=λs hr hn=>Vr s b v st h h0 t hr hn;cases hO:q8 st t with
 |none=>
  rw[hO] at F;have mU:∀s,fh s b v st->dy s->Ki aZ aW 83 [bk b,tv t] s (mL b v++[5,1]) [] U:=F;have IW:¬(dL st t=J/\Pg.gD st t):=λu=>by unfold q8 at hO;rw[ai u.1] at hO;cases hO
  refine a8 f34 ?_;(repeat' first|refine' AG|(apply sZ;exact aj;assumption;(exact mU);(exact eh.mk ax (cJ.mk ax ax ax));intro _ _ G d e V _ _;dsimp only[List.cons_append,List.nil_append])|refine' qgb|fail);all_goals refine' zaw
 |some p=>
  rw[hO] at F;have mU:∀s,fh s b v st->dy s->Ki aZ aW 83 [bk b,tv t] s (mL b v++[5,1]) p J:=F;clear F;obtain⟨ag1,hp⟩:=Og hO;have OM:Y p<=16:=by rw[hp];exact(Pg.oh ((Pg.gN st t).1 ag1).1).2
  cases hz:p.getD 0 O with
  |none=>(have IW:¬(dL st t=J/\Pg.gD st t):=λu=>by obtain⟨n,h1,_⟩:=u.2.bU;rw[<-hp,hz] at h1;cases h1);(have Z8:=λs a c G V hr=>E8 (p:=p) (i:=0) (by rwa[SQ]) s a c G V OM hr);refine a8 f34 ?_;(repeat' first|refine' AG|(apply sZ;exact aj;assumption;(exact mU);(exact eh.mk ax (cJ.mk ax ax ax));intro _ _ G d e V _ _;dsimp only[List.cons_append,List.nil_append])|(apply pP;intro bm _)|(apply oe;exact aj;(exact Ba.items kD (by intro x u;repeat(first|exact u|apply dI)));(intro s hr;exact Z8 s _ _ _ V hr);intros)|refine' qgb|fail);all_goals refine' zaw
  |some n0=>
   (have Z8:=λs a c G V hr=>E7 (p:=p) (i:=0) (n:=n0) (by rwa[SQ]) s a c G V OM hr);by_cases hk:n0.kind=2
   .refine a8 f34 ?_;(repeat' first|refine' AG|(apply sZ;exact aj;assumption;(exact mU);(exact eh.mk ax (cJ.mk ax ax ax));intro _ _ G d e V _ _;dsimp only[List.cons_append,List.nil_append])|(apply pP;intro bm _)|(apply oe;exact aj;(exact Ba.items kD (by intro x u;repeat(first|exact u|apply dI)));(intro s hr;exact Z8 s _ _ _ V hr);intros)|refine' qgb|fail);(have hGl:Y G=Y p:=by rw[<-V,fH]);refine W.bu (λm l L=>∃(i:Nat)(M:List (Int×(aP×Nat×List az))),Le [(0,bk b),(8,bk bx),(45,H d (Y G) e),(46,iv (Y G:Int)),(47,iv (i:Int))] l/\cb (.box bx (fiC ⟨bx,b,v,st,t,d,e,G,bm,M⟩) 73 U:: .iC bm (.map (lq iv vE M)):: .aU (H d (Y G) e) 68 1 (ab (G.map dR))::(wk M++jh G)) L/\m=Y G-i/\i<=Y G/\y4 st p M i/\E6 st p i)
     (λl L=>∃(M:List (Int×(aP×Nat×List az))),Le [(8,bk bx)] l/\cb (.box bx (fiC ⟨bx,b,v,st,t,d,e,G,bm,M⟩) 73 U:: .iC bm (.map (lq iv vE M)):: .aU (H d (Y G) e) 68 1 (ab (G.map dR))::(wk M++jh G)) L/\y4 st p M (Y p)/\E6 st p (Y p)) _ ⟨0,[],bd,wj,rfl,aa,y4.start st p,λj n hj=>absurd hj (Nat.not_lt_zero j)⟩ ?_ ?_
    rintro m l L ⟨i,M,Bk,hL,rfl,hi0,D,N⟩;refine' cP;by_cases hi:i<Y G;(have Q:p.getD i O=(G.getD i O).map Prod.snd:=by rw[<-V,eX,eX,mP];cases G[i]?<;>rfl);(have hga:((G.map dR).getD i (au.ad (α:=aP)))=dR (G.getD i O):=by show(G.map dR).getD i O=_;rw[eX,eX,mP];cases G[i]?<;>rfl);cases hg:G.getD i O with
    |none=>rw[hg] at Q hga;have OR:((G.map dR).getD i (au.ad (α:=aP)))=O:=hga;(repeat' first|refine' AG|refine' Bp|refine' gL|fail);(all_goals first|(exfalso;omega;done)|contradiction|(exfalso;rw[OR] at hc;cases hc;done)|skip);all_goals exact⟨_,aa,i+1,M,bd,wj,rfl,aa,D.skip λn u=>by(rw[Q] at u;cases u),N.succ λn u=>by(rw[Q] at u;cases u)⟩
    |some x=>
     obtain⟨bi,n⟩:=x;rw[hg] at Q hga;have OR:((G.map dR).getD i (au.ad (α:=aP)))=C ⟨bi,0,O⟩:=hga;have S:p.getD i O=C n:=Q;have NU:It.box bi (jg n) 67 U∈jh G:=sY (by rw[<-hg];exact gX O hi);have ag2:cM n=J:=Ab (k:=i) (by rwa[<-hp]);have hkk:n.kind=1\/n.kind=2:=(Pg.ef ag2).1;obtain hk1|Lq:=hkk;have A:=λs hr hn=>EY s b v st h h0 n hr hn;cases hf:dE st n with
     |false=>(have IW:¬(dL st t=J/\Pg.gD st t):=λu=>by have:=(u.2.each i n (by rwa[<-hp])).1 hk1;rw[hf] at this;cases this);(have htr:iL st n=O:=by unfold iL;rw[hf];rfl);rw[htr] at A;have PW:∀s,fh s b v st->dy s->bM 21 [bk b,nv n] s (mL b v++[5,1]) (.tuple ⟨[sv [],.bool U]⟩):=A;clear A;(repeat' first|refine' AG|refine' Bp|refine' gL|fail);(all_goals first|(exfalso;omega;done)|contradiction|(exfalso;rw[OR] at hc;cases hc;done)|skip);(all_goals refine' zak);all_goals refine' zaw
     |true=>(have htr:iL st n=C (a6 st n):=by unfold iL;rw[hf];rfl);rw[htr] at A;have PW:∀s,fh s b v st->dy s->bM 21 [bk b,nv n] s (mL b v++[5,1]) (.tuple ⟨[sv (a6 st n),.bool J]⟩):=A;clear A;(repeat' first|refine' AG|refine' Bp|refine' gL|fail);(all_goals first|(exfalso;omega;done)|contradiction|(exfalso;rw[OR] at hc;cases hc;done)|skip);(all_goals refine' zak);all_goals exact⟨_,aa,i+1,M,bd,wj,rfl,aa,D.skip λn' u=>by(rw[S] at u;cases u;omega),N.succ λn' u=>by(rw[S] at u;cases u;exact⟨λ_=>hf,λhk=>by omega⟩)⟩
     have aeD:=λs hr hn=>EX s b v st h h0 n hr hn;have TA:=Of h h0 n;have B:=Ko (st:=st) h0 ag2 Lq;generalize Z3:ml st n=fr at aeD TA B;obtain⟨z,ok⟩:=fr;have VS:∀s,fh s b v st->dy s->bM 85 [bk b,nv n] s (mL b v++[5,1]) (.tuple ⟨[sv z,.bool ok]⟩):=aeD;clear aeD;have y:=λs hn=>EZ s z (by have:Y z<=48000:=TA;omega) hn;dsimp only at B;cases Z:bc st n with
     |none=>
      (have IW:¬(dL st t=J/\Pg.gD st t):=λu=>by have:=(u.2.each i n (by rwa[<-hp])).2 Lq;rw[Z] at this;cases this);cases T:ok with
      |false=>subst T;have heg:∀s,dy s->et aZ aW 86 [sv z] s [5,1] 100 ((df z).getD []) (df z).isSome:=y;clear y;(repeat' first|refine' AG|refine' Bp|refine' gL|fail);(all_goals first|(exfalso;omega;done)|contradiction|(exfalso;rw[OR] at hc;cases hc;done)|skip);all_goals refine' zah
      |true=>subst T;rw[Z,ai rfl] at B;rw[<-B] at y;have heg:∀s,dy s->et aZ aW 86 [sv z] s [5,1] 100 ([]:List az) U:=y;clear y;(repeat' first|refine' AG|refine' Bp|refine' gL|fail);(all_goals first|(exfalso;omega;done)|contradiction|(exfalso;rw[OR] at hc;cases hc;done)|skip);all_goals refine' zah
     |some es=>
      rw[Z] at B;have T:ok=J:=by
       cases ok with
       |true=>rfl
       |false=>rw[af B3] at B;cases B
      subst T;rw[ai rfl] at B;rw[<-B] at y;have heg:∀s,dy s->et aZ aW 86 [sv z] s [5,1] 100 es J:=y;clear y;(repeat' first|refine' AG|refine' Bp|refine' gL|fail);(all_goals first|(exfalso;omega;done)|contradiction|(exfalso;rw[OR] at hc;cases hc;done)|skip);rw[OR];(repeat' first|refine' AG|(apply BF;exact bN;(repeat(first|exact dt _ NU|apply dI));(exact rfl);intro _)|(apply uu;exact bN;(repeat(first|exact dt _ NU|apply dI));(exact rfl);intro _)|(apply sd;exact aj;assumption;(exact VS);(exact eh.mk ax (cJ.mk ax ax ax));intros)|(apply mA;exact aj;assumption;(exact heg);intro _ _ abX abY _ _)|((with_reducible apply BL (kf:=iv) (vf:=vE) (m:=M) (k:=(i:Int)) (v:=(abX,abY,es)));(exact(by kernel_rfl));(exact(by kernel_rfl));(exact rfl);(exact LK);exact bN;exact bN;exact bN;exact FO;intro _)|refine' qgb|fail);(all_goals rw[Od _ _ _ D.dk]);all_goals exact⟨_,aa,i+1,M++[((i:Int),abX,abY,es)],bd,by(rw[QY,jk];exact wj),rfl,aa,D.add S Lq Z abX abY,N.succ λn' u=>by(rw[S] at u;cases u;exact⟨λhk=>by omega,λ_=>by rw[Z];rfl⟩)⟩
    (have hi:i=Y G:=by omega);rw[hi,hGl] at D N;refine' iK;exact⟨M,bd,wj,D,N⟩;rintro l L ⟨M,Bk,hL,D,N⟩;refine' gh;have x8:s4 ⟨bx,b,v,st,t,d,e,G,bm,M⟩:=⟨by rw[V,hp],ag1,⟨⟨n0,by rwa[<-hp],hk⟩,λk n hkn=>N k n (by obtain Lp|Q:=jc k (Y p);exact Lp;rw[<-hp,eX,mQ Q] at hkn;cases hkn) (by rwa[hp])⟩,by rwa[<-hp]⟩;(have afN:=λs hr=>hlk s ⟨bx,b,v,st,t,d,e,G,bm,M⟩ x8 hr);(repeat' first|refine' AG|((with_reducible apply z8 (P:=⟨bx,b,v,st,t,d,e,G,bm,M⟩));exact aj;(exact sf.items (eh.mk ax (cJ.mk ax ax ax)) aT kD kD kD (by intro x u;repeat(first|exact dt _ u|apply dI)) (by intro x u;repeat(first|exact im _ u|apply dI)));(exact afN);intros)|refine' qgb|fail);all_goals exact⟨bK,_,Z7 ⟨bx,b,v,st,t,d,e,G,bm,M⟩,bH,by(unfold Z7;exact wj),.inl ⟨_,rfl,rfl,rfl,rfl,x8,rfl,rfl⟩⟩
   (have IW:¬(dL st t=J/\Pg.gD st t):=λu=>by obtain⟨n,h1,h2⟩:=u.2.bU;rw[<-hp,hz] at h1;cases h1;exact hk h2);refine a8 f34 ?_;(repeat' first|refine' AG|(apply sZ;exact aj;assumption;(exact mU);(exact eh.mk ax (cJ.mk ax ax ax));intro _ _ G d e V _ _;dsimp only[List.cons_append,List.nil_append])|(apply pP;intro bm _)|(apply oe;exact aj;(exact Ba.items kD (by intro x u;repeat(first|exact u|apply dI)));(intro s hr;exact Z8 s _ _ _ V hr);intros)|refine' qgb|fail);all_goals refine' zaw
variable {x y:Operand}{t t2 e:TypeId}{a a2:aP}{c c2:Nat}{q:List Int}{k i:Int}
inductive QF (e:TypeId)(b:Nat):aP->Nat->fa->List Int->Prop
 |lit (k:Int) (w:Bool):QF e b (ko b) 1 (.cells [iv k] e w) [k]
 |row (p:aV) (k:Int) (q:List Int):QF e b (some ⟨b,p.length,none⟩) (cl+p.length) (.cells (p++ab (k::q)) e true) (k::q)
 |mark (p:aV) (k:Int) (q:List Int):QF e b (some ⟨b,p.length,some 0⟩) (cl+p.length) (.jo (p++ab (k::q)) e) (k::q)
inductive QP (b:Nat):fa->aP->Int->Prop
 |row (c:aV) (e:TypeId) (w:Bool) (off:Nat) (k:Int) (h:jH c off=some (iv k)):QP b (.cells c e w) (some ⟨b,off,none⟩) k
 |mark (c:aV) (e:TypeId) (off:Nat) (k:Int) (h:jH c off=some (iv k)):QP b (.jo c e) (some ⟨b,off,some 0⟩) k
def SR (p:aV)(x:Value)(r:aV):jH (p++x::r) (Y p)=C x:=by rw[ec,wv (fG _),vG];rfl
def Oh (p:aV)(q:List Int):gE (mul (Y q) 1) (Go.Ev.fJ (Y p) (p++ab q))=C (ab q):=by have h:=pk (cs:=ab q) (o:=Y p) (m:=Y q) (c:=p++ab q) (by rw[Ap];have h:=bn q;rw[sh] at h;rw[<-h,lG]) (by rw[bn,sh]);rwa[show mul (Y q) 1=Y q from sh _]
end Go.Pl
