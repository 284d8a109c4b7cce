/- Lemmas of the proof. No conditions. -/
import Derived.Test.YtnealhiolaklpaaGreatDoorAd1
set_option maxRecDepth 100000
set_option maxHeartbeats 4000000
set_option linter.all false
open Bool renaming false->U,true->J
open Option renaming none->O,some->C
open List renaming length->Y
open Go.Value renaming slice->H,bool->M,int->I
open Go.Proofs.Tryz
open Nat (beq ble mul)
open Go.Result (andThen_ok)
open Go.Sem (run_bind)
open Go.Region (binds)
open List (replicate)
open Int (toNat)
open Go.Builtin (firstCells)
open Go.Instr (checkKey)
namespace Go.Pl
open Go Go.Ev Go.Lg Go.Proofs
variable {E:hJ}{X:fb}{Γ:ng}{L R:cq}{K:KO}{xs:List Operand}{ts:Array TypeId}{vs:aV}{A:List Nat}{st:ae}{q:cc}{n:Int}
section
variable {s:aw}
def ee.of {t:bt}(h:da st t=J):ee t:=by unfold da at h;simp only[ep,gv,fI] at h;obtain⟨⟨⟨a,c⟩,b⟩,_⟩:=h;exact⟨b,a,by have:=Pg.eE t.many;omega⟩
def Bu (st:ae)(s:aw):Bool:=decide (s=[])||match bY s with
 |none=>U
 |some n=>da st n.aO
def DU (st:ae)(t:bt):dL st t=(da st t&&(fU st t).all (Bu st)):=rfl
def MP (h:decide (s=[])=J):Bu st s=J:=by unfold Bu;rw[h];rfl
def UF (h:decide (s=[])=U)(hn:bY s=O):Bu st s=U:=by unfold Bu;rw[h,hn];rfl
def HS {n:dX}(h:decide (s=[])=U)(hn:bY s=C n):Bu st s=da st n.aO:=by unfold Bu;rw[h,hn];rfl
def Mr (s:St)(v:SA)(st:ae)(h:cZ 100000 st)(t:bt)(hr:cr s v st):bM 94 [eg v st,tv t] s (iB v) (M (dL st t)):=by
 have x:=Rd.Bt hr;have r:=Rd.off hr;have u:=Rd.y8 hr;cases b:da st t with
 |false=>
  have hn:(!da st t)=J:=by rw[b];rfl
  rw[DU,b,tO];refine a8 f94 ?_;repeat' first|refine' Dy|refine' eI|fail
  refine' aC;rfl
 |true=>
  have hn:(!da st t)=U:=by rw[b];rfl
  have ht:=ee.of b;obtain⟨hl,j⟩:=j9 h ht;have hm:=ht.mn;rw[DU,b,wo];refine a8 f94 ?_;repeat' first|refine' Dy|refine' ad8|refine' eI|fail
  generalize fU st t=w at *
  refine W.bu (λk l L=>∃(i bs f:Nat),Le [(2,bk bs),(3,bk f),(5,H gV (Y w) gW),(6,iv i)] l/\cb [.aU (H gV (Y w) gW) 9 1 (ab w),.box bs (lL v st) 29 U,.box f (eN t) 33 U] L/\k=Y w-i/\i<=Y w/\w.all (Bu st)=(w.drop i).all (Bu st))
   (λl L=>w.all (Bu st)=J) (Y w) ⟨0,_,_,bd,ak,aa,aa,rfl⟩ ?_ ?_
  .rintro k l L ⟨i,bs,f,e,o,rfl,m,c⟩;refine W.le ?_ e o;clear e o;by_cases hi:i<Y w;have y:=j _ (a7 hi au.ad);rw[drop_cons hi,List.all_cons] at c;cases a:bY (w.getD i au.ad) with
   |none=>(have d:∀s,bM 76 [sv (w.getD i au.ad)] s [] (uN O):=λs=>by have:=sQ s _ (show(w.getD i au.ad).length<=100000 by omega);rwa [a] at this);(repeat' first|(apply ag;exact aj;exact λs=>d s;intros)|refine' zK|fail);refine⟨_,?_,i+1,_,_,bd,ak,rfl,aa,by rw[c,MP hc];rfl⟩;omega;(have hn:w.all (Bu st)=U:=by rw[c,UF hc a];rfl);rw[hn];refine' aC;rfl
   |some n=>(have d:∀s,bM 76 [sv (w.getD i au.ad)] s [] (uN (C n)):=λs=>by have:=sQ s _ (show(w.getD i au.ad).length<=100000 by omega);rwa [a] at this);(repeat' first|(apply ag;exact aj;exact λs=>d s;intros)|refine' Dy|refine' zK|fail);refine⟨_,?_,i+1,_,_,bd,ak,rfl,aa,by rw[c,MP hc];rfl⟩;omega;have ki:da st n.aO=U:=ki;(have hn:w.all (Bu st)=U:=by rw[c,HS aT a,ki];rfl);rw[hn];refine' aC;rfl;have ki:da st n.aO=J:=ki;refine⟨_,?_,i+1,_,_,bd,ak,rfl,aa,by rw[c,HS aT a,ki];rfl⟩;omega
   (have g:i=Y w:=by omega);subst g;rw[re] at c;refine' eR;all_goals first|(exfalso;omega;done)|exact c
  rintro l L m;refine aJ ?_;refine W.le ?_ (Le.nil _) (cb.nil _);refine' eR;refine' aC;exact congrArg Value.bool m.symm
end
structure ka (n:dX):Prop where
 tr:ee n.aO
 sz:0<=n.size/\n.size<=10000
def ka.of {n:dX}(h:cM n=J):ka n:=by obtain⟨_,c,_,a,d,b,_⟩:=Pg.ef h;exact⟨⟨b,a,by have:=Pg.eE n.aO.many;omega⟩,aa⟩
def ka.no:ka aK:=⟨⟨cx,cx,cx⟩,cx⟩
def DV (many:Int):∀(L:List aw)(k:Nat)(out z:aw),il many k L out=C z->(∀s∈L,Y s<=3000)->Y z<=Y out+Y L*3000
 |[],k,out,z,h,_=>by cases h;simp
 |s::L,k,out,z,h,hs=>by
  rw[il] at h;split at h;cases h;have:=DV many L (k+1) _ z h (λx a=>hs x (by simp[a]));have:=hs s aq;rw[dB] at *
  rw[fS];omega
def Yr {st:ae}(h:cZ 100000 st){t:bt}(ht:ee t):Y ((nc st t).getD [])<=50000:=by
 obtain⟨a,b⟩:=j9 h ht;have hm:=ht.mn;cases hb:nc st t with
 |none=>simp
 |some z=>have:=DV t.many _ 0 [] z hb b;rw[a] at this;simp at this⊢;omega
def l6 (s:St)(v:SA)(st:ae)(h:cZ 100000 st)(n:dX)(hr:cr s v st):et aZ aW 154 [eg v st,nv n] s (iB v) 100 ((bc st n).getD []) (bc st n).isSome:=by
 have m:=Rd.Bt hr;have k:=Rd.off hr;have l:=Rd.y8 hr;by_cases hc:(!cM n||decide (n.kind≠2)||!da st n.aO)=J
 .have c:bc st n=O:=by unfold bc;rw[ai hc]
  rw[c];refine a8 f154 ?_;repeat' first|refine' PV|refine' Dy|refine' eI|fail
  all_goals first|((refine' eu)<;>rfl)|(exfalso;simp_all;done)
 have e:cM n=J/\n.kind=2/\da st n.aO=J:=by simpa[and_assoc] using hc
 obtain⟨f,t,i⟩:=e;have u:(!cM n)=U:=by rw[f];rfl
 have g2:(!decide (n.kind=2))=U:=by simp[t]
 have w:(!da st n.aO)=U:=by rw[i];rfl
 have ht:=ee.of i;have o:=(ka.of f).sz;have g:=(Pg.ef f).2.1;have j:=Yr h ht;have c:bc st n=match nc st n.aO with
   |none=>O
   |some s=>if(Y s:Int)≠n.size then O else df s:=by unfold bc;rw[af hc];rfl
 refine a8 f154 ?_;(repeat' first|refine' PV|refine' Dy|(apply eV;exact aj;(first|exact λs hr=>MO s _ _ aT _ aT hr|exact λs hr=>MO s _ _ aT ⟨⟨_,_,_,_,_⟩,_,_⟩ aT hr);exact dO;intros)|(apply mu;exact aj;exact λs=>FW s _ aa;intro _ _ a b _ _)|refine' eI|fail);obtain⟨z,d⟩:=sj.1 sN;rw[d] at c ki;rw[c];simp only;rw[ai (show(Y z:Int)≠n.size from ki)];(refine' eu)<;>rfl;obtain⟨z,d⟩:=sj.1 sN;rw[d] at c ki;rw[c];simp only;rw[af (λr:(Y z:Int)≠n.size=>r ki)];(refine' eu)<;>rw[d]<;>rfl;have d:nc st n.aO=O:=by cases hb:nc st n.aO<;>simp_all
 rw[d] at c;rw[c];(refine' eu)<;>rfl
def DI (s:St)(v:SA)(st:ae)(h:cZ 100000 st)(n:dX)(hn:ka n)(hr:cr s v st):bM 42 [eg v st,nv n] s (iB v) (sv (a6 st n)):=by
 have m:=Rd.Bt hr;have g:=Rd.off hr;have j:=Rd.y8 hr;have ht:=hn.tr;have t:=hn.sz;obtain⟨hl,f⟩:=j9 h ht;have hm:=ht.mn;refine a8 f42 ?_;refine' Yf;unfold a6;generalize fU st n.aO=w at *
 refine W.bu (λk l L=>∃(i d:Nat)(z:aw),Le [(3,bk d),(6,H gV (Y w) gW),(5,sv z),(7,iv i)] l/\cb [.aU (H gV (Y w) gW) 9 1 (ab w),.box d (jg n) 67 U] L/\k=Y w-i/\i<=Y w/\Y z<=i*3012/\kM n.size 0 w []=kM n.size i (w.drop i) z)
  (λl L=>Le [(5,sv (kM n.size 0 w []))] l/\cb [] L) (Y w) ⟨0,_,[],bd,ak,aa,aa,aq,rfl⟩ ?_ ?_
 .rintro k l L ⟨i,d,z,a,c,rfl,x,y,b⟩;refine W.le ?_ a c;clear a c;by_cases hi:i<Y w
  .have r:=f _ (a7 hi au.ad);rw[drop_cons hi,kM] at b;(have o:eC n.size i<=12/\ -10000<=eC n.size i:=by unfold eC;omega);(have u:Y (jt (eC n.size i-(Y (w.getD i au.ad):Int)))<=12:=by unfold jt;rw[sk];omega);(repeat' first|refine' acU|refine' Dz|refine' eI|fail);refine⟨_,?_,i+1,_,_,bd,ak,rfl,aa,?_,b⟩;omega;simp only[dB];omega;exfalso;omega
  have e:i=Y w:=by omega
  subst e;rw[re] at b;have b:kM n.size 0 w []=z:=b;refine' eR;all_goals first|(exfalso;omega;done)|(rw[b];exact⟨bd,ak⟩)
 rintro l L ⟨a,c⟩;refine aJ ?_;refine W.le ?_ a c;refine' eR;refine' aC;rfl
def qL (s:St)(v:SA)(st:ae)(h:cZ 100000 st)(t:bt)(ht:ee t)(hr:cr s v st):eD aZ aW 31 [eg v st,tv t] s (iB v) 67 (bj st t):=by
 have o:=Rd.Bt hr;have j:=Rd.off hr;have m:=Rd.y8 hr;obtain⟨hl,g⟩:=j9 h ht;have hm:=ht.mn;refine a8 f31 ?_;refine' Yf;unfold bj;generalize fU st t=w at *
 refine W.bu (λk l L=>∃(i:Nat)(b:aP)(c:Nat)(q:List dX),Le [(6,H gV (Y w) gW),(5,H b (Y q) c),(7,iv i)] l/\cb [.aU (H b (Y q) c) 67 10 (ab q),.aU (H gV (Y w) gW) 9 1 (ab w)] L/\k=Y w-i/\i<=Y w/\q=(w.take i).map λs=>(bY s).getD aK)
  (λl L=>∃(b:aP)(c:Nat),Le [(5,H b (Y (w.map λs=>(bY s).getD aK)) c)] l/\cb [.aU (H b (Y (w.map λs=>(bY s).getD aK)) c) 67 10 (ab (w.map λs=>(bY s).getD aK))] L) (Y w) ⟨0,_,_,[],bd,ak,aa,aa,rfl⟩ ?_ ?_
 .rintro k l L ⟨i,b,c,q,a,e,rfl,x,d⟩;refine W.le ?_ a e;clear a e;have r:Y q<=16:=by rw[d];simp;omega
  by_cases hi:i<Y w
  .have u:=g _ (a7 hi au.ad);(repeat' first|(apply ag;exact aj;exact λs=>sQ s _ aa;intros)|refine' eI|fail);refine⟨_,?_,i+1,_,_,q++[(bY (w.getD i au.ad)).getD aK],bd,ak,rfl,aa,?_⟩;omega;rw[d,dS w au.ad hi];simp;exfalso;omega
  have f:i=Y w:=by omega
  subst f;rw[lG] at d;subst d;refine' eR;all_goals first|(exfalso;omega;done)|exact⟨_,_,bd,ak⟩
 rintro l L ⟨b,c,a,e⟩;refine aJ ?_;refine W.le ?_ a e;refine' eR;refine' kT;rfl
def zN {st:ae}{p:fm}{n:Int}:Y ((below st p n).getD [])<=4:=by
 cases hb:below st p n with
 |none=>simp
 |some w=>have:=(Pg.hY hb).1;simp;omega
def DW (s:St)(v:SA)(st:ae)(h:cZ 100000 st)(t:bt)(hr:cr s v st):eD aZ aW 133 [eg v st,tv t] s (iB v) 31 (fV st t):=by
 have x:=Rd.Bt hr;have r:=Rd.off hr;have u:=Rd.y8 hr;by_cases h0:t.depth=0
 .have hi:fV st t=[]:=by unfold fV;rw[ai (.inl h0)]
  rw[hi];refine a8 f133 ?_;refine' Br;all_goals first|(exfalso;simp_all;done)|((refine' kT);rfl)
 cases m:av t.bU with
 |true=>(have hi:fV st t=[]:=by unfold fV;rw[ai (.inr m)]);rw[hi];refine a8 f133 ?_;refine' Br;all_goals first|(exfalso;simp_all;done)|((refine' kT);rfl)
 |false=>
  have hi:fV st t=t.bU::if t.depth=2 then((below st t.bU 2).getD []).filter (λp=>!av p) else []:=by unfold fV;rw[af];rintro(h|h);exact h0 h;rw[m] at h;cases h
  rw[hi];by_cases j:t.depth=2
  .rw[ai j];have o:=zN (st:=st) (p:=t.bU) (n:=2);refine a8 f133 ?_;(repeat' first|refine' Fq|refine' aba|refine' eI|fail);(all_goals first|(exfalso;simp_all;done)|skip);generalize(below st t.bU 2).getD []=w at *
   refine W.bu (λk l L=>∃(i:Nat)(b:aP)(c:Nat)(q:cc),Le [(6,H Hw (Y w) Hx),(5,H b (Y q) c),(8,iv i)] l/\cb [.aU (H b (Y q) c) 31 5 (ab q),.aU (H Hw (Y w) Hx) 31 5 (ab w)] L/\k=Y w-i/\i<=Y w/\Y q<=i+1/\q=t.bU::(w.take i).filter λp=>!av p)
    (λl L=>∃(b:aP)(c:Nat),Le [(5,H b (Y (t.bU::w.filter λp=>!av p)) c)] l/\cb [.aU (H b (Y (t.bU::w.filter λp=>!av p)) c) 31 5 (ab (t.bU::w.filter λp=>!av p))] L) (Y w) ⟨0,_,_,[]++[t.bU],bd,ak,aa,aa,aq,rfl⟩ ?_ ?_
   .rintro k l L ⟨i,b,c,q,a,f,rfl,y,z,d⟩;refine W.le ?_ a f;clear a f;by_cases hi:i<Y w;have e:=dS w au.ad hi;refine' Br;refine⟨_,?_,i+1,_,_,q++[w.getD i au.ad],bd,ak,rfl,aa,?_,?_⟩;omega;simp;omega;rw[d,e,ri,vN,ai (by rw[ki];rfl)];rfl;refine⟨_,?_,i+1,_,_,q,bd,ak,rfl,aa,aa,?_⟩;omega;rw[d,e,ri,vN,af (by rw[ki];simp)];simp;exfalso;omega;(have g:i=Y w:=by omega);subst g;rw[lG] at d;subst d;refine' Br;all_goals first|(exfalso;omega;done)|exact⟨_,_,bd,ak⟩
   rintro l L ⟨b,c,a,f⟩;refine aJ ?_;refine W.le ?_ a f;refine' eR;refine' kT;rfl
  rw[af j];refine a8 f133 ?_;refine' Br;all_goals first|(exfalso;simp_all;done)|((refine' kT);rfl)
def MQ (s:St)(v:SA)(st:ae)(h:cZ 100000 st)(t:bt)(depth level:Int)(hr:cr s v st):eD aZ aW 134 [eg v st,tv t,iv depth,iv level] s (iB v) 31 (jj st t depth level):=by
 have c:=Rd.Bt hr;have a:=Rd.off hr;have b:=Rd.y8 hr;unfold jj;refine a8 f134 ?_;repeat' first|refine' ad5|refine' aba|refine' eI|fail
 rw[ai aT];refine' kT;rfl;rw[af (by simp_all),ai aT];refine' kT;rfl;have hn:below st t.bU depth=O:=by cases hb:below st t.bU depth<;>simp_all
 rw[af (by simp_all),af aT,hn];refine' kT;rfl;obtain⟨w,d⟩:=sj.1 ki;rw[af (by simp_all),af aT,d];refine' kT;rfl
def Ys (s:St)(v:SA)(st:ae)(h:cZ 100000 st)(t:bt)(o:cc)(B:pG 200 st [t.bU] []=C o)(hr:cr s v st):eD aZ aW 243 [eg v st,tv t] s (iB v) 31 o:=by
 have z:=Rd.Bt hr;have x:=Rd.off hr;have y:=Rd.y8 hr;refine a8 f243 ?_;(repeat(first|refine' v7|refine' gL|fail));refine W.bu (λk l L=>∃(f bs:Nat)(q r:cc)(a c i j:_),Le [(2,bk bs),(5,H a (Y q) c),(6,H i (Y r) j)] l/\cb [.aU (H a (Y q) c) 31 5 (ab q),.aU (H i (Y r) j) 31 5 (ab r),.box bs (lL v st) 29 U] L/\k=f/\f<=200/\Y q<=200-f/\Y r<=1+4*(200-f)/\pG f st r q=C o)
  (λl L=>∃(a:_)(c:_),Le [(5,H a (Y o) c)] l/\cb [.aU (H a (Y o) c) 31 5 (ab o)] L) 200 ⟨200,_,[],[t.bU],_,_,_,_,bd,ak,rfl,aa,aq,aq,B⟩ ?_ ?_
 rintro k l L ⟨f,bs,q,r,a,c,i,j,d,e,rfl,D,F,w,b⟩;refine W.le ?_ d e;clear d e;obtain⟨f,rfl⟩:∃g,k=g+1:=by
  cases k with
  |zero=>cases b
  |succ g=>exact⟨g,rfl⟩
 cases r with
 |nil=>(have b:q=o:=by injection b);subst b;refine' eR;all_goals first|(exfalso;simp_all;done)|exact⟨_,_,bd,ak⟩
 |cons p r=>
  rw[pG] at b;rw[fS] at w;have m:=zN (st:=st) (p:=p) (n:=p.level);cases u:av p with
  |true=>rw[u] at b;have b:pG f st r q=C o:=b;refine' Br;refine⟨_,?_,f,_,q,_,_,_,_,_,bd,ak,rfl,aa,aa,?_,b⟩;omega;show (Y r)<=_;omega;exfalso;simp_all
  |false=>rw[u] at b;have b:pG f st (if 0<p.level then(below st p p.level).getD []++r else r) (q++[p])=C o:=b;(repeat' first|refine' Fq|refine' aba|refine' eI|fail);have ki:0<p.level:=ki;rw[ai ki] at b;refine⟨_,?_,f,_,_,_,_,_,_,_,bd,ak,rfl,aa,?_,?_,b⟩;omega;simp;omega;simp at m⊢;omega;have ki:p.level<=0:=ki;rw[af aa] at b;refine⟨_,?_,f,_,_,_,_,_,_,_,bd,ak,rfl,aa,?_,?_,b⟩;omega;simp;omega;show (Y r)<=_;omega;exfalso;simp_all
 rintro l L ⟨a,c,d,e⟩;refine aJ ?_;refine W.le ?_ d e;refine' eR;refine' kT;rfl
def wr (st:ae)(z:aw)(level:Int):ae×fm×Bool:=match bz st z level with
 |none=>(st,bp,U)
 |C (st1,p)=>(st1,p,J)
def wrV (p:fm)(ok:Bool):Value->Value:=λV=>.tuple ⟨[V,pv p,M ok]⟩
def xf (s:St)(v:SA)(st:ae)(h:cZ 100000 st)(z:aw)(o:Y z<=3000)(level:Int):eS aZ aW 72 [eg v st,sv z,iv level] s [] v st (wr st z level).1 U (wrV (wr st z level).2.1 (wr st z level).2.2):=by
 have m:=h.lr;have hlf:=h.lf;have k:=h.ll;refine a8 f72 ?_;cases d:st.same with
 |true=>
  by_cases j:level=0;have b:decide (level=0)=J:=gZ j;cases g:WQ st z with
  |some i=>
   have hi:=Pg.nY g;(have acW:∀s,cr s v st->bM 130 [eg v st,sv z] s (iB v) (iv i):=λs hr=>by have:=HP s v st h z hr;rwa[g] at this);have e: -(100000:Int)<=st.aI.getD i au.ad/\st.aI.getD i au.ad<=100000:=h.ref i;have hw:bz st z level=match rG i st.dm level z with
     |none=>O
     |some p=>C ({st with dV:=st.dV.set i z,aI:=st.aI.set i (st.aI.getD i 0+1),bW:=st.bW.set i st.dm},p):=by
    unfold bz oq;rw[d,b];simp only[Aq,iO];rw[g];rfl
   cases hp:rG i st.dm level z with
   |none=>(have hpc:∀s,bM 125 [iv i,iv st.dm,iv level,sv z] s [] (yF O):=λs=>by have:=uL s i st.dm level z aa;rwa [hp] at this);rw[hp] at hw;(have PZ:wr st z level=(st,bp,U):=by unfold wr;rw[hw]);rw[PZ];(repeat' first|refine' Sf|refine' XW|refine' eI|fail);refine' fg;rfl;exact λ_=>rfl
   |some p=>(have hpc:∀s,bM 125 [iv i,iv st.dm,iv level,sv z] s [] (yF (C p)):=λs=>by have:=uL s i st.dm level z aa;rwa [hp] at this);rw[hp] at hw;(have PZ:wr st z level=({st with dV:=st.dV.set i z,aI:=st.aI.set i (st.aI.getD i 0+1),bW:=st.bW.set i st.dm},p,J):=by unfold wr;rw[hw]);rw[PZ];(repeat' first|refine' Sf|refine' XW|refine' eI|fail);refine' fg;rfl;exact λ_=>rfl
  |none=>
   (have acW:∀s,cr s v st->bM 130 [eg v st,sv z] s (iB v) (iv (-1)):=λs hr=>by have:=HP s v st h z hr;rwa[g] at this);cases hf:CM st with
   |some i=>
    refine' zaj;have e: -(100000:Int)<=st.aI.getD i au.ad/\st.aI.getD i au.ad<=100000:=h.ref i;have hw:bz st z level=match rG i st.dm level z with
      |none=>O
      |some p=>C ({st with dV:=st.dV.set i z,aI:=st.aI.set i (st.aI.getD i 0+1),bW:=st.bW.set i st.dm},p):=by
     unfold bz oq;rw[d,b];simp only[Aq,iO];rw[g];simp only;rw[hf];rfl
    refine' zac
   |none=>refine' zal;(have hw:bz st z level=O:=by unfold bz oq;rw[d,b];simp only[Aq,iO];rw[g];simp only;rw[hf]);refine' zax;rfl;exact λ_=>rfl
  have b:decide (level=0)=U:=kX j;cases hf:CM st with
  |some i=>
   refine' zaj;have e: -(100000:Int)<=st.aI.getD i au.ad/\st.aI.getD i au.ad<=100000:=h.ref i;have hw:bz st z level=match rG i st.dm level z with
     |none=>O
     |some p=>C ({st with dV:=st.dV.set i z,aI:=st.aI.set i (st.aI.getD i 0+1),bW:=st.bW.set i st.dm},p):=by
    unfold bz oq;rw[d,b];simp only[GJ,jS,ib];rw[hf];rfl
   refine' zac
  |none=>refine' zal;(have hw:bz st z level=O:=by unfold bz oq;rw[d,b];simp only[GJ,jS,ib];rw[hf]);refine' zax;rfl;exact λ_=>rfl
 |false=>
  cases hf:CM st with
  |some i=>
   refine' zaj;have e: -(100000:Int)<=st.aI.getD i au.ad/\st.aI.getD i au.ad<=100000:=h.ref i;have hw:bz st z level=match rG i st.dm level z with
     |none=>O
     |some p=>C ({st with dV:=st.dV.set i z,aI:=st.aI.set i (st.aI.getD i 0+1),bW:=st.bW.set i st.dm},p):=by
    unfold bz oq;rw[d];simp only[tO,jS,ib];rw[hf];rfl
   refine' zac
  |none=>refine' zal;(have hw:bz st z level=O:=by unfold bz oq;rw[d];simp only[tO,jS,ib];rw[hf]);refine' zax;rfl;exact λ_=>rfl
variable {v:SA}{Lm L0:cq}
section
variable {l:Kn}{f:FuncId}{r:Value}{s:St}
def Yh (g:iu l xs vs)(h:∀s,eJ E X f vs s Lm [] λc L'=>c=r/\L'=L0)(e:l3 Lm L R)(k:∀m a,gk L m->m<=a->K r (L0++R) m a (iI [] Lm m a) (iJ Lm m a)):WC E X Γ l f xs ts L K:=
 cI (Lm:=Lm) (R:=R) g e.bX (λs hi b hb=>by cases hb) (λs _=>h s) (by rintro c L' m a d hm ⟨rfl,rfl⟩;exact k m a d hm)
structure yJ (s:St)(v:SA)(st:ae):Prop where
 a:cr s v st
 g:bJ s v.g st.aS.length 5 (ab st.aS)
 d:bJ s v.d st.bL.length 5 (ab st.bL)
structure aa6 (Γ:ng)(L:cq)(v:SA)(st:ae):Prop where
 a:cJ Γ L v st
 g:ga Γ L v.g st.aS.length 5 (ab st.aS)
 d:ga Γ L v.d st.bL.length 5 (ab st.bL)
abbrev FZ (v:SA):List Nat:=iB v++(ah v.g++ah v.d)
def aa6.row (h:aa6 Γ L v st)(hi:Inv Γ s L):yJ s v st/\∀b∈FZ v,qW Γ s b:=by refine⟨⟨(h.a.row hi).1,(h.g.row hi).1,(h.d.row hi).1⟩,λb hb=>?_⟩;obtain hb|hb:=cG.1 hb;exact(h.a.row hi).2 b hb;rcases cG.1 hb with hb|hb;exact(h.g.row hi).2 b hb;exact(h.d.row hi).2 b hb
abbrev MR (E:hJ)(X:fb)(f:FuncId)(vs:aV)(s:St)(A:List Nat)(bB:ae)(mk:Value->Value):Prop:=eJ E X f vs s [] A λr L=>∃a:SA,r=mk (eg a bB)/\L=db a bB
def HF {bB:ae}{mk:Value->Value}(d:iu l xs vs)(h:∀s,yJ s v st->MR E X f vs s (FZ v) bB mk)(b:aa6 Γ L v st)(k:∀m a v',gk L m->m<=a->K (mk (eg v' bB)) (db v' bB++L) m a (iI (FZ v) [] m a) (iJ [] m a)):WC E X Γ l f xs ts L K:=
 cI (Lm:=[]) (R:=L) d (.refl _) (λs hi=>(b.row hi).2) (λs hi=>h s (b.row hi).1) (by rintro e L' m a c hm ⟨v',rfl,rfl⟩;exact k m a v' c hm)
def UG {bB:ae}{mk:Value->Value}(d:iu l xs vs)(h:∀s,MR E X f vs s [] bB mk)(k:∀m a v',gk L m->m<=a->K (mk (eg v' bB)) (db v' bB++L) m a (iI [] [] m a) (iJ [] m a)):WC E X Γ l f xs ts L K:=
 cI (Lm:=[]) (R:=L) d (.refl _) (λs hi b hb=>by cases hb) (λs _=>h s) (by rintro e L' m a c hm ⟨v',rfl,rfl⟩;exact k m a v' c hm)
def ga.apart {a:aP}{n sz:Nat}{cs:aV}(j:ga Γ R a n sz cs)(hi:Inv Γ s (Lm++R)):∀b∈ah a,b∉Lm.flatMap It.bC:=by
 refine' zaP;intro b hb;cases j with
 |rd h=>intro hm;obtain⟨x,hx,i⟩:=kZ.1 hm;have d:=(hi.lt x (im _ hx) b i).2;have k:=Rd.lt h b hb;obtain d|d:=d;omega;exact h.M b hb d
 |aU h=>exact MG h b (by
   cases a with
   |none=>simp[ah] at hb
   |some a=>simpa[It.bC,nH,ah] using hb)
 |sub h hr g=>
  rename_i c e n0 a0 ZW;exact MG h b (by
   have:=g b hb;cases a0 with
   |none=>simp[ah] at this
   |some a=>simpa[It.bC,nH,ah] using this)
 |box h ha hn=>subst ha;exact MG h b (by simpa[It.bC,ah] using hb)
def Us {bB:ae}{ok:Bool}{mk:Value->Value}{a:aP}{n sz:Nat}{cs:aV}(i:iu l xs vs)(h:∀s,bJ s a n sz cs->(∀b∈ah a,b∉(db v st).flatMap It.bC)->eS E X f vs s (ah a) v st bB ok mk)(d:l3 (db v st) L R)(e:ga Γ R a n sz cs)(k:∀m c v',gk L m->m<=c->(ok=U->v'=v)->K (mk (eg v' bB)) (db v' bB++R) m c (iI (ah a) (db v st) m c) (iJ (db v st) m c)):WC E X Γ l f xs ts L K:=
 cI (Lm:=db v st) (R:=R) i d.bX (λs hi=>(e.row (hi.bX d.bX|>.sub ⟨R,.refl _,o7 _ _⟩)).2) (λs hi=>h s (e.row (hi.bX d.bX|>.sub ⟨R,.refl _,o7 _ _⟩)).1 (ga.apart e (hi.bX d.bX))) (by rintro r L' m c g hm ⟨v',hv,rfl,rfl⟩;exact k m c v' g hm hv)
def aiE {rs:List ResultVar}{x:Ex}{v':SA}{bB:ae}{mk:Value->Value}{ws:aV}(b:x= .normal\/x= .ret)(hr:AE E l L rs ws)(a:cb (db v' bB) L)(hv:fj ws=mk (eg v' bB)):
  zt E rs (λr L=>∃v':SA,r=mk (eg v' bB)/\L=db v' bB) x l L:=⟨b,ws,_,hr,a,v',hv,rfl⟩
def aik {rs:List ResultVar}{x:Ex}{ws:aV}(b:x= .normal\/x= .ret)(hr:AE E l L rs ws)(a:cb L0 L)(hv:fj ws=r):zt E rs (λc L'=>c=r/\L'=L0) x l L:=⟨b,ws,_,hr,a,hv,rfl⟩
end
def MS:∀(new old B:aV),Y old=Y new->Go.Ev.kH new (old++B)=C (new++B)
 |[],[],B,_=>rfl
 |[],_::_,B,h=>by cases h
 |x::new,[],B,h=>by cases h
 |x::new,y::old,B,h=>by show ob (Go.Ev.kH new (old++B)) (λr=>C (x::r))=_;rw[MS new old B (by simpa using h)];rfl
def HT:∀(A new old B:aV),Y old=Y new->fK (Y A) new (A++(old++B))=C (A++(new++B))
 |[],new,old,B,h=>MS new old B h
 |x::A,new,old,B,h=>by show ob (fK (Y A) new (A++(old++B))) (λr=>C (x::r))=_;rw[HT A new old B h];rfl
def Yt {α:Type}{sz:Nat}{enc:au α sz}(p:List α){i:Nat}(q:α)(hi:i<Y p):fK (i*sz) (au.cells (sz:=sz) q) (ab (sz:=sz) p)=C (ab (sz:=sz) (p.set i q)):=by
 have a:p=p.take i++(p.getD i (au.ad (sz:=sz))::p.drop (i+1)):=by rw[eX,c8 hi];simp
 have b:p.set i q=p.take i++q::p.drop (i+1):=by rw[List.set_eq_take_append_cons_drop,ai hi]
 have c:Y (ab (sz:=sz) (p.take i))=i*sz:=by rw[bn,de,tH (rk hi)]
 rw[b];conv=>lhs;rw[a]
 rw[ir,ir,eU,eU,<-c];exact HT _ _ _ _ (by rw[au.len,au.len])
def Yu {l:aV}(h:∀v∈l,flat v=J):kr l=J:=by
 induction l with
 |nil=>rfl
 |cons x l ih=>show bo (flat x) (kr l) U=J;rw[h x aq,ih (λy a=>h y (by simp[a]))];rfl
def Qd {E:hJ}{X:fb}{Γ:ng}{l:Kn}{L L':cq}{K:KO}{x y:Operand}{t:TypeId}{a:aP}{n sz:Nat}{α:Type}{enc:au α sz}{p:List α}{q:α}{i c e:Nat}[ht:ie E t sz](D:Ev l x (fY a i sz 0))(F:Ev l y (.agg ⟨au.cells (sz:=sz) q⟩))
  (hu:CT (.aU (H a n c) e sz (ab (sz:=sz) p)) (.aU (H a n c) e sz (ab (sz:=sz) (p.set i q))) L L')(hi:i<Y p)(k:∀n,K (.tuple ⟨[]⟩) L' n n (λi=>i∈ah a) (λi=>i∈ah a)):WO E X Γ l (.store t x y) L K:=λz s r g=>by
 obtain⟨R,G,S⟩:=hu.bX;have hm:It.aU (H a n c) e sz (ab (sz:=sz) p)∈L:=G.mem_iff.2 aq;obtain⟨j,m⟩|⟨b,n',Q,w,rest,j,m,u,B⟩:=g.it _ hm;cases j;have:=bn (sz:=sz) p;rw[m] at this;have N:=enc.pos;have:Y p*sz=0:=by simpa using this.symm
 obtain h|h:=Nat.mul_eq_zero.1 this<;>omega;cases j;have d:=(g.may hm (b:=b) (by simp[It.bC,nH]));have hr:=g.aL d;have f:=Yt (enc:=enc) p q hi;refine eM.pure (v:=.tuple ⟨[]⟩) (s':=(s.aL b).put b (C (.cells (ab (sz:=sz) (p.set i q)++rest) e w))) (λcall=>?_) ⟨L',(λi=>i∈ah (ko b)),(λi=>i∈ah (ko b)),hr.put hu rfl rfl ?_,(iS.trans (cH d.1 (by simp[ah])) (jx (by simpa using d.1) (by simp[ah]) (by simp[ah]))),by rw[dn,bh];exact k _⟩;show(VO (aM z x) λb o=>py E s t b o (aM z y))=_;rw[D.eval r,F.eval r];show py E s t b (0+(i*sz+0)) _=_;unfold py St.row St.look;rw[m];simp only[bF,ht.h,kz,wu];show dq (beq (dJ (au.cells (sz:=sz) q)) sz) (dq (kr (au.cells (sz:=sz) q)) (ob (fK (i*sz) (au.cells (sz:=sz) q) (ab (sz:=sz) p++rest)) _))=_;rw[vg rest _ _ _ _ f,cR,au.len,kY,Yu (au.fl (sz:=sz) q)];rfl;exact .inr ⟨b,_,_,w,rest,rfl,by show T.get (St.heap _) b=_;simp,by rw[bn] at u⊢;simpa using u,Jj B (by rw[bn,bn,mV])⟩
def PO {E:hJ}{X:fb}{Γ:ng}{l:Kn}{L R:cq}{K:KO}{x y:Operand}{t t2:TypeId}{a a2:aP}{n sz:Nat}{α:Type}{enc:au α sz}{e c c2:Nat}{q:List α}[ht:TT E t e sz α enc][ht2:TT E t2 e sz α enc](f:Ev l x (H a (Y ([]:List α)) c))(g:Ev l y (H a2 n c2))(hr:Bm (.aU (H a (Y ([]:List α)) c) e sz (ab (sz:=sz) ([]:List α))) L R)(hs:ga Γ L a2 n sz (ab (sz:=sz) q))(d:Y q=n)(hn:n<=1000000)
  (k:∀b b' a' c',gk L b->b<=b'->(∀i∈ah a',i∈ah a\/i=b)->K (H a' n c') (.aU (H a' n c') e sz (ab (sz:=sz) q)::R) b b' (λi=>i∈ah a2\/i∈ah a\/i=b) (λi=>i∈ah a\/i=b)):WO E X Γ l (.call ⟨.builtin .append,⟨[x,y]⟩,⟨[t,t2]⟩⟩) L K:=by subst d;exact wR (p:=([]:List α)) (q:=q) f g hr hs (by simpa using hn) k
def Dm {E:hJ}{X:fb}{Γ:ng}{l:Kn}{L L':cq}{K:KO}{x y:Operand}{t:TypeId}{a:aP}{n sz:Nat}{α:Type}{enc:au α sz}{p:List α}{q:α}{i c e:Nat}[ht:ie E t sz](b:Ev l x (fY a i sz 0))
  (hu:CT (.aU (H a n c) e sz (ab (sz:=sz) p)) (.aU (H a n c) e sz (ab (sz:=sz) (p.set i q))) L L')(d:Ev l y (.agg ⟨au.cells (sz:=sz) q⟩))(hi:i<Y p)(k:∀n,K (.tuple ⟨[]⟩) L' n n (λi=>i∈ah a) (λi=>i∈ah a)):WO E X Γ l (.store t x y) L K:=Qd b d hu hi k
def Sa {X:fb}{Γ:ng}{l:Kn}{L:cq}{K:KO}{x y:Operand}{t2:TypeId}{p q:fm}(f:Ev l x (.agg ⟨nA p⟩))(g:Ev l y (.agg ⟨nA q⟩))(k:∀n,K (M (decide (p=q))) L n n Z Z):WO aZ X Γ l (.binOp .eql 31 x y t2) L K:=by refine Jo f g rfl (uK _ _ _ _ _ _ _ _ _ _) λn=>?_;have:=k n;obtain⟨a,b,c,d,e⟩:=p;obtain⟨a',b',c',h,i⟩:=q;simpa[and_assoc] using this
def Sb {X:fb}{Γ:ng}{l:Kn}{L:cq}{K:KO}{x y:Operand}{t2:TypeId}{p q:fm}(f:Ev l x (.agg ⟨nA p⟩))(g:Ev l y (.agg ⟨nA q⟩))(k:∀n,K (M !(decide (p=q))) L n n Z Z):WO aZ X Γ l (.binOp .neq 31 x y t2) L K:=by refine Jp f g rfl (uK _ _ _ _ _ _ _ _ _ _) λn=>?_;have:=k n;obtain⟨a,b,c,d,e⟩:=p;obtain⟨a',b',c',h,i⟩:=q;simpa[and_assoc] using this
section
variable {l:Kn}{f:FuncId}{s:St}
def Ut {bB:ae}{ok:Bool}{mk:Value->Value}{a:aP}{n c e sz:Nat}{cs:aV}(t:iu l xs vs)(h:∀s,bJ s a n sz cs->(∀b∈ah a,b∉(db v st).flatMap It.bC)->tg s a n c e sz->eS E X f vs s (ah a) v st bB ok mk)(j:l3 (db v st) L R)(i:It.aU (H a n c) e sz cs∈R)(k:∀m d v',gk L m->m<=d->(ok=U->v'=v)->K (mk (eg v' bB)) (db v' bB++R) m d (iI (ah a) (db v st) m d) (iJ (db v st) m d)):WC E X Γ l f xs ts L K:=
 cI (Lm:=db v st) (R:=R) t j.bX (λs hi=>((ga.aU i).row (hi.bX j.bX|>.sub ⟨R,.refl _,o7 _ _⟩)).2)
   (λs hi=>by have g:=hi.bX j.bX|>.sub ⟨R,.refl _,o7 _ _⟩;have o:=(ga.aU i).row g;exact h s o.1 (ga.apart (.aU i) (hi.bX j.bX)) (nV.slv (g.it _ i) λb hb=>(o.2 b hb).1))
   (by rintro r L' m d p hm ⟨v',hv,rfl,rfl⟩;exact k m d v' p hm hv)
end
def UH (s:St)(v:SA)(aI bW:List Int)(i:Nat)(hf:Y aI=64)(hl:Y bW=64)(hi:i<64)(hb: -1000000<=aI.getD i au.ad/\aI.getD i au.ad<=1000000):
  Ht 189 [.agg ⟨[H v.f 64 v.fc,H v.l 64 v.lc]⟩,iv i] s [.aU (H v.f 64 v.fc) 3 1 (ab aI),.aU (H v.l 64 v.lc) 3 1 (ab bW)] [] λd L'=>d= .agg ⟨[H v.f 64 v.fc,H v.l 64 v.lc]⟩/\L'=[.aU (H v.f 64 v.fc) 3 1 (ab (aI.set i (aI.getD i 0-1))),.aU (H v.l 64 v.lc) 3 1 (ab (if aI.getD i 0-1=0 then bW.set i 0 else bW))]:=by
 have a:(aI.set i (aI.getD i au.ad-1)).getD i au.ad=aI.getD i au.ad-1:=by show(aI.set i _).getD i 0=_;rw[Pg.j8,ai ⟨rfl,aa⟩]
 have b:Y (aI.set i (aI.getD i au.ad-1))=64:=by rwa[mV]
 refine a8 f189 ?_;refine' eR;rw[ai (show aI.getD i 0-1=0 from a.symm.trans aT)];refine' acR;rfl;rw[af (show ¬aI.getD i 0-1=0 from λc=>(by assumption:¬_) (a.trans c))];refine' acR;rfl
def Up (s:St)(v:SA)(st:ae)(h:cZ 100000 st)(row:Int)(hr:0<=row/\row<64):eS aZ aW 123 [eg v st,iv row] s [] v st (drop st row) J id:=by
 obtain⟨i,rfl⟩:=tI hr.1;have hi:i<64:=by omega
 have j:=h.lr;have c:=h.lf;have d:=h.ll;have hb: -1000000<=st.aI.getD i au.ad/\st.aI.getD i au.ad<=1000000:=by have g: -(100000:Int)<=st.aI.getD i au.ad/\st.aI.getD i au.ad<=100000:=h.ref i;omega
 have hg:∀s,Ht 189 [.agg ⟨[H v.f 64 v.fc,H v.l 64 v.lc]⟩,iv i] s [.aU (H v.f 64 v.fc) 3 1 (ab st.aI),.aU (H v.l 64 v.lc) 3 1 (ab st.bW)] [] λo L'=>o= .agg ⟨[H v.f 64 v.fc,H v.l 64 v.lc]⟩/\L'=[.aU (H v.f 64 v.fc) 3 1 (ab (st.aI.set i (st.aI.getD i 0-1))),.aU (H v.l 64 v.lc) 3 1 (ab (if st.aI.getD i 0-1=0 then st.bW.set i 0 else st.bW))]:=λs=>UH s v st.aI st.bW i c d hi hb;have a:(st.aI.set i (st.aI.getD i 0-1)).getD i au.ad=st.aI.getD i 0-1:=by show(st.aI.set i _).getD i 0=_;rw[Pg.j8,ai ⟨rfl,aa⟩]
 have k:Y (st.aI.set i (st.aI.getD i 0-1))=64:=by rw[mV];exact c
 by_cases b:st.aI.getD i 0-1=0;have hd:drop st i={st with dV:=st.dV.set i [],aI:=st.aI.set i (st.aI.getD i 0-1),bW:=st.bW.set i 0}:=by unfold drop;simp only[px,ai b]
 rw[hd];simp only[ai b] at hg;have e:decide ((st.aI.set i (st.aI.getD i 0-1)).getD i au.ad=0)=J:=gZ (a.trans b);refine a8 f123 ?_;dsimp only[db];refine' ac8;refine' fg;rfl;intro hc;cases hc;have hd:drop st i={st with aI:=st.aI.set i (st.aI.getD i 0-1)}:=by unfold drop;simp only[px,af b]
 rw[hd];simp only[af b] at hg;have e:decide ((st.aI.set i (st.aI.getD i 0-1)).getD i au.ad=0)=U:=kX (λm=>b (a.symm.trans m));refine a8 f123 ?_;dsimp only[db];refine' ac8;refine' fg;rfl;intro hc;cases hc
def HA (s:St)(v:SA)(st:ae)(h:cZ 100000 st)(p:fm)(o:aQ p=J):eS aZ aW 74 [eg v st,pv p] s [] v st (free st p) J id:=by
 have m:=h.gl;have k:=h.dl;cases j:av p with
 |true=>rw[show free st p=st from Pg.zA j];refine a8 f74 ?_;dsimp only[db];refine' Br;refine' fg;rfl;intro hc;cases hc
 |false=>
  have t:=oA o j;have i:free st p=if p.bE<=st.iz then {st with bL:=st.bL++[p]} else if p.bE<st.dm then {st with aS:=st.aS++[p]} else drop st p.row:=by unfold free;rw[af (by rw[j];simp)]
  rw[i];by_cases a:p.bE<=st.iz;rw[ai a];have c:=gZ a;refine a8 f74 ?_;dsimp only[db];refine' Br;refine' ad0;rfl;intro hc;cases hc;rw[af a];have c:=kX a;by_cases b:p.bE<st.dm;rw[ai b];have e:=gZ b;refine a8 f74 ?_;dsimp only[db];refine' Br;refine' ad1;rfl;intro hc;cases hc;rw[af b];have e:=kX b;refine a8 f74 ?_;dsimp only[db];repeat' first|refine' Fq|refine' acY|refine' eI|fail
  refine' fg;rfl;intro hc;cases hc
def uR (st:ae)(l:cc)(level:Int)(old:fm):ae×fm×Bool:=match Pf st l level old with
 |none=>(st,bp,U)
 |C (x,p)=>(x,p,J)
def xh {l:cc}(a:Y l=4):Y ((fM l).getD [])<=128:=by
 cases h:fM l with
 |none=>simp
 |some s=>have:=(Pg.uy h).2.2.2;subst this;exact(Pg.aaX a).1
def MT (s:St)(v:SA)(st:ae)(h:cZ 100000 st)(a:aP)(c:Nat)(l:cc)(r:Y l=4)(level:Int)(old:fm)(hr:bJ s a (Y l) 5 (ab l))(hm:∀b∈ah a,b∉(db v st).flatMap It.bC):
  eS aZ aW 135 [eg v st,H a (Y l) c,iv level,pv old] s (ah a) v st (uR st l level old).1 U (wrV (uR st l level old).2.1 (uR st l level old).2.2):=by
 have hd:Rd ⟨s,(db v st).flatMap It.bC,ah a⟩ a (Y l) 5 (ab l):=⟨hr,λb hb=>hb,hm⟩;have u:=h.lr;have t:=xh r;cases ha:l.all av with
 |true=>
  have hf:uR st l level old=(st,bp,J):=by unfold uR Pf;rw[ha];rfl
  rw[hf];refine a8 f135 ?_;dsimp only[db] at hd⊢;repeat' first|refine' XZ|refine' eI|fail
  refine' fg;rfl;exact λ_=>rfl
 |false=>
  by_cases hc:(!av old&&fits old ((fM l).getD [])&&decide (gB st old=(fM l).getD []))=J
  ·(have hf:uR st l level old=(st,old,J):=by unfold uR Pf;rw[ha];simp only[jS,ib];rw[ai hc]);rw[hf];simp only[ep,ra,gv] at hc;obtain⟨⟨i,e⟩,o⟩:=hc;(have m:aQ old=J:=by simp[fits] at e;exact e.1.1.1);have d:=oA m i;have k:decide (st.dV.getD old.row.toNat au.ad=(fM l).getD [])=J:=gZ o;(have g:(!av old)=J:=by rw[i];rfl);refine a8 f135 ?_;dsimp only[db] at hd⊢;(repeat' first|refine' XZ|refine' acZ|refine' Fq|refine' ad4|refine' eI|fail);refine' fg;rfl;exact λ_=>rfl
  have hf:uR st l level old=wr st ((fM l).getD []) level:=by unfold uR Pf wr;rw[ha];simp only[jS,ib];rw[af hc];try rfl
  rw[hf];have d:av old=U->fits old ((fM l).getD [])=J->8<=old.row/\old.row<=63:=λi e=>oA (by simp[fits] at e;exact e.1.1.1) i;cases j:av old with
  |true=>(have g:(!av old)=U:=by rw[j];rfl);refine' za0;rfl;exact zG
  |false=>
   (have g:(!av old)=J:=by rw[j];rfl);cases f:fits old ((fM l).getD []) with
   |false=>refine' za0;rfl;exact zG
   |true=>have d:=d j f;(have k:decide (st.dV.getD old.row.toNat au.ad=(fM l).getD [])=U:=by rw[mW];intro w;apply hc;rw[j,f];exact gZ w);refine' za0;rfl;exact zG
variable {i:Nat}{level:Int}{was stays out:cc}
section
variable {t:bt}{L:cc}
def oN {α:Type}{l:List α}{x y:α}(h:y∈l.set i x):y∈l\/y=x:=by obtain h|h:=V5 h;exact .inl h;exact .inr h
def cZ.bz {n:Nat}{st bB:ae}{s:aw}{p:fm}(h:cZ n st)(hs:Y s<=3000)(b:bz st s level=C (bB,p)):cZ (n+1) bB/\aQ p=J/\bB.aS=st.aS/\bB.bL=st.bL:=by unfold Go.Pl.bz at b;split at b;cases b;rename_i i _;split at b;cases b;rename_i q c;cases b;have hr:=h.ref i;have ht:=h.tx;have d:=h.kp;refine⟨⟨by simp[h.lr],by simp[h.lf],by simp[h.ll],λx a=>?_,λx a=>?_,by show 1<=st.dm/\st.dm<=_;omega,by show 0<=st.iz/\st.iz<=_;omega,by have:=h.gl;show Y st.aS<=_;omega,by have:=h.dl;show Y st.bL<=_;omega,h.gr⟩,(Pg.C4 c).2.2.2,rfl,rfl⟩;rcases oN a with a|rfl;exact h.rw x a;exact hs;rcases oN a with a|rfl;have:=h.rf x a;omega;omega
def cZ.drop {n:Nat}{st:ae}{row:Int}(h:cZ n st):cZ (n+1) (drop st row):=by have hr:=h.ref row.toNat;have ht:=h.tx;have b:=h.kp;unfold Go.Pl.drop;refine⟨?_,by simp[h.lf],?_,λx a=>?_,λx a=>?_,by show 1<=st.dm/\st.dm<=_;omega,by show 0<=st.iz/\st.iz<=_;omega,by have:=h.gl;show Y st.aS<=_;omega,by have:=h.dl;show Y st.bL<=_;omega,h.gr⟩;dsimp only;split<;>simp[h.lr];dsimp only;split<;>simp[h.ll];dsimp only at a;split at a;rcases oN a with a|rfl;exact h.rw x a;simp;exact h.rw x a;dsimp only at a;obtain a|rfl:=oN a;have:=h.rf x a;omega;omega
def cZ.free {n:Nat}{st:ae}{p:fm}(h:cZ n st)(d:aQ p=J):cZ (n+1) (free st p):=by
 unfold Go.Pl.free;split;exact h.mono aa;rename_i c;have e:=oA d (by simpa using c);split;exact⟨h.lr,h.lf,h.ll,h.rw,λx b=>by have:=h.rf x b;omega,by have:=h.tx;show 1<=st.dm/\st.dm<=_;omega,by have:=h.kp;show 0<=st.iz/\st.iz<=_;omega,by have:=h.gl;show Y st.aS<=_;omega,by have:=h.dl;show(st.bL++[p]).length<=_;rw[dB,vJ];omega,h.gr⟩;split;refine⟨h.lr,h.lf,h.ll,h.rw,λx b=>by have:=h.rf x b;omega,by have:=h.tx;show 1<=st.dm/\st.dm<=_;omega,by have:=h.kp;show 0<=st.iz/\st.iz<=_;omega,by have:=h.gl;show(st.aS++[p]).length<=_;rw[dB,vJ];omega,by have:=h.dl;show Y st.bL<=_;omega,λq a=>?_⟩;obtain a|a:=cG.1 a;exact h.gr q a;have:q=p:=by simpa using a
 subst this;omega;exact h.drop
def cZ.dA {st:ae}:∀{n:Nat}(l:cc){st:ae},cZ n st->(∀p∈l,aQ p=J)->cZ (n+Y l) (dA l st)
 |n,[],st,h,_=>h
 |n,p::l,st,h,a=>by have:=cZ.dA (st:=st) l (h.free (a p aq)) (λx b=>a x (by simp[b]));rwa[fS,show n+(Y l+1)=n+1+Y l by omega]
def Yv {n:Nat}{st:ae}{l:cc}{old:fm}(h:cZ n st)(a:Y l=4):cZ (n+1) (uR st l level old).1/\(uR st l level old).1.aS=st.aS/\(uR st l level old).1.bL=st.bL:=by
 unfold uR;cases hf:Pf st l level old with
 |none=>exact⟨h.mono aa,rfl,rfl⟩
 |some r=>obtain⟨bB,p⟩:=r;unfold Pf at hf;simp only;split at hf;cases hf;exact⟨h.mono aa,rfl,rfl⟩;simp only at hf;split at hf;cases hf;exact⟨h.mono aa,rfl,rfl⟩;have:=h.bz (by have:=xh a;omega) hf;exact⟨this.1,this.2.2⟩
def MU {st:ae}(ht:aQ t.bU=J):Y (fV st t)<=5/\∀p∈fV st t,aQ p=J:=by
 unfold fV;split;simp;split;have hb:=zN (st:=st) (p:=t.bU) (n:=2);have hf:=KW (λp=>!av p) ((below st t.bU 2).getD []);refine⟨by rw[fS];omega,λp a=>?_⟩;obtain rfl|a:=cA.1 a;exact ht;have a:=(Ad.1 a).1;cases b:below st t.bU 2 with
 |none=>rw[b] at a;cases a
 |some w=>rw[b] at a;exact(Pg.hY b).2.1 p (by simpa using a)
 refine⟨aq,λp a=>?_⟩;have:p=t.bU:=by simpa using a
 rwa[this]
def UI {st:ae}{depth level:Int}(hd:depth=1\/depth=2):(level=depth->1<=Y (jj st t depth level))/\(level≠depth->Y (jj st t depth level)=4)/\Y (jj st t depth level)<=4:=by
 unfold jj;split;exact⟨λ_=>by simp[cX],λ_=>by simp[cX],by simp[cX]⟩;split;exact⟨λ_=>by simp,λh=>by contradiction,aq⟩;have:Y ((below st t.bU depth).getD (cX 4))=4:=by
  cases hb:below st t.bU depth with
  |none=>simp[cX]
  |some w=>simpa using(Pg.hY hb).1
 exact⟨λ_=>by omega,λ_=>this,aa⟩
def MV {st:ae}(h:4*i+4<=Y L)(f:i<Y was):kn level (L.drop (4*i)) (was.drop i) st stays out=match Pf st ((L.drop (4*i)).take 4) level (was.getD i au.ad) with
  |none=>(st,O)
  |C (x,p)=>kn level (L.drop (4*(i+1))) (was.drop (i+1)) x (if p=was.getD i au.ad then stays++[p] else stays) (out++[p]):=by
 obtain⟨a,b,c,d,r,hr⟩:∃a b c d r,L.drop (4*i)=a::b::c::d::r:=by
  have hl:Y (L.drop (4*i))=Y L-4*i:=fq;match g:L.drop (4*i),hl with
  |a::b::c::d::r,_=>exact⟨a,b,c,d,r,rfl⟩
  |[],hl=>simp at hl;omega
  |[a],hl=>simp at hl;omega
  |[a,b],hl=>simp at hl;omega
  |[a,b,c],hl=>simp at hl;omega
 have e:L.drop (4*(i+1))=r:=by rw[show 4*(i+1)=4*i+4 by omega,<-wx,hr];rfl
 rw[e,hr,drop_cons f,kn];simp only[List.headD_cons,List.tail_cons,Rj,B9];cases Pf st [a,b,c,d] level (was.getD i au.ad) with
 |none=>rfl
 |some r=>rfl
def DX {st:ae}(h:L=[]):kn level L was st stays out=(st,C (stays,out)):=by subst h;rw[kn];intros;contradiction
def AM (l:cc):Y (fD l)% 4=0/\Y l<=Y (fD l)/\Y (fD l)<Y l+4:=by unfold fD;rw[dB];simp only[cX,sk];omega
end
def Yw (o:Option bt):Value->Value:=λV=>.tuple ⟨[V,tv (o.getD fC),M o.isSome]⟩
abbrev Z4:aV:=[ew,ew,ew,dP,ew,dP,ew,M U]
abbrev Z5:aV:=[dP,dP,dP,dP,dP,dP,dP]
def HU (l:cc)(x y:fm):(l++[x]).contains y=(l.contains y||decide (x=y)):=by rw[o6,km,List.contains_iff_mem,List.contains_iff_mem,cG,gI,gv];constructor;rintro(h|h);exact .inl h;exact .inr h.symm;rintro(h|h);exact .inl h;exact .inr h.symm
end Go.Pl
