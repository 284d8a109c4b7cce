/- Lemmas of the proof. No conditions. -/
import Derived.Test.YtnealhiolaklpaaGreatDoorAc1
set_option maxRecDepth 100000
set_option maxHeartbeats 4000000
set_option linter.all false
open Bool renaming false->U,true->J
open Option renaming none->O,some->C
open List renaming length->Y
open Go.Value renaming slice->H,bool->M,int->I
open Go.Proofs.Tryz
open Nat (beq ble mul)
open Go.Result (andThen_ok)
open Go.Sem (run_bind)
open Go.Region (binds)
open List (replicate)
open Int (toNat)
open Go.Builtin (firstCells)
open Go.Instr (checkKey)
namespace Go
variable{P:Prop}
def zac (h:P:=by
 cases hp:rG i st.dm level z with
 |none=>
  have hpc:∀s,bM 125 [iv i,iv st.dm,iv level,sv z] s [] (yF none):=λs=>by have:=uL s i st.dm level z aa;rwa [hp] at this
  rw[hp] at hw;have PZ:wr st z level=(st,bp,false):=by unfold wr;rw[hw]
  rw[PZ];refine' ac7;refine' fg;rfl;exact λ_=>rfl
 |some p=>
  have hpc:∀s,bM 125 [iv i,iv st.dm,iv level,sv z] s [] (yF (some p)):=λs=>by have:=uL s i st.dm level z aa;rwa [hp] at this
  rw[hp] at hw;have PZ:wr st z level=({st with dV:=st.dV.set i z,aI:=st.aI.set i (st.aI.getD i 0+1),bW:=st.bW.set i st.dm},p,true):=by unfold wr;rw[hw]
  rw[PZ];refine' ac7;refine' fg;rfl;exact λ_=>rfl
 all_goals obtain h:=_;exact h):P:=h
def zag (h:P:=by
 have x8:bg l=true:=by
  unfold bc at h;split at h;cases h;split at h;cases h;split at h;cases h;unfold df at h;split at h;cases h;split at h;cases h;rename_i hc;cases h;cases hq:bg l with
  |true=>rfl
  |false=>rw[hq] at hc;simp at hc
 all_goals obtain h:=_;exact h):P:=h
def zaj (h:P:=by
 have hi:=Pg.nY hf;have hfc:∀s (a:aP) c,cr s v st->bM 131 [.agg ⟨[.slice v.f 64 v.fc,.slice v.l 64 v.lc]⟩,iv 8,.slice a 0 c] s (iB v) (iv i):=λs a c hr=>by have:=HM s v st hlf a c hr;rw[hf] at this;exact this
 all_goals obtain h:=_;exact h):P:=h
def zal (h:P:=by
 have hfc:∀s (a:aP) c,cr s v st->bM 131 [.agg ⟨[.slice v.f 64 v.fc,.slice v.l 64 v.lc]⟩,iv 8,.slice a 0 c] s (iB v) (iv (-1)):=λs a c hr=>by have:=HM s v st hlf a c hr;rw[hf] at this;exact this
 all_goals obtain h:=_;exact h):P:=h
def zax (h:P:=by
 have PZ:wr st z level=(st,bp,false):=by unfold wr;rw[hw]
 rw[PZ];repeat' first|refine' Sf|refine' acX|refine' eI|fail
 refine' fg;all_goals obtain h:=_;exact h):P:=h
def zaI (h:P:=by
 all_goals refine oM (v':=uJ) bK bH ak rfl
 all_goals obtain h:=_;exact h):P:=h
def zaP (h:P:=by have mU:=hi.nd;rw[xH,vD] at mU;have MG:∀{x:It},x∈R->∀b∈x.bC,b∉Lm.flatMap It.bC:=λhx b hb hm=>mU.2.2 b hm b (kZ.2 ⟨_,hx,hb⟩) rfl;all_goals obtain h:=_;exact h):P:=h
def zaU (h:P:=by refine a8 f16 ?_;(repeat' first|(apply eV;exact aj;exact λs hr=>Sc s hr;exact dO;intros)|refine' KF|refine' cY|fail);all_goals obtain h:=_;exact h):P:=h
def zaX (h:P:=by have:=pf s b v ⟨st,t,false⟩ GS ht bD aa hr;rwa [qA] at this;all_goals obtain h:=_;exact h):P:=h
def za0 (h:P:=by refine a8 f135 ?_;dsimp only[db] at hd⊢;refine' agp;refine' fg;all_goals obtain h:=_;exact h):P:=h
def za1 (h:P:=by intro o hb ho;rw[xE] at hb⊢;simp only[iO] at hb⊢;rcases hw:iq n kind E f ⟨bb x.ar e.name,e.id⟩ o with⟨o2,b2⟩;all_goals obtain h:=_;exact h):P:=h
end Go
namespace Go.Pl
open Go Go.Ev Go.Lg Go.Proofs
def P7 {z:aw}(h:0<Y z)(h0:z.getD 0 0=47):cut 47 z=[]::cut 47 z.tail:=by
 cases z with
 |nil=>simp at h
 |cons x z=>have:x=47:=h0;subst this;simp[cut]
def Mi (s:St)(z:aw)(b:Y z<=100000)(h:0<Y z)(h0:z.getD 0 0=47):acH aZ aW 187 [sv z] s [] 9 (aH z):=by
 have a:=P7 h h0;have hl:0<Y (cut 47 z):=by rw[a];simp
 refine a8 f187 ?_;repeat' first|refine' XS|refine' eI|fail
 (refine' acO);unfold aH;rw[ai aT];(refine' acO);unfold aH;rw[af aT,a];rfl
def pg (l:List aw):aw:=(l.map λs=>47::s).flatten
def JQ (l:List aw)(d:aw){i:Nat}(h:i<Y l):pg (l.take (i+1))=pg (l.take i)++47::l.getD i d:=by rw[dS l d h];simp[pg]
def MH (s:St)(a:aP)(c:Nat)(p:List aw)(j:Y p<=100000)(hn:∀e∈p,Y e<=3000)(hr:bJ s a (Y p) 1 (ab p)):bM 246 [H a (Y p) c] s (ah a) (sv (pathOf p)):=by
 have hd:=Rd.of hr (A:=ah a) λb hb=>hb;refine a8 f246 ?_;(repeat(first|refine' v7|refine' gL|fail));refine W.bu (λk l L=>∃(i:Nat),Le [(0,H a (Y p) c),(3,sv (pg (p.take i))),(4,iv i)] l/\cb [] L/\k=Y p-i/\i<=Y p/\Y (pg (p.take i))<=i*3001)
  (λl L=>Le [(3,sv (pg p))] l/\cb [] L) (Y p) ⟨0,bd,ak,aa,aa,by simp[pg]⟩ ?_ ?_
 rintro k l L ⟨i,hl,d,rfl,f,g⟩;refine' cP;have hb:=λh:i<Y p=>hn _ (a7 h au.ad);have e:=λh:i<Y p=>JQ p au.ad h;by_cases hi:i<Y p
 .have hb:=hb hi;have e:=e hi;refine' eR;refine⟨_,?_,i+1,?_,ak,rfl,aa,?_⟩;omega;rw[e,show ∀a b:aw,a++47::b=a++[47]++b from λa b=>by simp];exact bd;rw[e,dB,fS];omega;all_goals(exfalso;omega)
 (refine' eR);omega;have hi:i=Y p:=by omega
 subst hi;rw[lG];exact⟨bd,ak⟩;rintro l L ⟨hl,d⟩;refine aJ ?_;refine W.le ?_ hl d;have e:pg p=[]↔p=[]:=by cases p<;>simp[pg]
 refine' eR;(refine' aC);unfold pathOf;rw[ai (e.1 aT)];rfl;(refine' aC);unfold pathOf;rw[af (λh=>(by assumption:¬_) (e.2 h))];rfl
def HN {z:aw}:∀w∈aH z,Y w<=Y z:=by intro w a;unfold aH at a;split at a;cases a;exact sP 47 z w (List.mem_of_mem_tail a)
def pV {z:aw}:Y (aH z)<=Y z+1:=by unfold aH;split;simp;have:=pT 47 z;rw[List.length_tail];omega
def Uo (s:St)(z:aw)(r:Y z<=90000):bM 122 [sv z] s [] (M (bQ z)):=by
 have hm:=pV (z:=z);have f:∀i,i<Y (aH z)->Y ((aH z).getD i au.ad)<=Y z:=λi hi=>HN _ (a7 hi _);by_cases a:z=[]
 .subst a;refine a8 f122 ?_;refine' eR;all_goals first|(exfalso;simp_all;done)|skip
  refine' aC;rfl
 have cg:0<Y z:=wq.2 a;have m:z.headD 0=z.getD 0 0:=by cases z<;>rfl
 unfold bQ;rw[m];refine a8 f122 ?_;have hb:((z.getD 0 0).toNat:Int)=47↔z.getD 0 0=47:=by constructor;intro h;rw[<-tz];show(z.getD 0 0).toNat=47;omega;intro h;rw[h];rfl
 by_cases b:z.getD 0 0=47
 .have c:=hb.2 b;repeat' first|refine' Un|refine' eI|fail
  (refine' aC);rw[ai aT];rfl;exfalso;exact ki c;rotate_left 1;exact absurd aT a;rw[af aT,af (by rw[b];simp[a])];generalize o:aH z=w at *
  refine W.bu (λk l L=>∃(i:Nat),Le [(3,H Dn (Y w) Dq),(4,iv i)] l/\cb [.aU (H Mj (Y AH) Mk) 9 1 (ab AH)] L/\k=Y w-i/\i<=Y w/\(w.take i).all bG=J)
   (λl L=>Le [(3,H Dn (Y w) Dq)] l/\cb [] L/\w.all bG=J) (Y w) ⟨0,bd,ak,aa,aa,rfl⟩ ?_ ?_
  .rintro k l L ⟨i,hl,j,rfl,g,d⟩;refine' cP;have n:=f i;have e:=λh:i<Y w=>dS w au.ad h;(repeat' first|refine' afV|refine' eI|fail);(refine' aC);(have:w.all bG=U:=by rw[KT];exact⟨_,a7 (show i<Y w by omega) au.ad,by simp_all⟩);rw[this];rfl;refine⟨_,?_,i+1,bd,ak,rfl,aa,?_⟩;omega;rw[e aa,GD,d];simp_all;(have hi:i=Y w:=by omega);subst hi;rw[lG] at d;exact⟨bd,ak,d⟩
  rintro l L ⟨hl,j,g⟩;refine aJ ?_;refine W.le ?_ hl j;refine' eR;refine' aC;rw[g];simp[fj];omega
 have c:=λh=>b (hb.1 h);refine' eR;(refine' aC);rw[ai aT];rfl;(refine' aC);rw[af aT,ai (by rw[km];exact .inr (gZ b))];rfl;all_goals first|(exfalso;exact c aT)|(exact absurd aT a)
def cm (z:aw):List aw:=if bQ z=J then aH z else []
def BV {z:aw}(h:bQ z=J):0<Y z/\z.getD 0 0=47:=by
 unfold bQ at h;split at h;rename_i h0;subst h0;exact⟨aq,rfl⟩;split at h;cases h;rename_i a;cases z with
 |nil=>simp at a
 |cons x z=>simp at a;exact⟨aq,a⟩
def JR (s:St)(z:aw)(c:Y z<=90000):et aZ aW 245 [sv z] s [] 9 (cm z) (bQ z):=by
 have hm:=pV (z:=z);refine a8 f245 ?_;by_cases h:bQ z=J
 .obtain⟨a,b⟩:=BV h;repeat' first|refine' ad2|refine' Un|refine' eI|fail
  exfalso;simp_all;(refine' eu);unfold cm;rw[ai h];rfl;exact h
 (repeat' first|refine' ad2|refine' eI|fail);(refine' eu);unfold cm;rw[af h];simpa using h;all_goals(exfalso;simp_all;done)
def JS (s:St)(z t:aw)(i:Y z<=3000)(ht:Y t<=3000):bM 184 [sv z,sv t] s [] (M (under z t)):=by
 have g:∀{z:aw},Y z<=3000->Y (cm z)<=3001/\∀e∈cm z,Y e<=3000:=λ{z} i=>by unfold cm;split;exact⟨by have:=pV (z:=z);omega,λe f=>by have:=HN e f;omega⟩;simp
 obtain⟨k,j⟩:=g i;obtain⟨l,m⟩:=g ht;have n:∀e∈(cm z).take (Y (cm t):Int).toNat,Y e<=3000:=λe f=>j e (An f);refine a8 f184 ?_;(repeat' first|(apply mu;exact aj;exact λs=>JR s _ aa;intro _ _ a b _ _)|(apply dG;exact aj;(first|exact λs hr=>MH s _ _ _ aa aT hr|exact λs hr=>MH s _ _ _ (by first|omega|(rw[de];omega)) aT hr);exact ax;intros)|refine' eI|fail);all_goals refine' aC
 all_goals(simp only[fj];refine congrArg Value.bool ?_;unfold under)
 have c:cm z=aH z:=ai aT;have d:cm t=aH t:=ai aT;rw[c,d] at ki;simp_all;omega;have c:cm z=aH z:=ai aT;have d:cm t=aH t:=ai aT;rw[c,d] at ki;rw[c,d];simp_all;simp_all;simp_all
variable {E:hJ}{X:fb}{Γ:ng}{l:Kn}{L L' R:cq}{K:KO}{x y:Operand}{t t2:TypeId}{a:aP}{c e b:Nat}{z w:aw}{enc:au UInt8 1}{cs:aV}
def P8 (p:∀c:UInt8,au.cells c=[bv c])[ht:TT E t e 1 UInt8 enc][ht2:yf E t2](q:Ev l x (H a (Y z) c))(r:Ev l y (sv w))(hr:Bm (.aU (H a (Y z) c) e 1 (ab z)) L R)(hn:Y z+Y w<=1000000)
  (k:∀b b' a' c',gk L b->b<=b'->(∀i∈ah a',i∈ah a\/i=b)->(c'=c\/c'=cl)->K (H a' (Y (z++w)) c') (.aU (H a' (Y (z++w)) c') e 1 (ab (z++w))::R) b b' (λi=>i∈ah O\/i∈ah a\/i=b) (λi=>i∈ah a\/i=b)):WO E X Γ l (.call ⟨.builtin .append,⟨[x,y]⟩,⟨[t,t2]⟩⟩) L K:=by obtain⟨v,g,d,u⟩:=ht.h;refine wP (ht:=g) (a2:=O) ht2.h rfl q r hr (λs h=>h) (m:=Y w) (new:=ab w) (λs hi=>⟨⟨bn w,λb hb=>by simp[ah] at hb⟩,λk=>?_⟩) (vj w) hn λb b' a' c' j f n o=>?_;show dq (beq 1 1) (k (dJ w) (strCells w) s)=_;rw[ni w p,cR];rfl;have:=k b b' a' c' j f n o;rwa[dB,ir] at this
def JT [ht:TT E t e 1 UInt8 enc](m:Ev l x (H a (Y z) cl))(hm:It.aU (H a (Y z) cl) e 1 (ab z)∈L)(h0:0<Y z)(k:∀n,K (.pointer a) L n n (λi=>i∈ah a) Z):WO E X Γ l (.call ⟨.builtin .unsafeSliceData,⟨[x]⟩,⟨[t]⟩⟩) L K:=λo s hl hi=>by
 obtain⟨f,_⟩|⟨b,n',q,w,rest,f,g,p,j⟩:=hi.it _ hm;have:=(Value.slice.inj f).2.1;omega;cases f;have d:=hi.may hm (b:=b) (by simp[It.bC,nH]);obtain rfl:w=J:=by obtain⟨_,h,_⟩|⟨_,h⟩:=j;exact absurd h (Aj _);exact h
 refine eM.pure (v:=.pointer (C ⟨b,0,O⟩)) (s':=s.aL b) (λcall=>?_) ⟨L,(λi=>i∈ah (C ⟨b,0,O⟩)),Z,hi.aL d,cH d.1 (by simp[ah]),by rw[bh];exact k _⟩;show pB (aM o x) s=_;rw[m.eval hl];show dq (beq cl cl) (s.row b λc _ w s=>dq (w&&ble 1 (dJ c)) (aD (.pointer (C ⟨b,0,O⟩)) s))=_;rw[kY,dY];unfold St.row St.look;rw[g,bF];show dq (J&&ble 1 (dJ (ab z++rest))) _=_;rw[cR,dQ (by rw[dB,bn];omega)];rfl
def yH (B:∀c:UInt8,au.cells c=[bv c])[hs:ie E e 1](D:iE E t=C (.pointer e))(F:Ev l x (.pointer a))(G:Ev l y (iv (Y z:Nat)))(hr:Bm (.aU (H a (Y z) c) e 1 (ab z)) L R)(h0:0<Y z)(hn:Y z<=1000000)(k:∀n,K (sv z) R n n (λi=>i∈ah a) (λi=>i∈ah a)):WO E X Γ l (.call ⟨.builtin .unsafeString,⟨[x,y]⟩,⟨[t,t2]⟩⟩) L K:=λr s hl hi=>by
 have g:=hi.bX hr.bX;obtain⟨p,_⟩|⟨b,n',Q,w,rest,p,A,N,P⟩:=g.it _ ed;have:=(Value.slice.inj p).2.1;omega;cases p;have f:=g.may ed (b:=b) (by simp[It.bC,nH]);refine eM.pure (v:=sv z) (s':=(s.aL b).put b O) (λcall=>?_) ⟨R,(λi=>i∈ah (C ⟨b,0,O⟩)),(λi=>i∈ah (C ⟨b,0,O⟩)),(g.aL f).kill (by simp[It.bC,nH]),iS.trans (cH f.1 (by simp[ah])) (jx (by simpa using f.1) (by simp[ah]) (by simp[ah])),by rw[dn,bh];exact k _⟩;show lQ E [t,t2] (aM r x) (aM r y) s=_;rw[F.eval hl,G.eval hl];show(s.row b λc u _ s=>ob (iE E t) λd=>match d with
  |.pointer j=>ob (size E j) λsz=>dq (beq u j&&beq sz 1&&ble 1 (Y z)&&ble (Y z) 1000000)<| ob (gE (Y z) c) λl=>ob (xT l) λbs=>aD (.string ⟨⟨bs⟩⟩) (s.put b O)
  |_=>O)=_
 unfold St.row St.look;rw[A,bF,D];simp only[bF,hs.h,kY,dQ (show 1<=Y z from h0),dQ hn];have q:gE (Y z) (ab z++rest)=C (ab z):=by have:=pk (cs:=ab z) (o:=0) (m:=Y z) (c:=ab z++rest) (by rw[Ah];have h:=bn z;rw[sh] at h;rw[<-h,Ca]) (by rw[bn,sh]);exact this
 rw[q,bF,Hb z B];rfl
def MI {u:TypeId}{m:Nat}(h1:iE E t=C (.pointer u))(h2:iE E t2=C .unsafePointer)[hs:ie E u m](f:1<=m)(j:Ev l x (.pointer (C ⟨b,0,O⟩)))(hm:It.box b cs e U∈L)(hc:0<Y cs)(k:∀n,K (.pointer (C ⟨b,0,O⟩)) L n n (λi=>i=b) Z):WO E X Γ l (.convert t t2 x) L K:=λo s hl hi=>by have d:=hi.may hm (b:=b) (by simp[It.bC]);refine eM.pure (v:=.pointer (C ⟨b,0,O⟩)) (s':=s.aL b) (λcall=>?_) ⟨L,(λi=>i=b),Z,hi.aL d,cH d.1 rfl,by rw[bh];exact k _⟩;show qq E s t t2 (aM o x)=_;rw[j.eval hl];unfold qq;rw[h1,h2];have g:s.heap.get b=C (.cells cs e U):=hi.it _ hm;show(s.row b λc _ w s=>ob (size E u) λsz=>dq (!w&&ble 1 (dJ c)&&ble 1 sz) (aD (.pointer (C ⟨b,0,O⟩)) s))=_;unfold St.row St.look;rw[g,bF,hs.h];show dq (!U&&ble 1 (dJ cs)&&ble 1 m) _=_;rw[cR,dQ hc,dQ f];rfl
def MJ {u m:Nat}(hu:E.Cn=u)(h1:iE E t=C .unsafePointer)(h2:iE E t2=C (.pointer u))[hs:ie E u m](g:Ev l x (.pointer (C ⟨b,0,O⟩)))(hm:It.box b cs u U∈L)(hc:Y cs=2)(k:∀n,K (.pointer (C ⟨b,0,O⟩)) L n n (λi=>i=b) Z):WO E X Γ l (.convert t t2 x) L K:=λj s hl hi=>by subst hu;have d:=hi.may hm (b:=b) (by simp[It.bC]);refine eM.pure (v:=.pointer (C ⟨b,0,O⟩)) (s':=s.aL b) (λcall=>?_) ⟨L,(λi=>i=b),Z,hi.aL d,cH d.1 rfl,by rw[bh];exact k _⟩;show qq E s t t2 (aM j x)=_;rw[g.eval hl];unfold qq;rw[h1,h2];have f:s.heap.get b=C (.cells cs E.Cn U):=hi.it _ hm;show(s.row b λc e w s=>ob (size E E.Cn) λ_=>dq (!w&&beq (dJ c) 2&&beq e E.Cn&&beq E.Cn E.Cn) (aD (.pointer (C ⟨b,0,O⟩)) s))=_;unfold St.row St.look;rw[f,bF,hs.h];show dq (!U&&beq (dJ cs) 2&&beq E.Cn E.Cn&&beq E.Cn E.Cn) _=_;rw[cR,hc,kY,show beq E.Cn E.Cn=J from kY _];rfl
def MK [ht:Pw E t]{m:Nat}{u:TypeId}(hu:iE E t=C (.pointer u))[hs:ie E u m](f:Ev l x (.pointer (C ⟨b,0,O⟩)))(g:Ev l y (.pointer (C ⟨b,0,O⟩)))(k:∀n,K (M U) L n n Z Z):WO E X Γ l (.binOp .neq t x y t2) L K:=fZ f g (λi=>by show ob (iE E t) (λd=>xQ .neq (V9 E d (.pointer (C ⟨b,0,O⟩)) (.pointer (C ⟨b,0,O⟩))))=_;rw[hu];show xQ .neq (ob (size E u) λ_=>dq (beq b b&&beq 0 0) (C J))=_;rw[hs.h,kY];rfl) k
end Go.Pl
namespace Go.Lg
open Go Go.Ev
variable {E:hJ}{X:fb}{Γ:ng}{l:Kn}{L L':cq}{K:KO}{x y:Operand}{t t2:TypeId}{a:aP}{n e:Nat}{u:List UInt8}
def Yp {n c e:Nat}{enc:au UInt8 1}{p u:List UInt8}[ht:TT E t e 1 UInt8 enc](q:∀c,au.cells c=[bv c])(hx:Ev l x (H a n c))(hy:Ev l y (sv u))(hu:CT (.aU (H a n c) e 1 (ab p)) (.aU (H a n c) e 1 (ab (u++p.drop (Y u)))) L L')(hn:n=Y p)(hj:Y u<=Y p)(h0:0<Y p)
  (h:∀m,K (iv (Y u:Int)) L' m m (λi=>i∈ah a) (λi=>i∈ah a)):WO E X Γ l (.call ⟨.builtin .copy,⟨[x,y]⟩,⟨[t,t2]⟩⟩) L K:=λS s hl hi=>by
 obtain⟨zz,hr,_⟩:=ht.h;obtain⟨N,ii,z1,z,A,Z,hi4,hi5,hi6,hi7⟩:=hr.h;have F:size E e=C 1:=by unfold size;rw[z];simp[A]
 obtain⟨R,p1,p2⟩:=hu.bX;have hm:It.aU (H a n c) e 1 (ab p)∈L:=p1.mem_iff.2 aq;obtain⟨j,Q⟩|⟨b,n',k',w,rest,j,Q,V,W⟩:=hi.it _ hm;cases j;rw[<-hn] at h0;omega;cases j;have d:=(hi.may hm (b:=b) (by simp[It.bC,nH]));have D:=hi.aL d;have B:Y (strCells u)=Y u:=by rw[ni u q,bn,sh]
 have g:fK 0 (strCells u) (ab p)=C (ab (u++p.drop (Y u))):=by rw[ni u q,CV _ _ _ (by rw[bn,bn];omega),ir,<-zr,bn];simp
 have cg:Y (ab (u++p.drop (Y u)))=Y (ab p):=by rw[bn,bn,dB,fq];omega
 refine eM.pure (v:=iv (Y u:Int)) (s':=(s.aL b).put b (C (.cells (ab (u++p.drop (Y u))++rest) e w))) (λcall=>?_) ⟨L',(λi=>i∈ah (C ⟨b,0,O⟩)),(λi=>i∈ah (C ⟨b,0,O⟩)),D.put hu rfl rfl ?_,(iS.trans (cH d.1 (by simp[ah])) (jx (by simpa using d.1) (by simp[ah]) (by simp[ah]))),by rw[dn,bh];exact h _⟩;show copyV E s [t,t2] (aM S x) (aM S y)=_;rw[hx.eval hl,hy.eval hl];show Ev.elemOf E (jH [t,t2] 0) (λe=>ob (size E e) λsz=>Ft s sz (sv u) λk new s=>zc sz b 0 n k new s)=_;unfold Ev.elemOf;show ob (C t) _=_;rw[bF,N];show ob (size E e) _=_;rw[F];show dq (beq 1 1) (zc 1 b 0 n (dJ u) (strCells u) s)=_;rw[cR];show zc 1 b 0 n (Y u) (strCells u) s=_;unfold zc;have r:kr (strCells u)=J:=by rw[ni u q];exact(rq _).2 (vj _)
 have f:Cp (Y u) n=Y u:=by show bo (ble (Y u) n) (Y u) n=_;rw[dQ aa];rfl
 have G:gE (mul (Y u) 1) (strCells u)=C (strCells u):=by have:=pk (cs:=strCells u) (o:=0) (m:=Y u) (c:=strCells u) (by rw[Ah];exact za aa) B;rwa[show mul (Y u) 1=Y u from sh _]
 rw[r,dY,f,G,bF];unfold St.row St.look;rw[Q];simp only[bF];rw[vg rest _ _ _ _ g];rfl;exact .inr ⟨b,n,c,w,rest,rfl,by show T.get (St.heap _) b=_;simp,by rwa[cg],Jj W cg⟩
def Yq {n c e:Nat}{enc:au UInt8 1}{p u:List UInt8}[ht:TT E t e 1 UInt8 enc](b:∀c,au.cells c=[bv c])(f:Ev l x (H a n c))(g:Ev l y (sv u))(hu:CT (.aU (H a n c) e 1 (ab p)) (.aU (H a n c) e 1 (ab u)) L L')(hn:n=Y p)(d:Y p=Y u)(h0:0<Y u)
  (h:∀m,K (iv (Y u:Int)) L' m m (λi=>i∈ah a) (λi=>i∈ah a)):WO E X Γ l (.call ⟨.builtin .copy,⟨[x,y]⟩,⟨[t,t2]⟩⟩) L K:=
 Yp (p:=p) b f g (by rwa[<-d,re,fT]) hn aa aa h
end Go.Lg
namespace Go.Pl
open Go Go.Ev Go.Lg Go.Proofs
def uM:∀(k:Nat)(z:aw),k<=Y z->(z.take k).all gR=J->numOf (z.take k)<10^ k
 |0,z,_,_=>by simp[numOf]
 |k+1,z,h,ha=>by rw[DM _ _ aa,ep] at ha;have ih:=uM k z aa ha.1;have a:=ha.2;simp only[gR,ep,gv] at a;rw[DN _ aa,qm];omega
def abq (z:aw):(kA z).1<1000000000:=by
 have h:=Sm z;have ha:(lU z).all gR=J:=by
  unfold lU;generalize z.take 9=w;induction w with
  |nil=>rfl
  |cons x w ih=>rw[xL];split;rename_i b;rw[List.all_cons,b,ih];rfl;rfl
 have a:=uM (Y (lU z)) (lU z) (fG _) (by rwa[lG]);rw[lG] at a;have c:10^ Y (lU z)<=10^ 9:=Rr aa h.2;unfold kA;dsimp only;split;dsimp only;omega;dsimp only;omega
def DT {f:Nat}{z:aw}{out:List aw}(a:z≠[]):rF (f+1) z out=if(kA z).2=0\/Y z<=(kA z).2\/z.getD (kA z).2 0≠58\/Y z-(kA z).2-1<(kA z).1 then O else rF f (z.drop ((kA z).2+1+(kA z).1)) (out++[(z.drop ((kA z).2+1)).take (kA z).1]):=by
 cases z with
 |nil=>exact absurd rfl a
 |cons x z=>rfl
def yI (s:St)(z:aw)(E:Y z<=100000):et aZ aW 136 [sv z] s [] 9 ((b6 z).getD []) (b6 z).isSome:=by
 refine a8 f136 ?_;(repeat(first|refine' v7|refine' gL|fail));refine W.bu (λk l L=>∃(i f:Nat)(q:List aw)(a:aP)(c:Nat),Le [(0,sv z),(4,H a (Y q) c),(5,iv i)] l/\cb [.aU (H a (Y q) c) 9 1 (ab q)] L/\k=Y z-i/\i<=Y z/\Y q<=i/\Y z-i<f/\(Y z<=2048\/i=0/\q=[])/\rF (Y z+1) z []=rF f (z.drop i) q)
  (λl L=>∃(q:List aw)(a:aP)(c:Nat),Le [(0,sv z),(4,H a (Y q) c)] l/\cb [.aU (H a (Y q) c) 9 1 (ab q)] L/\Y q<=100000/\(if 2048<Y z then C [] else rF (Y z+1) z [])=C q) (Y z) ⟨0,Y z+1,[],_,_,bd,ak,aa,aa,aq,aa,.inr ⟨rfl,rfl⟩,aq⟩ ?_ ?_
 .rintro k l L ⟨i,f,q,a,c,hl,A,rfl,y,v,D,w,o⟩;refine' cP;obtain⟨f,rfl⟩:∃g,f=g+1:=⟨f-1,aa⟩;have hn:=abn (z.drop i);have B:=abq (z.drop i);rw[fq] at hn;have u:i<Y z->z.drop i≠[]:=λh m=>by have:=congrArg List.length m;simp at this;omega
  have e:=λh:i<Y z=>DT (f:=f) (out:=q) (u h);have r:(z.drop i).getD (kA (z.drop i)).2 0=z.getD (i+(kA (z.drop i)).2) 0:=by rw[eX,eX,Cg]
  rw[r,fq,wx,wx] at e;have j:∀x:UInt8,((x.toNat:Int)=58)↔x=58:=λx=>by constructor;intro h;rw[<-tz];show x.toNat=58;omega;rintro rfl;rfl
  have b:Y z<=2048->i<Y z->((kA (z.drop i)).2=0\/Y z-i<=(kA (z.drop i)).2\/z.getD (i+(kA (z.drop i)).2) 0≠58\/Y z-i-(kA (z.drop i)).2-1<(kA (z.drop i)).1)->b6 z=O:=λh m n=>by unfold b6;rw[af aa,o,e m,ai n]
  (repeat' first|(apply ag;exact aj;exact λs=>MA s _ (by rw[fq];omega);intros)|refine' eI|fail);rw[b aa aa (.inr (.inr (.inr aa)))];(refine' eu)<;>rfl;have e:=e aa;rw[af (by rw[j] at sN;rintro(h|h|h|h);omega;omega;exact h sN;omega)] at e;refine⟨_,?_,i+(kA (z.drop i)).2+1+(kA (z.drop i)).1,f,_,_,_,bd,ak,rfl,aa,by simp;omega,aa,.inl aa,?_⟩;omega;rw[o,e];congr 2;omega;congr 1;rw[show i+(kA (z.drop i)).2+1+(kA (z.drop i)).1-(i+(kA (z.drop i)).2+1)=(kA (z.drop i)).1 by omega];rfl;rw[b aa aa (.inr (.inr (.inl (λh=>sN ((j _).2 h)))))];(refine' eu)<;>rfl;rw[b aa aa (.inr (.inl aa))];(refine' eu)<;>rfl;rw[b aa aa (.inl aa)];(refine' eu)<;>rfl;refine⟨q,_,_,bd,ak,aa,?_⟩;rw[ai aa];obtain h|⟨_,h⟩:=w;omega;rw[h];refine⟨q,_,_,bd,ak,aa,?_⟩;have hd:z.drop i=[]:=xC aa;split;rcases w with h|⟨_,h⟩;omega;rw[h];rw[o,hd];rfl
 rintro l L ⟨q,a,c,hl,A,y,v⟩;refine' gh;have d:b6 z=match iy q with
   |none=>O
   |some t=>if t=z then C q else O:=by
  unfold b6;rw[v];rfl
 (repeat' first|(apply dG;exact aj;exact λs hr=>yG s _ _ _ aa hr;exact ax;intros)|refine' eI|fail);obtain⟨t,ht⟩:=sj.1 sN;rw[ht] at ki d;rw[d];dsimp only;rw[af (show ¬t=z from ki)];(refine' eu)<;>rfl;obtain⟨t,ht⟩:=sj.1 sN;rw[ht] at ki d;rw[d];dsimp only;rw[ai (show t=z from ki)];(refine' eu)<;>rfl;have ht:iy q=O:=by cases h:iy q<;>simp_all
 rw[ht] at d;rw[d];(refine' eu)<;>rfl
def Hz (s:St)(n:dX):bM 139 [nv n] s [] (M (cM n)):=by refine a8 f139 ?_;(repeat' first|(apply ag;exact aj;exact λs=>FV s _ _;intros)|refine' XT|refine' PS|refine' Fq|refine' KF|refine' eI|fail);all_goals first|((refine' aC);simp_all [fj,cM,fI];done)|((refine' aC);simp_all [fj,cM];done)
def P9 (n:Int):0<=bR n/\bR n<=2:=by unfold bR;split;omega;split<;>omega
def UD {n:dX}(h:cM n=J):(1<=n.kind/\n.kind<=2)/\(1<=n.aX/\n.aX<=9)/\(0<=n.size/\n.size<=2048)/\(0<=n.aO.many/\n.aO.many<=16)/\n.aO.depth=bR n.aO.many/\aQ n.aO.bU=J/\n.aO.many=cV n.size (eG n.kind):=by
 simp only[cM,ep,ra,Ci,mW,Int.not_lt,ne_eq,Decidable.not_not,Ch] at h;obtain⟨⟨⟨⟨i,e⟩,f⟩,j⟩,g,m⟩:=h;have b:dT n.kind n.size=n.aO.many:=e.symm;unfold dT at b;rw[show dT n.kind n.size=n.aO.many from e.symm] at i f;have a:eG n.kind=0\/eG n.kind=12\/eG n.kind=128:=by unfold eG;split<;>(try split)<;>simp
 have l:eG n.kind≠0->1<=n.kind/\n.kind<=2:=by unfold eG;intro h;split at h<;>(try split at h)<;>omega
 split at b;omega;rename_i d;simp only[km,gv,ra,not_or,xK,fI,ep] at d;have k:=l d.1;have c:n.aO.many<=16:=by rw[<-b];unfold cV;obtain a|a|a:=a<;>rw[a] at d⊢<;>omega
 refine⟨k,?_,aa,⟨aa,c⟩,f,j,b.symm⟩;simp only[fI,ep,gv] at g;split at g<;>omega
def Dv (s:St)(n:dX):bM 77 [nv n] s [] (sv (dK n)):=by
 by_cases hn:cM n=J;have hb:=UD hn;have hd:=P9 n.aO.many;refine a8 f77 ?_;(repeat(first|refine' v7|refine' PV|refine' gL|fail));refine W.cond bN ?_ ?_<;>intro hc;exfalso;simp_all;(repeat(first|refine' v7|refine' aa9|refine' afU|(apply dG;exact aj;exact λs hr=>yG s _ _ _ (by first|omega|(simp;done)) hr;exact ax;intros)|refine' gL|fail));refine' aC;simp[fj,dK,hn,fw];refine a8 f77 ?_;repeat' first|refine' PV|refine' eI|fail
 all_goals first|((refine' aC);simp_all [fj,dK];done)|(exfalso;simp_all;done)
def HO:∀(f:Nat)(z:aw)(out w:List aw)(m:Nat),Y z<=m->(∀x∈out,Y x<=m)->rF f z out=C w->∀x∈w,Y x<=m
 |0,z,out,w,m,_,_,h=>by simp[rF] at h
 |f+1,[],out,w,m,_,b,h=>by simp[rF] at h;subst h;exact b
 |f+1,c::z,out,w,m,d,b,h=>by rw[DT aq] at h;split at h;cases h;refine HO f _ _ w m (by rw[fq];omega) ?_ h;intro x a;obtain a|a:=cG.1 a;exact b x a;simp only[gI] at a;subst a;rw[de,fq];omega
def FY {z:aw}{w:List aw}(h:b6 z=C w):∀x∈w,Y x<=Y z:=by unfold b6 at h;split at h;cases h;rename_i o a;split at h;cases h;split at h;cases h;split at a;cases a;simp;exact HO _ z [] _ (Y z) (fG _) aq a;cases h
def Qa (z:aw):bY z=match b6 z with
  |none=>O
  |some w=>if Y w≠7 then O else
   let n:dX:=⟨pa (w.getD 0 []),pa (w.getD 1 []),pa (w.getD 2 []),⟨(cy (w.getD 3 [])).getD bp,pa (w.getD 4 []),pa (w.getD 5 [])⟩⟩
   if !cM n||!decide (dK n=z) then O else C n:=by unfold bY;obtain _|⟨_|⟨a,_|⟨b,_|⟨c,_|⟨d,_|⟨e,_|⟨f,_|⟨g,_|⟨h,l⟩⟩⟩⟩⟩⟩⟩⟩⟩:=b6 z<;>simp
def uN (o:Option dX):Value:=.tuple ⟨[nv (o.getD aK),M o.isSome]⟩
def sQ (s:St)(z:aw)(g:Y z<=100000):bM 76 [sv z] s [] (uN (bY z)):=by
 rw[Qa];rcases hf:b6 z with _|w
 .have j:(b6 z).isSome=U:=by rw[hf];rfl
  refine a8 f76 ?_;(repeat' first|(apply mu;exact aj;exact λs=>yI s _ aa;intro _ _ d e _ _)|refine' eI|fail);all_goals first|((refine' aC);rfl)|(exfalso;simp_all;done)
 have j:(b6 z).isSome=J:=by rw[hf];rfl
 have k:=FY hf;have h0:∀i,i<Y w->Y (w.getD i au.ad)<=100000:=λi hi=>jR (k _ (a7 hi _)) g;have f:∀s,et aZ aW 136 [sv z] s [] 9 w J:=λs=>by have:=yI s z g;rwa[hf] at this
 dsimp only;refine a8 f76 ?_;(repeat' first|(apply mu;exact aj;exact λs=>f s;intro _ _ a c _ _)|(apply ag;exact aj;exact λs=>zL s _ (h0 _ aa);intros)|(apply ag;exact aj;exact λs=>HH s _ (h0 _ aa);intros)|refine' PV|refine' af0|refine' eI|fail);(refine' aC);rw[ai aa];rfl;all_goals
  refine' aC
  rw[af aa];first
                  |exact Eq.trans (b:=uN O) rfl (congrArg uN (ai (GF.2 (.inl hg))).symm)
                  |exact Eq.trans (b:=uN O) rfl (congrArg uN (ai (GF.2 (.inr hc))).symm)
                  |exact Eq.trans (b:=uN (C _)) rfl (congrArg uN (af (λh=>(GF.1 h).elim (λh=>tf h hg) (λh=>tf h hc))).symm)
variable {E:hJ}{X:fb}{Γ:ng}{L L2 R:cq}{K:KO}{xs:List Operand}{ts:Array TypeId}{vs:aV}{A:List Nat}{st:ae}
structure SA where
 r:aP
 rc:Nat
 f:aP
 fc:Nat
 l:aP
 lc:Nat
 g:aP
 gc:Nat
 d:aP
 dc:Nat
abbrev lL (v:SA)(st:ae):aV:=[H v.r 64 v.rc,H v.f 64 v.fc,H v.l 64 v.lc,iv st.dm,H v.g (Y st.aS) v.gc,iv st.iz,H v.d (Y st.bL) v.dc,M st.same]
abbrev eg (v:SA)(st:ae):Value:=.agg ⟨lL v st⟩
abbrev db (v:SA)(st:ae):cq:=[.aU (H v.r 64 v.rc) 9 1 (ab st.dV),.aU (H v.f 64 v.fc) 3 1 (ab st.aI),.aU (H v.l 64 v.lc) 3 1 (ab st.bW),.aU (H v.g (Y st.aS) v.gc) 31 5 (ab st.aS),.aU (H v.d (Y st.bL) v.dc) 31 5 (ab st.bL)]
abbrev iB (v:SA):List Nat:=ah v.r++(ah v.f++ah v.l)
structure cr (s:St)(v:SA)(st:ae):Prop where
 r:bJ s v.r 64 1 (ab st.dV)
 f:bJ s v.f 64 1 (ab st.aI)
 l:bJ s v.l 64 1 (ab st.bW)
structure cJ (Γ:ng)(L:cq)(v:SA)(st:ae):Prop where
 r:ga Γ L v.r 64 1 (ab st.dV)
 f:ga Γ L v.f 64 1 (ab st.aI)
 l:ga Γ L v.l 64 1 (ab st.bW)
section
variable {l:Kn}{f:FuncId}{r:Value}{v:SA}{s:St}
def cJ.row (h:cJ Γ L v st)(hi:Inv Γ s L):cr s v st/\∀b∈iB v,qW Γ s b:=by refine⟨⟨(h.r.row hi).1,(h.f.row hi).1,(h.l.row hi).1⟩,λb hb=>?_⟩;obtain hb|hb:=cG.1 hb;exact(h.r.row hi).2 b hb;rcases cG.1 hb with hb|hb;exact(h.f.row hi).2 b hb;exact(h.l.row hi).2 b hb
def uO {b:Nat}(h:b∈ah v.r):b∈iB v:=im _ h
def uP {b:Nat}(h:b∈ah v.f):b∈iB v:=dt _ (im _ h)
def uQ {b:Nat}(h:b∈ah v.l):b∈iB v:=dt _ (dt _ h)
def eV (c:iu l xs vs)(h:∀s,cr s v st->jA E X f vs s (iB v) r)(b:cJ Γ L v st)(k:∀m a,gk L m->m<=a->K r L m a (iI (iB v) [] m a) (iJ [] m a)):WC E X Γ l f xs ts L K:=
 dZ c (λs hi=>⟨(b.row hi).2,h s (b.row hi).1⟩) k
def n3 {α:Type}{sz:Nat}{enc:au α sz}{e:TypeId}{p:List α}(g:iu l xs vs)(h:∀s,cr s v st->eD E X f vs s (iB v) e p)(d:cJ Γ L v st)(k:∀m b a c,gk L m->m<=b->K (H a (Y p) c) (.aU (H a (Y p) c) e sz (ab (sz:=sz) p)::L) m b (iI (iB v) [] m b) (iJ [] m b)):WC E X Γ l f xs ts L K:=
 oG g (λs hi=>⟨(d.row hi).2,h s (d.row hi).1⟩) k
def kU {α:Type}{sz:Nat}{enc:au α sz}{e:TypeId}{p:List α}{b:Bool}(i:iu l xs vs)(h:∀s,cr s v st->et E X f vs s (iB v) e p b)(g:cJ Γ L v st)(k:∀m d a c,gk L m->m<=d->K (.tuple ⟨[H a (Y p) c,M b]⟩) (.aU (H a (Y p) c) e sz (ab (sz:=sz) p)::L) m d (iI (iB v) [] m d) (iJ [] m d)):WC E X Γ l f xs ts L K:=
 vk i (λs hi=>⟨(g.row hi).2,h s (g.row hi).1⟩) k
def Rd.Bt (h:cr s v st):Rd ⟨s,([]:cq).flatMap It.bC,iB v⟩ v.r 64 1 (ab st.dV):=Rd.of h.r λ_ hb=>uO hb
def Rd.off (h:cr s v st):Rd ⟨s,([]:cq).flatMap It.bC,iB v⟩ v.f 64 1 (ab st.aI):=Rd.of h.f λ_ hb=>uP hb
def Rd.y8 (h:cr s v st):Rd ⟨s,([]:cq).flatMap It.bC,iB v⟩ v.l 64 1 (ab st.bW):=Rd.of h.l λ_ hb=>uQ hb
inductive l3:cq->cq->cq->Prop
 |nil {L:cq}:l3 [] L L
 |cons {x:It} {xs L R R2:cq} (h:Bm x L R) (k:l3 xs R R2):l3 (x::xs) L R2
def l3.bX {xs L R:cq}(h:l3 xs L R):L.Perm (xs++R):=by
 induction h with
 |nil=>exact .refl _
 |cons h _ ih=>exact h.bX.trans (ih.cons _)
abbrev eS (E:hJ)(X:fb)(f:FuncId)(vs:aV)(s:St)(A:List Nat)(v:SA)(st bB:ae)(ok:Bool)(mk:Value->Value):Prop:=eJ E X f vs s (db v st) A λr L=>∃a:SA,(ok=U->a=v)/\r=mk (eg a bB)/\L=db a bB
def fz {bB:ae}{ok:Bool}{mk:Value->Value}(e:iu l xs vs)(h:∀s,eS E X f vs s [] v st bB ok mk)(d:l3 (db v st) L R)(k:∀m a v',gk L m->m<=a->(ok=U->v'=v)->K (mk (eg v' bB)) (db v' bB++R) m a (iI [] (db v st) m a) (iJ (db v st) m a)):WC E X Γ l f xs ts L K:=
 cI (Lm:=db v st) (R:=R) e d.bX (λs hi b hb=>by cases hb) (λs _=>h s) (by rintro r L' m a c hm ⟨v',hv,rfl,rfl⟩;exact k m a v' c hm hv)
def FP {rs:List ResultVar}{x:Ex}{v':SA}{bB:ae}{ok:Bool}{mk:Value->Value}{ws:aV}(c:x= .normal\/x= .ret)(hr:AE E l L rs ws)(b:cb (db v' bB) L)(hv:fj ws=mk (eg v' bB))(a:ok=U->v'=v):
  zt E rs (λr L=>∃v':SA,(ok=U->v'=v)/\r=mk (eg v' bB)/\L=db v' bB) x l L:=⟨c,ws,_,hr,b,v',a,hv,rfl⟩
end
def Uj {E:hJ}{X:fb}{Γ:ng}{l:Kn}{L L':cq}{K:KO}{x y:Operand}{w:Value}{t:TypeId}{a:aP}{n:Nat}{α:Type}{enc:au α 1}{p:List α}{q:α}{i c e:Nat}[ht:ie E t 1](b:Ev l x (fY a i 1 0))(d:Ev l y w)
  (hu:CT (.aU (H a n c) e 1 (ab p)) (.aU (H a n c) e 1 (ab (p.set i q))) L L')(hv:au.cells q=[w])(hi:i<Y p)(k:∀n,K (.tuple ⟨[]⟩) L' n n (λi=>i∈ah a) (λi=>i∈ah a)):WO E X Γ l (.store t x y) L K:=
 Tz (m:=1) b d hv hi hu k
structure cZ (n:Nat)(st:ae):Prop where
 lr:st.dV.length=64
 lf:st.aI.length=64
 ll:st.bW.length=64
 rw:∀x∈st.dV,x.length<=3000
 rf:∀x∈st.aI,-(n:Int)<=x/\x<=n
 tx:1<=st.dm/\st.dm<=n
 kp:0<=st.iz/\st.iz<=n
 gl:st.aS.length<=n
 dl:st.bL.length<=n
 gr:∀p∈st.aS,0<=p.row/\p.row<64
structure ee (t:bt):Prop where
 rt:aQ t.bU=true
 mn:0<=t.many/\t.many<=16
 dp:0<=t.depth/\t.depth<=2
def cZ.mono {n m:Nat}{st:ae}(h:cZ n st)(hm:n<=m):cZ m st:=
 ⟨h.lr,h.lf,h.ll,h.rw,λx a=>by have:=h.rf x a;omega,by have:=h.tx;omega,by have:=h.kp;omega,by have:=h.gl;omega,by have:=h.dl;omega,h.gr⟩
def cZ.row {n:Nat}{st:ae}(h:cZ n st)(i:Nat):Y (st.dV.getD i [])<=3000:=by rw[eX];by_cases hi:i<Y st.dV;rw[c8 hi];exact h.rw _ (B5 _);rw[mQ aa];simp
def cZ.ref {n:Nat}{st:ae}(h:cZ n st)(i:Nat): -(n:Int)<=st.aI.getD i 0/\st.aI.getD i 0<=n:=by rw[eX];by_cases hi:i<Y st.aI;rw[c8 hi];exact h.rf _ (B5 _);rw[mQ aa];simp
def oA {p:fm}(h:aQ p=J)(a:av p=U):8<=p.row/\p.row<=63:=by have:=h;simp only[aQ,a,Bool.false_or,zq,fI,ep,gv] at this;omega
def abi (s:St)(a:aP)(c:Nat)(n:Int):bM 193 [H a 0 c,iv n] s [] (M U):=by
 refine a8 f193 ?_;(repeat(first|refine' v7|refine' gL|fail));refine W.bu (λk l L=>Le [(0,H a 0 c),(1,iv n),(5,iv 0)] l/\cb [] L/\k=0) (λl L=>True) 0 ⟨bd,ak,rfl⟩ ?_ ?_
 .rintro k l L ⟨hl,b,rfl⟩;refine W.le ?_ hl b;refine' eR;all_goals first|trivial|(exfalso;simp_all;done)
 rintro l L _;refine aJ ?_;refine W.le ?_ (Le.nil _) (cb.nil _);refine' eR;refine' aC;rfl
def o2i (o:Option Nat):Int:=(o.map Int.ofNat).getD (-1)
def xg {p:Nat->Bool}{n i:Nat}(h:0<n):nL p n i=if p i then C i else nL p (n-1) (i+1):=by obtain⟨m,rfl⟩:∃m,n=m+1:=⟨n-1,aa⟩;rfl
def HM (s:St)(v:SA)(st:ae)(m:Y st.aI=64)(a:aP)(c:Nat)(hr:cr s v st):bM 131 [.agg ⟨[H v.f 64 v.fc,H v.l 64 v.lc]⟩,iv 8,H a 0 c] s (iB v) (iv (o2i (CM st))):=by
 have o:=Rd.off hr;refine a8 f131 ?_;repeat' first|refine' zc3|refine' eI|fail
 refine W.bu (λk l L=>∃(i:Nat),Le [(3,bk bx),(1,iv 8),(2,H a 0 c),(7,iv 56),(8,iv i)] l/\cb [.box bx [H v.f 64 v.fc,H v.l 64 v.lc] 26 U] L/\k=56-i/\i<=56/\nL (λi=>decide (st.aI.getD i 0=0)) 56 8=nL (λi=>decide (st.aI.getD i 0=0)) (56-i) (8+i))
  (λl L=>CM st=O) 56 ⟨0,bd,ak,aa,aa,rfl⟩ ?_ ?_
 .rintro k l L ⟨i,hl,r,rfl,g,b⟩;refine' cP;have hm:((8:Int)-8+(i:Int)).tmod 56=if i<56 then(i:Int) else((8:Int)-8+(i:Int)).tmod 56:=by split;rw[Int.tmod_eq_emod_of_nonneg aa,Int.emod_eq_of_lt aa aa];omega;rfl
  by_cases hi:i<56
  .rw[ai hi] at hm;have e:=xg (p:=λi=>decide (st.aI.getD i 0=0)) (n:=56-i) (i:=8+i) aa;(have j:8+(8-Nat.succ 7+i)% 56=8+i:=by omega);refine' ago;(refine' aC);rw[j] at sN;rw[show CM st=C (8+i) from b.trans (e.trans (ai (gZ sN)))];simp only[fj,o2i,hm];congr 1;refine⟨_,?_,i+1,?_,ak,rfl,aa,?_⟩;omega;exact bd;rw[j] at sN;rw[b,e,af (by rwa[gv])];congr 1;all_goals(exfalso;omega)
  have d:i=56:=by omega
  subst d;refine' ago;all_goals first|(exfalso;omega;done)|exact b
 rintro l L g;refine aJ ?_;refine W.le ?_ (Le.nil _) (cb.nil _);refine' eR;refine' aC;rw[g];rfl
def HP (s:St)(v:SA)(st:ae)(h:cZ 100000 st)(z:aw)(hr:cr s v st):bM 130 [eg v st,sv z] s (iB v) (iv (o2i (WQ st z))):=by
 have j:=Rd.Bt hr;have f:=Rd.off hr;have g:=Rd.y8 hr;have r:=h.lr;have m:=h.lf;have o:=h.ll;refine a8 f130 ?_;(repeat(first|refine' v7|refine' gL|fail));refine W.bu (λk l L=>∃(i:Nat),Le [(2,bk bx),(1,sv z),(5,iv i)] l/\cb [.box bx (lL v st) 29 U] L/\k=64-i/\8<=i/\i<=64/\WQ st z=nL (x9 st z) (64-i) i)
  (λl L=>WQ st z=O) 56 ⟨8,bd,ak,aa,aa,aa,rfl⟩ ?_ ?_
 .rintro k l L ⟨i,hl,t,rfl,h0,d,b⟩;refine' cP;by_cases hi:i<64
  .have e:=xg (p:=x9 st z) (n:=64-i) (i:=i) aa;(have hn:x9 st z i=U->nL (x9 st z) (64-i) i=nL (x9 st z) (64-(i+1)) (i+1):=λhf=>by rw[e,hf];rfl);have a:x9 st z i=(decide (st.dV.getD i au.ad=z)&&decide (st.bW.getD i au.ad<st.dm)&&decide (st.aI.getD i au.ad<st.dm)):=rfl;refine' eR;(refine' aC);(have ht:x9 st z i=J:=by rw[a];simp_all);rw[b,e,ai ht];rfl;rotate_left 3;exfalso;omega;all_goals
    refine⟨_,?_,i+1,bd,ak,rfl,aa,aa,?_⟩
    .omega
    .rw[b,hn (by rw[a];first|(rw[hc];simp;done)|(rw[hg];simp;done))]
  have c:i=64:=by omega
  subst c;refine' eR;all_goals first|(exfalso;omega;done)|exact b
 rintro l L d;refine aJ ?_;refine W.le ?_ (Le.nil _) (cb.nil _);refine' eR;refine' aC;rw[d];rfl
def Sr (o:Option aw):Value:=.tuple ⟨[sv (o.getD []),M o.isSome]⟩
def Hv (s:St)(v:SA)(st:ae)(h:cZ 100000 st)(p:fm)(d:aQ p=J)(hr:cr s v st):bM 71 [eg v st,pv p] s (iB v) (Sr (dD st p)):=by
 have b:=Rd.Bt hr;have c:=h.lr;have f:Y (st.dV.getD p.row.toNat au.ad)<=3000:=h.row p.row.toNat;cases a:av p with
 |true=>refine a8 f71 ?_;refine' Br;refine' aC;unfold dD;rw[ai a];rfl
 |false=>
  have e:=oA d a;refine a8 f71 ?_;repeat' first|refine' Fq|refine' ad4|refine' eI|fail
  all_goals refine' aC
  all_goals(unfold dD;rw[af (by rw[a];simp)])
  rw[af (by simp_all [gB])];rfl;rw[ai (by simp_all [gB])];rfl
def PT (s:St)(n:Int)(hn:0<=n/\n<=1000):eD aZ aW 128 [iv n] s [] 31 (cX n.toNat):=by refine a8 f128 ?_;refine' eR;all_goals(refine' kT);rfl
def HQ {st:ae}(h:cZ 100000 st)(p:fm):Y ((dD st p).getD [])<=3000:=by unfold dD;split;simp;split;exact h.row _;simp
def Dt (s:St)(v:SA)(st:ae)(h:cZ 100000 st)(p:fm)(level:Int)(hr:cr s v st):et aZ aW 192 [eg v st,pv p,iv level] s (iB v) 31 ((below st p level).getD []) (below st p level).isSome:=by
 have N:=Rd.Bt hr;have F:=Rd.off hr;have G:=Rd.y8 hr;have T:=HQ h p;cases t:av p with
 |true=>
  refine a8 f192 ?_;repeat' first|refine' Fq|refine' ad5|refine' eI|fail
  rw[Pg.nZ t];(refine' eu)<;>rfl
 |false=>
  have d:(aQ p=U\/p.level≠level\/st.dm<p.bE)->below st p level=O:=λhc=>by unfold below;rw[af (by rw[t];simp),ai (by simp;obtain hc|hc|hc:=hc<;>simp[hc])]
  by_cases n:aQ p=J
  .refine a8 f192 ?_;have g:p.level=level->p.bE<=st.dm->below st p level=match dD st p with
     |none=>O
     |some s=>match eY s with
      |none=>O
      |some l=>if l.any (λq=>decide (p.bE<q.bE)) then O else C l:=λo r=>by
    unfold below;rw[af (by rw[t];simp),af (by simp[n,o];omega)];rfl
   (repeat' first|refine' Fq|refine' PS|refine' zD|(apply mu;exact aj;exact λs=>UC s _ aa;intro _ _ a b _ _)|refine' eI|fail);rw[d (.inr (.inr ki))];(refine' eu)<;>rfl;(have hn:dD st p=O:=by cases B:dD st p<;>simp_all);rw[g sN aT,hn];(refine' eu)<;>rfl;obtain⟨z,V⟩:=sj.1 (show(dD st p).isSome=J by simp_all);have f:=g aT aT;rw[V] at f⊢;simp only[lI] at *
   generalize c:(eY z).getD []=q at *
   have S:Y q<=4:=by
    cases hf:eY z with
    |none=>rw[hf] at c;subst c;simp
    |some l=>rw[hf] at c;have:=(Pg.qD hf).1;simp at c;subst c;omega
   refine W.bu (λk l L=>∃(i:Nat),Le [(4,bk bx),(10,H a (Y q) b),(11,M (eY z).isSome),(12,iv i)] l/\cb [.aU (H a (Y q) b) 31 5 (ab q),.box bx (nA p) 31 U] L/\k=Y q-i/\i<=Y q/\∀j,j<i->¬p.bE<(q.getD j au.ad).bE)
    (λl L=>Le [(10,H a (Y q) b),(11,M (eY z).isSome)] l/\cb [.aU (H a (Y q) b) 31 5 (ab q)] L/\∀j,j<Y q->¬p.bE<(q.getD j au.ad).bE) (Y q) ⟨0,bd,ak,aa,aa,λj m=>by omega⟩ ?_ ?_
   rintro k l L ⟨i,hl,D,rfl,o,r⟩;refine' cP;refine' eR;have hn:below st p level=O:=by
    rw[f];cases hf:eY z with
    |none=>rfl
    |some w=>rw[hf] at c;(have c:w=q:=by simpa using c);subst c;simp only;rw[ai];rw[Cj];exact⟨_,a7 (show i<Y w by omega) au.ad,by simpa using ki⟩
   rw[hn];(refine' eu)<;>rfl;refine⟨_,?_,i+1,bd,ak,rfl,aa,λj m=>?_⟩;omega;by_cases u:j=i;subst u;omega;exact r j aa;exact⟨bd,ak,λj m=>r j aa⟩;rintro l L ⟨hl,D,o⟩;refine' gh;have:below st p level=eY z:=by
    rw[f];cases hf:eY z with
    |none=>rfl
    |some w=>rw[hf] at c;(have c:w=q:=by simpa using c);subst c;simp only;rw[af];intro hc;obtain⟨x,B,y⟩:=Cj.1 hc;obtain⟨j,m,rfl⟩:=si B;have:=o j m;rw[getD_at _ m] at this;exact this (by simpa using y)
   rw[this];refine' eR;refine' eu;exact c;rfl;first
    |(exfalso;simp_all;done)
    |(rw[d (.inr (.inl sN))];(refine' eu)<;>rfl)
   all_goals first
     |(exfalso;simp_all;done)
     |(rw[d (.inr (.inl sN))];(refine' eu)<;>rfl)
  have e:aQ p=U:=by simpa using n
  (have Q:(!aQ p)=J:=by rw[e];rfl);refine a8 f192 ?_;(repeat' first|refine' Fq|refine' PS|refine' eI|fail);rw[d (.inl e)];(refine' eu)<;>rfl
variable {q:cc}{n:Int}
def ML {n:Nat}(h:down st (n+1:Nat) q=O):du.go st (n+1) q=O:=by rw[du.go,h]
def UE {p:fm}(a:p∈q)(h:below st p n=O):down st n q=O:=by
 cases hd:down st n q with
 |none=>rfl
 |some r=>have:=Pg.uA hd p a;rw[h] at this;cases this
def zM {q r:cc}{i:Nat}(hi:i<Y q)(h:down st n (q.take i)=C r){k:cc}(a:below st (q.getD i au.ad) n=C k):down st n (q.take (i+1))=C (r++k):=by rw[dS q au.ad hi];have:=Pg.po a (Pg.LW st n);rw[fT] at this;exact Pg.C5 h this
def uG (s:St)(v:SA)(st:ae)(h:cZ 100000 st)(t:bt)(ht:ee t)(hr:cr s v st):et aZ aW 127 [eg v st,tv t] s (iB v) 31 ((du st t).getD []) (du st t).isSome:=by
 have G:=Rd.Bt hr;have D:=Rd.off hr;have F:=Rd.y8 hr;have x:=ht.dp;refine a8 f127 ?_;(repeat(first|refine' v7|refine' gL|fail));have g:∀n:Nat,n<=2->4^ n<=16:=λn hn=>by
  have:n=0\/n=1\/n=2:=by omega
  obtain rfl|rfl|rfl:=this<;>decide
 refine W.bu (λk l L=>∃(n:Nat)(q:cc)(a:aP)(c bs:Nat),Le [(2,bk bs),(6,H a (Y q) c),(7,iv n)] l/\cb [.aU (H a (Y q) c) 31 5 (ab q),.box bs (lL v st) 29 U] L/\k=n/\Y q*4^ n<=16/\du st t=du.go st n q/\n<=2)
  (λl L=>∃(q:cc)(a:aP)(c:Nat),Le [(6,H a (Y q) c)] l/\cb [.aU (H a (Y q) c) 31 5 (ab q)] L/\du st t=C q) t.depth.toNat ⟨t.depth.toNat,[t.bU],C ⟨bl,0,O⟩,1,_,(by rw[Ar x.1];exact bd),ak,rfl,?_,rfl,aa⟩ ?_ ?_
 have:=g t.depth.toNat aa;simpa using this;rintro k l L ⟨n,q,a,c,bs,hl,u,N,j,m,Q⟩;refine' cP;subst N;cases k with
 |zero=>refine' OP;exact⟨q,a,c,bd,ak,m⟩
 |succ n=>
  (have y:Y q<=16:=by have:1<=4^ (n+1):=Nat.pow_pos aa;exact jR (Gv _ this) j);(have e:∀p∈q,below st p ((n+1:Nat):Int)=O->du st t=O:=λp S hb=>by rw[m,ML (UE S hb)]);refine' eR;rotate_left 1;exfalso;omega;refine W.bu (λk l L=>∃(i:Nat)(r:cc)(b:aP)(d:Nat),Le [(2,bk bs),(6,H a (Y q) c),(7,iv ((n+1:Nat):Int)),(8,H b (Y r) d),(9,iv i)] l/\cb [.aU (H b (Y r) d) 31 5 (ab r),.aU (H a (Y q) c) 31 5 (ab q),.box bs (lL v st) 29 U] L/\k=Y q-i/\i<=Y q/\down st ((n+1:Nat):Int) (q.take i)=C r)
   (λl L=>∃(r:cc)(b:aP)(d:Nat),Le [(2,bk bs),(7,iv ((n+1:Nat):Int)),(8,H b (Y r) d)] l/\cb [.aU (H b (Y r) d) 31 5 (ab r),.box bs (lL v st) 29 U] L/\down st ((n+1:Nat):Int) q=C r) (Y q) ⟨0,[],_,_,bd,ak,aa,aa,rfl⟩ ?_ ?_
  .rintro k l L ⟨i,r,b,d,hl,u,rfl,o,g⟩;refine' cP;have f:=(Pg.pR g).1;rw[de] at f;have B:Y ((below st (q.getD i au.ad) ((n+1:Nat):Int)).getD [])<=4:=by
    cases hb:below st (q.getD i au.ad) ((n+1:Nat):Int) with
    |none=>simp
    |some w=>have:=(Pg.hY hb).1;simp;omega
   (repeat' first|refine' aba|refine' eI|fail);have hn:below st (q.getD i au.ad) ((n+1:Nat):Int)=O:=by
    cases hb:below st (q.getD i au.ad) ((n+1:Nat):Int) with
    |none=>rfl
    |some w=>rw[hb] at ki;cases ki
   rw[e _ (a7 (show i<Y q by omega) _) hn];((refine' eu)<;>rfl;obtain⟨w,z⟩:=sj.1 ki;rw[z];refine⟨_,?_,i+1,r++w,_,_,bd,ak,rfl,aa,zM aa g z⟩;omega;have hi:i=Y q:=by omega);subst hi;rw[lG] at g;exact⟨r,_,_,bd,ak,g⟩
  rintro l L ⟨r,b,d,hl,u,o⟩;refine' gh;have f:=(Pg.pR o).1;refine' eR;refine⟨_,?_,n,r,_,_,_,?_,ak,rfl,?_,?_,aa⟩;omega;(have:((n+1:Nat):Int)-1=(n:Nat):=by omega);rw[this];exact bd;rw[f];rw[qm] at j;(have:4*Y q*4^ n=Y q*(4^ n*4):=by rw[GH 4,GG,GH 4]);omega;rw[m,du.go,o]
 rintro l L ⟨q,a,c,hl,u,j⟩;refine' gh;rw[j];refine' eR;(refine' eu)<;>rfl
section
variable {t:bt}
def HR {st:ae}(ht:ee t){l:cc}(h:du st t=C l):Y l<=16/\∀p∈l,aQ p=J:=by
 unfold du at h;rw[Pg.qF] at h;cases hl:Pg.pd st t.depth.toNat [t.bU] with
 |none=>rw[hl] at h;cases h
 |some r=>
  rw[hl] at h;obtain⟨a,q⟩:=r;have h:a=l:=by simpa using h
  subst h;obtain⟨b,c⟩:=Pg.C9 hl;refine⟨?_,c (by simpa using ht.rt)⟩;have hd:=ht.dp;have:t.depth.toNat=0\/t.depth.toNat=1\/t.depth.toNat=2:=by omega
  rw[b];obtain h|h|h:=this<;>rw[h]<;>simp
def qK {st:ae}(ht:ee t):Y ((du st t).getD [])<=16/\Y (cv st t)=16/\∀p∈cv st t,aQ p=J:=by
 unfold cv;cases h:du st t with
 |none=>exact⟨aq,by simp[cX],λp a=>by
  have a:p∈cX 16:=by simpa using a
  rw[Pg.kh a];decide⟩
 |some l=>obtain⟨b,c⟩:=HR ht h;refine⟨b,by simp[cX];omega,λp a=>?_⟩;obtain a|a:=cG.1 a;exact c p a;rw[Pg.kh a];decide
def Hy (s:St)(v:SA)(st:ae)(h:cZ 100000 st)(t:bt)(ht:ee t)(hr:cr s v st):eD aZ aW 70 [eg v st,tv t] s (iB v) 31 (cv st t):=by
 have c:=Rd.Bt hr;have a:=Rd.off hr;have b:=Rd.y8 hr;have e:=(qK (st:=st) ht).1;have d:Y (cX (16-(Y ((du st t).getD []):Int)).toNat)<=16:=by rw[Pg.iW];omega
 refine a8 f70 ?_;repeat' first|refine' afZ|refine' ad5|refine' eI|fail
 refine' kT;unfold cv;simp only[kG];congr 2;omega
def MM {st:ae}(h:cZ 100000 st)(p:fm):Y (b0 st p)<=3000:=HQ h p
def MN (s:St)(v:SA)(st:ae)(h:cZ 100000 st)(t:bt)(ht:ee t)(k:Nat)(f:k<16)(hr:cr s v st):bM 275 [eg v st,tv t,iv k] s (iB v) (sv (Ts st t k)):=by
 have d:=Rd.Bt hr;have b:=Rd.off hr;have c:=Rd.y8 hr;obtain⟨_,g,a⟩:=qK (st:=st) ht;have e:aQ ((cv st t).getD k au.ad)=J:=a _ (a7 aa _);refine a8 f275 ?_;repeat' first|refine' Du|refine' zD|refine' eI|fail
 refine' aC;rfl
def Dw (s:St)(v:SA)(st:ae)(h:cZ 100000 st)(t:bt)(ht:ee t)(hr:cr s v st):eD aZ aW 75 [eg v st,tv t] s (iB v) 9 (fU st t):=by
 have o:=Rd.Bt hr;have j:=Rd.off hr;have m:=Rd.y8 hr;obtain⟨_,B,f⟩:=qK (st:=st) ht;have u:=ht.mn;refine a8 f75 ?_;repeat' first|refine' Du|refine' eI|fail
 rw[show fU st t=((cv st t).take t.many.toNat).map (b0 st) from rfl];generalize cv st t=w at *
 refine W.bu (λk l L=>∃(i bs c:Nat)(r:List aw)(a:aP)(b:Nat),Le [(2,bk bs),(3,bk c),(6,H Ml (Y w) Mm),(5,H a (Y r) b),(7,iv i)] l/\cb [.aU (H a (Y r) b) 9 1 (ab r),.aU (H Ml (Y w) Mm) 31 5 (ab w),.box bs (lL v st) 29 U,.box c (eN t) 33 U] L/\k=t.many.toNat-i/\i<=t.many.toNat/\r=(w.take i).map (b0 st))
  (λl L=>∃(a:aP)(b:Nat),Le [(5,H a (Y ((w.take t.many.toNat).map (b0 st))) b)] l/\cb [.aU (H a (Y ((w.take t.many.toNat).map (b0 st))) b) 9 1 (ab ((w.take t.many.toNat).map (b0 st)))] L) t.many.toNat ⟨0,_,_,[],_,_,bd,ak,aa,aa,rfl⟩ ?_ ?_
 .rintro k l L ⟨i,bs,c,r,a,b,hl,g,rfl,z,d⟩;refine' cP;have y:Y r<=16:=by rw[d];simp;omega
  by_cases hi:i<t.many.toNat
  .have x:aQ (w.getD i au.ad)=J:=f _ (a7 aa _);(repeat' first|refine' zD|refine' eI|fail);refine⟨_,?_,i+1,_,_,r++[b0 st (w.getD i au.ad)],_,_,bd,ak,rfl,aa,?_⟩;omega;rw[d,dS w au.ad aa];simp;all_goals(exfalso;omega)
  have e:i=t.many.toNat:=by omega
  subst e;subst d;(repeat' first|refine' zD|refine' eI|fail);all_goals first|(exfalso;omega;done)|exact⟨_,_,bd,ak⟩
 rintro l L ⟨a,b,hl,g⟩;refine' gh;refine' eR;refine' kT;rfl
def Uq (s:St)(a:aP)(c:Nat)(p:cc)(m:Y p<=3000)(hr:bJ s a (Y p) 5 (ab p)):bM 194 [H a (Y p) c] s (ah a) (M (p.all av)):=by
 have hd:=Rd.of hr (A:=ah a) λb hb=>hb;refine a8 f194 ?_;(repeat(first|refine' v7|refine' gL|fail));refine W.bu (λk l L=>∃(i:Nat),Le [(0,H a (Y p) c),(3,iv i)] l/\cb [] L/\k=Y p-i/\i<=Y p/\(p.take i).all av=J)
  (λl L=>p.all av=J) (Y p) ⟨0,bd,ak,aa,aa,rfl⟩ ?_ ?_
 .rintro k l L ⟨i,hl,j,rfl,g,d⟩;refine' cP;by_cases hi:i<Y p
  .have e:=dS p au.ad hi;refine' Br;(refine' aC);(have:p.all av=U:=by rw[KT];exact⟨_,a7 hi au.ad,by simp_all⟩);rw[this];rfl;refine⟨_,?_,i+1,bd,ak,rfl,aa,?_⟩;omega;rw[e,GD,d];simp_all;all_goals(exfalso;omega)
  have f:i=Y p:=by omega
  subst f;rw[lG] at d;refine' Br;all_goals first|(exfalso;omega;done)|exact d
 rintro l L g;refine aJ ?_;refine W.le ?_ (Le.nil _) (cb.nil _);refine' eR;refine' aC;rw[g];rfl
end
def Sd (s:St)(v:SA)(st:ae)(h:cZ 100000 st)(t:bt)(hr:cr s v st):bM 153 [eg v st,tv t] s (iB v) (M (da st t)):=by
 have T:=Rd.Bt hr;have Q:=Rd.off hr;have S:=Rd.y8 hr;by_cases G:fI t.many 0 16=J/\t.depth=bR t.many/\aQ t.bU=J;obtain⟨f,m,g⟩:=G;have x:0<=t.many/\t.many<=16:=by simpa[fI] using f
 have ht:ee t:=⟨g,x,by have:=Pg.eE t.many;omega⟩;have g1:(!fI t.many 0 16)=U:=by rw[f];rfl
 have g2:(!decide (t.depth=bR t.many))=U:=by simp[m]
 have g3:(!aQ t.bU)=U:=by rw[g];rfl
 have B:da st t=match du st t with
   |none=>U
   |some l=>ik (iH st t.many) 0 l:=by
  unfold da;rw[f,g];simp[m];rfl
 rw[B];cases hl:du st t with
 |none=>(have hs:(du st t).isSome=U:=by rw[hl];rfl);refine a8 f153 ?_;(repeat' first|refine' KF|refine' XT|refine' PS|refine' afZ|refine' eI|fail);all_goals first|((refine' aC);rfl)|(exfalso;simp_all;done)
 |some q=>
  obtain⟨hq,z⟩:=HR ht hl;(have c:∀s,cr s v st->et aZ aW 127 [eg v st,tv t] s (iB v) 31 q J:=λs hr=>by have:=uG s v st h t ht hr;rwa[hl] at this);refine a8 f153 ?_;(repeat' first|refine' KF|refine' XT|refine' PS|(apply kU;exact aj;exact λs hr=>c s hr;exact dO;intro _ _ a b _ _)|refine' eI|fail);refine W.bu (λk l L=>∃(i bs u:Nat),Le [(2,bk bs),(3,bk u),(5,H a (Y q) b),(7,iv i)] l/\cb [.aU (H a (Y q) b) 31 5 (ab q),.box bs (lL v st) 29 U,.box u (eN t) 33 U] L/\k=Y q-i/\i<=Y q/\ik (iH st t.many) 0 q=ik (iH st t.many) i (q.drop i))
   (λl L=>ik (iH st t.many) 0 q=J) (Y q) ⟨0,_,_,bd,ak,aa,aa,rfl⟩ ?_ ?_
  .rintro k l L ⟨i,bs,u,hl,hL,rfl,h4,j⟩;refine' cP;by_cases hi:i<Y q
   .have V:aQ (q.getD i au.ad)=J:=z _ (a7 hi _);(have e:ik (iH st t.many) i (q.drop i)=(iH st t.many i (q.getD i au.ad)&&ik (iH st t.many) (i+1) (q.drop (i+1))):=by rw[xF hi,getD_at _ hi];rfl);rw[e] at j;(have y:iH st t.many i (q.getD i au.ad)=U->ik (iH st t.many) 0 q=U:=λhf=>by rw[j,hf];rfl);(have r:iH st t.many i (q.getD i au.ad)=J->ik (iH st t.many) 0 q=ik (iH st t.many) (i+1) (q.drop (i+1)):=λhf=>by rw[j,hf];rfl);have d:iH st t.many i (q.getD i au.ad)=(av (q.getD i au.ad)||((dD st (q.getD i au.ad)).isSome&&decide ((q.getD i au.ad).level=0)&&decide ((q.getD i au.ad).bE<=st.dm)&&decide ((i:Int)<t.many))):=rfl;(repeat' first|refine' Fq|refine' zD|refine' eI|fail);refine⟨_,?_,i+1,_,_,bd,ak,rfl,aa,r (by rw[d,hc];rfl)⟩;omega;rotate_left 1;refine⟨_,?_,i+1,_,_,bd,ak,rfl,aa,r ?_⟩;omega;rw[d];simp only[km,ep,gv];right;exact⟨⟨⟨aT,aT⟩,aT⟩,aT⟩;rotate_left 3;exfalso;omega;all_goals
     (have N:av (q.getD i au.ad)=U:=by assumption);refine' aC;dsimp only
     have:ik (iH st t.many) 0 q=U:=by refine y (Bool.eq_false_iff.2 λo=>?_);rw[d] at o;simp only[km,ep,gv] at o;obtain o|⟨⟨⟨D,F⟩,Z⟩,hx4⟩:=o;rw[o] at N;cases N;first|omega|exact sN F|(rw[D] at sN;cases sN)
     rw[this];rfl
   (have w:i=Y q:=by omega);subst w;(repeat' first|refine' Fq|refine' zD|refine' eI|fail);all_goals first|(exfalso;omega;done)|(rw[j,re];rfl)
  rintro l L j;refine aJ ?_;refine W.le ?_ (Le.nil _) (cb.nil _);refine' eR;refine' aC;dsimp only;rw[j];rfl
 have hf:da st t=U:=by unfold da;by_cases f:fI t.many 0 16=J;by_cases m:t.depth=bR t.many;by_cases g:aQ t.bU=J;exact absurd ⟨f,m,g⟩ G;simp[g];simp[m];simp[f]
 rw[hf];refine a8 f153 ?_;repeat' first|refine' KF|refine' XT|refine' PS|refine' eI|fail
 all_goals first|((refine' aC);rfl)|(exfalso;simp_all;done)
def j9 {st:ae}(h:cZ 100000 st){t:bt}(ht:ee t):Y (fU st t)=t.many.toNat/\∀s∈fU st t,Y s<=3000:=by have a:=(qK (st:=st) ht).2.1;have hm:=ht.mn;unfold fU;refine⟨by rw[fH,de,a];omega,λs hs=>?_⟩;obtain⟨p,_,rfl⟩:=qj.1 hs;exact MM h p
def drop_cons {α:Type}{sz:Nat}[au α sz]{q:List α}{i:Nat}(hi:i<Y q):q.drop i=q.getD i (au.ad (α:=α) (sz:=sz))::q.drop (i+1):=by rw[xF hi,getD_at _ hi]
def MO (s:St)(v:SA)(st:ae)(h:cZ 100000 st)(t:bt)(ht:ee t)(hr:cr s v st):bM 225 [eg v st,tv t] s (iB v) (Sr (nc st t)):=by
 have o:=Rd.Bt hr;have j:=Rd.off hr;have m:=Rd.y8 hr;obtain⟨hl,g⟩:=j9 h ht;have hm:=ht.mn;refine a8 f225 ?_;refine' Yf;unfold nc;generalize fU st t=w at *
 refine W.bu (λk l L=>∃(i e:Nat)(z:aw),Le [(3,bk e),(7,H gV (Y w) gW),(6,sv z),(8,iv i)] l/\cb [.aU (H gV (Y w) gW) 9 1 (ab w),.box e (eN t) 33 U] L/\k=Y w-i/\i<=Y w/\Y z<=i*3000/\il t.many 0 w []=il t.many i (w.drop i) z)
  (λl L=>∃z:aw,Le [(6,sv z)] l/\cb [] L/\il t.many 0 w []=C z) (Y w) ⟨0,_,[],bd,ak,aa,aa,aq,rfl⟩ ?_ ?_
 .rintro k l L ⟨i,e,z,b,d,rfl,u,x,a⟩;refine W.le ?_ b d;clear b d;by_cases hi:i<Y w;have r:=g _ (a7 hi au.ad);rw[drop_cons hi,il] at a;refine' eR;(have hn:il t.many 0 w []=O:=by rw[a,ai];simp only[km,ep,gv];exact .inr ⟨aT,aa⟩);rw[hn];refine' aC;rfl;rw[af (by simp only[km,ep,gv];rintro(c|⟨_,c⟩)<;>first|exact absurd c aT|omega)] at a;refine⟨_,?_,i+1,_,_,bd,ak,rfl,aa,?_,a⟩;omega;rw[dB];omega;rw[af (by simp only[km,ep,gv];rintro(c|⟨_,c⟩)<;>first|exact absurd c aT|omega)] at a;refine⟨_,?_,i+1,_,_,bd,ak,rfl,aa,?_,a⟩;omega;rw[dB];omega;(have hn:il t.many 0 w []=O:=by rw[a,ai];simp only[km,ep,gv];exact .inl sN);rw[hn];refine' aC;rfl;exfalso;omega;have f:i=Y w:=by omega
  subst f;rw[re] at a;refine' eR;all_goals first|(exfalso;omega;done)|exact⟨z,bd,ak,a⟩
 rintro l L ⟨z,b,d,a⟩;refine aJ ?_;refine W.le ?_ b d;refine' eR;refine' aC;rw[a];rfl
def AL (s:St)(z:aw)(m:Y z<=100000):eD aZ aW 274 [sv z] s [] 9 (dv (Y z+1) z):=by
 refine a8 f274 ?_;(repeat(first|refine' v7|refine' gL|fail));refine W.bu (λk l L=>∃(f:Nat)(y:aw)(q:List aw)(a:aP)(c:Nat),Le [(0,sv y),(3,H a (Y q) c)] l/\cb [.aU (H a (Y q) c) 9 1 (ab q)] L/\k=Y y/\Y y<f/\Y q+Y y<=Y z/\dv (Y z+1) z=q++dv f y)
  (λl L=>∃(y:aw)(q:List aw)(a:aP)(c:Nat),Le [(0,sv y),(3,H a (Y q) c)] l/\cb [.aU (H a (Y q) c) 9 1 (ab q)] L/\Y q<=Y z/\dv (Y z+1) z=q++if y=[] then [] else [y]) (Y z) ⟨Y z+1,z,[],_,_,bd,ak,rfl,aa,aq,aq⟩ ?_ ?_
 rintro k l L ⟨f,y,q,a,c,hl,i,rfl,e,j,b⟩;refine' cP;obtain⟨f,rfl⟩:∃g,f=g+1:=⟨f-1,aa⟩;rw[show dv (f+1) y=if 128<Y y then y.take 128::dv f (y.drop 128) else if y=[] then [] else [y] from rfl] at b;refine' eR;rw[ai aa] at b;refine⟨_,?_,f,y.drop 128,q++[y.take 128],_,_,bd,ak,rfl,?_,?_,?_⟩;rw[fq];omega;rw[fq];omega;simp only[dB,fq,fS,jm];omega;rw[b];simp;rw[af aa] at b;exact⟨y,q,_,_,bd,ak,aa,b⟩;rintro l L ⟨y,q,a,c,hl,i,e,b⟩;refine' gh;rw[b];by_cases d:y=[]
 .subst d;refine' eR;all_goals first|(exfalso;simp_all;done)|((refine' kT);simp)
 rw[af d];refine' eR;all_goals first|(exfalso;simp_all;done)|((refine' kT);rfl)
def zH (s:St)(v:SA)(st:ae)(h:cZ 100000 st)(t:bt)(ht:ee t)(k:Int)(g: -1000<=k/\k<=1000)(hr:cr s v st):bM 241 [eg v st,tv t,iv k] s (iB v) (uN (ju st t k)):=by
 have e:=Rd.Bt hr;have c:=Rd.off hr;have d:=Rd.y8 hr;have hm:=ht.mn;by_cases hi:fI k 0 (t.many-1)=J
 .have b:0<=k/\k<=t.many-1:=by simpa[fI] using hi
  obtain⟨n,rfl⟩:=tI b.1;have f:Y (Ts st t n)<=3000:=MM h _;have hn:(!fI (n:Int) 0 (t.many-1))=U:=by rw[hi];rfl
  unfold ju;rw[af (by rw[hi];simp),px];refine a8 f241 ?_;(repeat' first|refine' KF|(apply eV;exact aj;(first|exact λs hr=>MN s _ _ aT _ aT _ aa hr|exact λs hr=>MN s _ _ aT ⟨⟨_,_,_,_,_⟩,_,_⟩ aT _ aa hr);exact dO;intros)|(apply ag;exact aj;exact λs=>sQ s _ aa;intros)|refine' eI|fail);refine' aC;cases bY (Ts st t n)<;>rfl
 have a:fI k 0 (t.many-1)=U:=by simpa using hi
 have hn:(!fI k 0 (t.many-1))=J:=by rw[a];rfl
 unfold ju;rw[ai hn];refine a8 f241 ?_;refine' zb2;refine' aC;rfl
def Qb (s:St)(v:SA)(st:ae)(h:cZ 100000 st)(t:bt)(ht:ee t)(hr:cr s v st):bM 172 [eg v st,tv t] s (iB v) (iv (o2i (um st t))):=by
 have m:=Rd.Bt hr;have g:=Rd.off hr;have j:=Rd.y8 hr;obtain⟨hl,r⟩:=j9 h ht;have hm:=ht.mn;refine a8 f172 ?_;refine' Yf;unfold um;generalize fU st t=w at *
 refine W.bu (λk l L=>∃(i:Nat),Le [(5,H gV (Y w) gW),(6,iv i)] l/\cb [.aU (H gV (Y w) gW) 9 1 (ab w)] L/\k=16-i/\i<=16/\nL (λk=>decide (w.getD k []=[])) 16 0=nL (λk=>decide (w.getD k []=[])) (16-i) i)
  (λl L=>nL (λk=>decide (w.getD k []=[])) 16 0=O) 16 ⟨0,bd,ak,aa,aa,rfl⟩ ?_ ?_
 .rintro k l L ⟨i,b,f,rfl,e,a⟩;refine W.le ?_ b f;clear b f;by_cases hi:i<16;rw[xg (n:=16-i) (i:=i) aa] at a;by_cases o:i<Y w;(refine' OP);rw[show nL (λk=>decide (w.getD k []=[])) 16 0=C i from a.trans (ai (gZ ki))];refine' aC;rfl;refine⟨_,?_,i+1,bd,ak,rfl,aa,?_⟩;omega;exact a.trans (af (by rwa[gv]));(have c:w.getD i []=[]:=by rw[eX,mQ aa];rfl);refine' OP;rw[show nL (λk=>decide (w.getD k []=[])) 16 0=C i from a.trans (ai (gZ c))];refine' aC;rfl;have d:i=16:=by omega
  subst d;refine' eR;all_goals first|(exfalso;omega;done)|exact a
 rintro l L e;refine aJ ?_;refine W.le ?_ (Le.nil _) (cb.nil _);refine' eR;refine' aC;rw[e];rfl
def Qc (s:St)(v:SA)(st:ae)(h:cZ 100000 st)(t:bt)(ht:ee t)(a:Int)(hr:cr s v st):bM 242 [eg v st,tv t,iv a] s (iB v) (iv (qz st t a)):=by
 have o:=Rd.Bt hr;have j:=Rd.off hr;have m:=Rd.y8 hr;obtain⟨hl,r⟩:=j9 h ht;have hm:=ht.mn;refine a8 f242 ?_;refine' Yf;unfold qz;generalize fU st t=w at *
 refine W.bu (λk l L=>∃(i n e:Nat),Le [(2,iv a),(4,bk e),(7,iv n),(8,H gV (Y w) gW),(9,iv i)] l/\cb [.aU (H gV (Y w) gW) 9 1 (ab w),.box e (eN t) 33 U] L/\k=Y w-i/\i<=Y w/\mr a 0 0 w=mr a i n (w.drop i))
  (λl L=>Le [(7,iv (mr a 0 0 w))] l/\cb [] L) (Y w) ⟨0,0,_,bd,ak,aa,aa,rfl⟩ ?_ ?_
 .rintro k l L ⟨i,n,e,c,d,rfl,u,b⟩;refine W.le ?_ c d;clear c d;by_cases hi:i<Y w;rw[drop_cons hi,mr] at b;refine' OP;rw[ai (by simp only[ep,gv];exact⟨sN,ki⟩)] at b;refine⟨_,?_,i+1,i+1,_,bd,ak,rfl,aa,b⟩;omega;rw[af (by simp only[ep,gv];rintro⟨_,g⟩;exact g ki)] at b;refine⟨_,?_,i+1,n,_,bd,ak,rfl,aa,b⟩;omega;rw[af (by simp only[ep,gv];rintro⟨g,_⟩;exact g sN)] at b;refine⟨_,?_,i+1,n,_,bd,ak,rfl,aa,b⟩;omega;have f:i=Y w:=by omega
  subst f;rw[re] at b;have b:mr a 0 0 w=n:=b;refine' eR;all_goals first|(exfalso;omega;done)|(rw[b];exact⟨bd,ak⟩)
 rintro l L ⟨c,d⟩;refine aJ ?_;refine W.le ?_ c d;refine' eR;refine' aC;rfl
end Go.Pl
