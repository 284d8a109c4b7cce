/- Lemmas of the proof. No conditions. -/
import Derived.Test.YtnealhiolaklpaaGreatDoorAf4
set_option maxRecDepth 100000
set_option maxHeartbeats 4000000
set_option linter.all false
open Bool renaming false->U,true->J
open Option renaming none->O,some->C
open List renaming length->Y
open Go.Value renaming slice->H,bool->M,int->I
open Go.Proofs.Tryz
open Nat (beq ble mul)
open Go.Result (andThen_ok)
open Go.Sem (run_bind)
open Go.Region (binds)
open List (replicate)
open Int (toNat)
open Go.Builtin (firstCells)
open Go.Instr (checkKey)
namespace Go.Pl
open Go Go.Ev Go.Lg Go.Proofs
variable {E:hJ}{X:fb}{Γ:ng}{l:Kn}{L R:cq}{K:KO}{o:Go.Op}{b:Nat}{v:SA}{st:ae}{p:List (Option dX)}{r:Bool}{x y:Operand}{t t2 e:TypeId}{a a2:aP}{c c2:Nat}{q:List Int}{k i:Int}
section
variable {o:fa}
def ace {kt:IntKind}[ht:ky E t e 1](m:Ev l x (H a (Y (k::q)) c))(A:QF e b a c o (k::q))(u:Ev l y (I kt 0))(h:∀n z,QP b o z k->K (.pointer z) L n n Z Z):WO E X Γ l (.indexAddr t x y) L K:=λf s d j=>by
 obtain⟨hu,D,F,B,w,_⟩:=ht.h;have hs:size E e=C 1:=by unfold size;rw[B];simp[w]
 cases A with
 |lit=>refine eM.pure (v:=bk b) (s':=s) (λcall=>?_) ⟨L,Z,Z,j,iS.id,h _ _ (.row _ _ _ _ _ rfl)⟩;show hS E s t (aM f x) (aM f y)=_;rw[m.eval d,u.eval d];unfold hS;rw[hu];show dq (ble (Nat.succ 0) 1) (ob (size E e) λsz=>aD (.pointer (C ⟨b,Nat.add 0 (mul 0 sz),O⟩)) s)=_;rw[hs];rfl
 |row p=>refine eM.pure (v:=.pointer (C ⟨b,Y p,O⟩)) (s':=s) (λcall=>?_) ⟨L,Z,Z,j,iS.id,h _ _ (.row _ _ _ _ _ (SR _ _ _))⟩;show hS E s t (aM f x) (aM f y)=_;rw[m.eval d,u.eval d];unfold hS;rw[hu];show dq (ble (Nat.succ 0) (Y (k::q))) (ob (size E e) λsz=>aD (.pointer (C ⟨b,Nat.add (Y p) (mul 0 sz),O⟩)) s)=_;rw[hs,dQ (by simp only[fS];omega)];rfl
 |mark p=>refine eM.pure (v:=.pointer (C ⟨b,Y p,C 0⟩)) (s':=s) (λcall=>?_) ⟨L,Z,Z,j,iS.id,h _ _ (.mark _ _ _ _ (SR _ _ _))⟩;show hS E s t (aM f x) (aM f y)=_;rw[m.eval d,u.eval d];unfold hS;rw[hu];show dq (ble (Nat.succ 0) (Y (k::q))) (ob (size E e) λsz=>aD (.pointer (C ⟨b,Nat.add (Y p) (mul 0 sz),C 0⟩)) s)=_;rw[hs,dQ (by simp only[fS];omega)];rfl
def Zy [ht:j7 E t](z:Ev l x (.pointer a))(u:QP b o a k)(hm:It.iC b o∈L)(h:∀n,K (iv k) L n n (λi=>i=b) Z):WO E X Γ l (.load t x) L K:=
 CU (λs hi=>hi.may hm (by simp[It.bC])) (λA s call hl hi=>by
  have f:s.heap.get b=C o:=hi.it _ hm;show Go.Ev.tU E s t (aM A x)=_;rw[z.eval hl];cases u with
  |row c e w off k h=>exact pN f (by rwa[<-ec])
  |mark c e off k h=>obtain⟨d,j,m⟩:=ht.h;show Go.Ev.Ry E s t b off=_;unfold Go.Ev.Ry St.jo St.look;rw[f];simp only[bF,j,m,ey,h]) h
def acf {kt:IntKind}[ht:ky E t e 1](T:Ev l x (H a (Y (k::q)) c))(S:QF e b a c o (k::q))(V:Ev l y (I kt 1))(hm:It.iC b o∈L)(h:∀n a' c',(q=[]\/QF e b a' c' o q)->K (H a' (Y q) c') L n n (λi=>i=b) Z):WO E X Γ l (.slice t x (C y) O O) L K:=λG s N A=>by
 obtain⟨hu,z1,z2,W,F,_⟩:=ht.h;have hs:size E e=C 1:=by unfold size;rw[W];simp[F]
 have j:qW Γ s b:=A.may hm (by simp[It.bC]);have P:s.heap.get b=C o:=A.it _ hm;have f:∀(v:Value)(s':St),fX E s t (H a (Y (k::q)) c) (C (I kt 1)) O O=C (v,s')->(s'=s\/s'=s.aL b)->(∃a' c',v= H a' (Y q) c'/\(q=[]\/QF e b a' c' o q))->eM E X (aM G) s (.slice t x (C y) O O) λv s'=>∃L' R Wr,Inv Γ s' L'/\iS s s' R Wr/\K v L' s.next s'.next R Wr:=λv s' hr m ⟨a',c',hv,u⟩=>by subst hv;refine eM.pure (v:=H a' (Y q) c') (s':=s') (λcall=>?_) ⟨L,(λi=>i=b),Z,?_,?_,?_⟩;show fX E s t (aM G x) (C (aM G y)) O O=_;rwa[T.eval N,V.eval N];rcases m with rfl|rfl;exact A;exact A.aL j;rcases m with rfl|rfl;exact iS.id;exact cH j.1 rfl;rcases m with rfl|rfl;exact h _ _ _ u;rw[bh];exact h _ _ _ u
 cases S with
 |lit=>refine f (H (ko b) 0 0) s ?_ (.inl rfl) ⟨_,_,rfl,.inl rfl⟩;unfold fX;rw[hu];show ob (size E e) (λsz=>bo (ble cl 1) _ (ob (cQ sz (ko b) 1 1 (C (I kt 1)) O O) λv=>aD v s))=_;rw[hs];rfl
 |row p=>
  have d:fX E s t (H (C ⟨b,Y p,O⟩) (Y (k::q)) (cl+Y p)) (C (I kt 1)) O O=bo (beq 1 0||ble 2 (Y (k::q))) (aD (H (C ⟨b,Y p+1,O⟩) (Y q) (cl+Y p+1)) (s.aL b)) (aD (H (C ⟨b,Y p+1,C (Y p+2)⟩) 0 (cl+Y p+1)) (s.aL b)):=by unfold fX;rw[hu];show ob (size E e) (λsz=>bo (ble cl (cl+Y p)) (iF e sz (C ⟨b,Y p,O⟩) (Y (k::q)) (cl+Y p) (C (I kt 1)) O O s) _)=_;rw[hs,bF,dQ (Cl _ _),ff];unfold iF St.row St.look;dsimp only;rw[P];show dq (bo J J (beq 1 1)&&beq e e&&beq (Y p) (mul (Nat.sub (cl+Y p) cl) 1)&&ble (Nat.add (Y p) (mul (Y (k::q)) 1)) (dJ (p++ab (k::q)))) (bounds (Y (k::q)) (Y (k::q)) (C (I kt 1)) O O λl h _=>bo (beq l 0||ble (Nat.succ l) h) (aD (H (C ⟨b,Nat.add (Y p) (mul l 1),O⟩) (Nat.sub h l) (Nat.add (cl+Y p) l)) (s.aL b)) (aD (H (C ⟨b,Nat.add (Y p) (mul l 1),C (Nat.succ (Nat.succ (Y p)))⟩) 0 (Nat.add (cl+Y p) l)) (s.aL b)))=_;(have B:beq (Y p) (mul (Nat.sub (cl+Y p) cl) 1)=J:=by rw[lH];show Y p=(cl+Y p-cl)*1;omega);(have D:ble (Nat.add (Y p) (mul (Y (k::q)) 1)) (dJ (p++ab (k::q)))=J:=by rw[cR,dB,bn];exact dQ (fG _));rw[B,D,kY e];show bounds (Y (k::q)) (Y (k::q)) (C (I kt 1)) O O _=_;unfold bounds;rw[show K0 O (Y (k::q)) (Y (k::q))=C (Y (k::q)) from rfl,bF];rw[show hiV (Y (k::q)) (Y (k::q)) O O=C (Y (k::q)) from rfl,bF];dsimp only;rw[show K0 (C (I kt 1)) (Y (k::q)) 0=mY (I kt 1) (Y (k::q)) from rfl];rw[show mY (I kt 1) (Y (k::q))=C 1 from by show bo (ble 1 (Y (k::q))) (C 1) O=_;rw[dQ (by simp only[fS];omega)];rfl];rfl
  cases q with
  |nil=>exact f _ _ d (.inr rfl) ⟨_,_,rfl,.inl rfl⟩
  |cons w z=>refine f _ _ (d.trans (by rw[dQ (show 2<=Y (k::w::z) by simp only[fS];omega),KK,ff];rfl)) (.inr rfl) ⟨C ⟨b,Y p+1,O⟩,cl+Y p+1,rfl,.inr ?_⟩;have:=QF.row (e:=e) (b:=b) (p++[iv k]) w z;rwa[iD,dB] at this
 |mark p=>
  have d:fX E s t (H (C ⟨b,Y p,C 0⟩) (Y (k::q)) (cl+Y p)) (C (I kt 1)) O O=bo (ble 2 (Y (k::q))) (aD (H (C ⟨b,Y p+1,C 0⟩) (Y q) (cl+Y p+1)) (s.aL b)) (aD (H (C ⟨b,Y p+1,C 1⟩) 0 (cl+Y p+1)) (s.aL b)):=by unfold fX;rw[hu];show ob (size E e) (λsz=>rm e sz (C ⟨b,Y p,C 0⟩) (Y (k::q)) (cl+Y p) (C (I kt 1)) O O s)=_;rw[hs,bF];show s.jo b (λc Q s=>dq (beq 1 1&&beq Q e&&ble 1 (Y (k::q))&&ble cl (cl+Y p)&&beq (Y p) (Nat.sub (cl+Y p) cl)&&ble (Nat.add (Y p) (Y (k::q))) (dJ c))<| bo (ble 2 (Y (k::q))) (aD (H (C ⟨b,Y p+1,C 0⟩) (Y q) (cl+Y p+1)) s) (aD (H (C ⟨b,Y p+1,C 1⟩) 0 (cl+Y p+1)) s))=_;unfold St.jo St.look;rw[P];show dq (beq 1 1&&beq e e&&ble 1 (Y (k::q))&&ble cl (cl+Y p)&&beq (Y p) (Nat.sub (cl+Y p) cl)&&ble (Nat.add (Y p) (Y (k::q))) (dJ (p++ab (k::q)))) _=_;(have B:beq (Y p) (Nat.sub (cl+Y p) cl)=J:=by rw[lH];show Y p=cl+Y p-cl;omega);(have D:ble (Nat.add (Y p) (Y (k::q))) (dJ (p++ab (k::q)))=J:=by rw[cR,dB,bn,sh];exact dQ (fG _));rw[B,D,kY e,dQ (show 1<=Y (k::q) by simp only[fS];omega),dQ (Cl cl (Y p))];rfl
  cases q with
  |nil=>exact f _ _ d (.inr rfl) ⟨_,_,rfl,.inl rfl⟩
  |cons w z=>refine f _ _ (d.trans (by rw[dQ (show 2<=Y (k::w::z) by simp only[fS];omega),ff];rfl)) (.inr rfl) ⟨C ⟨b,Y p+1,C 0⟩,cl+Y p+1,rfl,.inr ?_⟩;have:=QF.mark (e:=e) (b:=b) (p++[iv k]) w z;rwa[iD,dB] at this
def Kq {kt:IntKind}[ht:oV E t e 1 [I kt 0]][ht2:oV E t2 e 1 [I kt 0]](hx:Ev l x (H a (Y q) c))(hq:QF e b a c o q)(hy:Ev l y (H a2 1 c2))(hr:Bm (.iC b o) L R)(hs:ga Γ L a2 1 1 (ab [i]))(hn:Y q+1<=1000000)
  (h:∀m m' b' a' c' o',QF e b' a' c' o' (q++[i])->gk L m->m<=m'->K (H a' (Y (q++[i])) c') (.iC b' o'::R) m m' (λj=>j∈ah a2\/j=b\/j=m) (λj=>j=b\/j=m)):WO E X Γ l (.call ⟨.builtin .append,⟨[x,y]⟩,⟨[t,t2]⟩⟩) L K:=λtm s h1 h2=>by
 obtain⟨hu1,ii,z1,hi,hi2,hi3,hi4,hi5,hi6,hi7⟩:=ht.h;obtain⟨hu2,_⟩:=ht2.h;obtain⟨Z,G⟩:=hs.row h2;have hinv:Inv Γ (jK s a2) L:=h2.jK G;have n:=hinv.bX hr.bX;have W:iS s (jK s a2) (λj=>j∈ah a2\/j=b\/j=s.next) (λj=>j=b\/j=s.next):=wO (λb hb=>(G b hb).1) (λb hb=>.inl hb);have hh1:(jK s a2).heap=s.heap:=CX;have u:(jK s a2).next=s.next:=wN
 have N:∀(k:Nat->aV->St->Option (Value×St)),Ft s 1 (H a2 1 c2) k=k 1 [iv i] (jK s a2):=λk=>CW Z k;generalize GS:jK s a2=f at hinv n W hh1 u N;have BD:∀(r:Value×St),bo (S0 a c) (iU e 1 a (Y q) c 1 [iv i] f) (iZ e 1 a (Y q) c 1 [iv i] f)=C r->∀call:gw,IP E call (aM tm) s (.call ⟨.builtin .append,⟨[x,y]⟩,⟨[t,t2]⟩⟩)=C r:=by
  intro r hr call;show u6 E s [t,t2] (aM tm x) (aM tm y)=_;rw[hx.eval h1,hy.eval h1];unfold u6;show ob (C t) (λt=>ob (iE E t) λd=>match d with
   |.slice elem=>ob (C t2) λxt=>ob (iE E xt) λxd=>dq (!isInt xd)<| ob (E.ty.get elem) λi=>ob i.zero λz=>dq (ble (nat_lit 1) i.size&&ble i.bytes (nat_lit 1000000)&&beq (dJ (cT z)) i.size)<| Ft s i.size (H a2 1 c2) λn' new s=>dq (beq (dJ new) (mul n' i.size))<| dq (kr new)<| dq (ble (Nat.add (Y q) n') (nat_lit 1000000))<| bo (S0 a c) (iU elem i.size a (Y q) c n' new s) (iZ elem i.size a (Y q) c n' new s)
   |_=>O)=_
  simp only[bF,hu1,hu2,hi,hi2,hi3,hi4,cR,hi5];show dq J _=_;simp only[dQ hi6,dQ hi7,kY,Aq];rw[dY,dY,N];show dq J (dq (kr [iv i]) (dq (ble (Y q+1) 1000000) _))=_;rwa[dQ hn]
 have P:b<f.next:=(n.lt _ ed _ (by simp[It.bC])).1;have hg:f.heap.get b=C o:=n.it _ ed;have Q:qW Γ f b:=n.may ed (by simp[It.bC]);have A:=n.aL Q;have D:iS s (f.aL b) (λj=>j∈ah a2\/j=b\/j=s.next) (λj=>j=b\/j=s.next):=W.trans (cH P (.inr (.inl rfl)));have cg:Y (q++[i])=Y q+1:=by simp
 have fin:∀(V:St)(v:Value)(o':fa),V.next=s.next->Inv Γ V R->iS s V (λj=>j∈ah a2\/j=b\/j=s.next) (λj=>j=b\/j=s.next)->bo (S0 a c) (iU e 1 a (Y q) c 1 [iv i] f) (iZ e 1 a (Y q) c 1 [iv i] f)=C (v,V.new o')->(∃a' c',v= H a' (Y q+1) c'/\QF e s.next a' c' o' (q++[i]))->eM E X (aM tm) s (.call ⟨.builtin .append,⟨[x,y]⟩,⟨[t,t2]⟩⟩) λv s'=>∃L' R Wr,Inv Γ s' L'/\iS s s' R Wr/\K v L' s.next s'.next R Wr:=λV v o' S hI hF Ta ⟨a',c',hv,hq'⟩=>by
  subst hv;refine eM.pure (BD _ Ta) ⟨.iC s.next o'::R,_,_,?_,hF.trans (uv (.inr (.inr S)) (.inr S)),?_⟩;have:=hI.new (o:=o') (x:=.iC V.next o') (by show T.get (St.heap _) _=_;simp) rfl;rwa[S] at this;have:=h s.next (V.new o').next s.next a' c' o' hq' h2.old (by rw[kK];omega)
  rwa[cg] at this
 cases hq with
 |lit k w=>refine fin (f.aL b) (H (C ⟨s.next,0,O⟩) 2 cl) (.cells [iv k,iv i] e J) (by rwa[bh]) A.iP D ?_ ⟨_,_,rfl,QF.row (e:=e) (b:=s.next) [] k [i]⟩;show iZ e 1 (ko b) 1 1 1 [iv i] f=_;unfold iZ St.row St.look;dsimp only;rw[hg];show aD (bA (f.aL b) 2) ((f.aL b).new (.cells [iv k,iv i] e J))=_;unfold bA;rw[bh,u];rfl
 |row p k q=>have F:=A.kill (o:=O) (b:=b) (by simp[It.bC]);have B:=D.trans (jx (o:=O) (by rwa[bh]) (.inr (.inl rfl)) (.inl rfl));by_cases hp:p=[];subst hp;refine fin ((f.aL b).put b O) (H (C ⟨s.next,0,O⟩) (Y (k::q)+1) cl) (.cells (ab (k::q)++[iv i]) e J) (by rwa[dn,bh]) F B ?_ ⟨_,_,rfl,?_⟩;show bo (ble cl cl&&!(beq 0 0)) (iU e 1 (ko b) (Y (k::q)) cl 1 [iv i] f) (iZ e 1 (ko b) (Y (k::q)) cl 1 [iv i] f)=_;rw[show(ble cl cl&&!(beq 0 0))=U by rw[show beq 0 0=J from rfl];simp,ey];unfold iZ St.row St.look;dsimp only;rw[hg];simp only[bF,kG];(have hx1:beq (dJ (ab (k::q))) (mul (Y (k::q)) 1)=J:=by rw[cR,bn];exact kY _);simp only[hx1,kY,dQ (fG cl),ff,Aq,wo,dY];show aD (bA ((f.aL b).put b O) (Y (k::q)+1)) _=_;unfold bA;rw[dn,bh,u];rfl;have:=QF.row (e:=e) (b:=s.next) [] k (q++[i]);rwa[<-jk,ir] at this;refine fin ((f.aL b).put b O) (H (C ⟨s.next,0,C 0⟩) (Y (k::q)+1) cl) (.jo (ab (k::q)++[iv i]) e) (by rwa[dn,bh]) F B ?_ ⟨_,_,rfl,?_⟩;(have hp0:beq (Y p) 0=U:=by rw[<-tK,lH];intro h;exact hp (jG h));show bo (ble cl (cl+Y p)&&!(beq (Y p) 0)) (iU e 1 (C ⟨b,Y p,O⟩) (Y (k::q)) (cl+Y p) 1 [iv i] f) _=_;rw[dQ (Cl _ _),hp0];show iU e 1 (C ⟨b,Y p,O⟩) (Y (k::q)) (cl+Y p) 1 [iv i] f=_;unfold iU St.row St.look;dsimp only;rw[hg];show dq (J&&beq e e&&ble cl (cl+Y p)&&beq (Y p) (mul (Nat.sub (cl+Y p) cl) 1)&&ble 1 1&&ble 1 (Y (k::q))) (ob (gE (mul (Y (k::q)) 1) (Go.Ev.fJ (Y p) (p++ab (k::q)))) _)=_;rw[Oh p (k::q),bF,kY e,dQ (Cl _ _),dQ (show 1<=Y (k::q) by simp only[fS];omega),show beq (Y p) (mul (Nat.sub (cl+Y p) cl) 1)=J by rw[lH];show Y p=(cl+Y p-cl)*1;omega];show aD (gQ ((f.aL b).put b O) (Y (k::q)+1)) _=_;unfold gQ;rw[dn,bh,u];rfl;have:=QF.mark (e:=e) (b:=s.next) [] k (q++[i]);rwa[<-jk,ir] at this
 |mark p k q=>have F:=A.kill (o:=O) (b:=b) (by simp[It.bC]);have B:=D.trans (jx (o:=O) (by rwa[bh]) (.inr (.inl rfl)) (.inl rfl));refine fin ((f.aL b).put b O) (H (C ⟨s.next,0,C 0⟩) (Y (k::q)+1) cl) (.jo (ab (k::q)++[iv i]) e) (by rwa[dn,bh]) F B ?_ ⟨_,_,rfl,?_⟩;show iU e 1 (C ⟨b,Y p,C 0⟩) (Y (k::q)) (cl+Y p) 1 [iv i] f=_;show f.jo b (λc e' s=>dq (beq e' e&&ble cl (cl+Y p)&&beq (Y p) (mul (Nat.sub (cl+Y p) cl) 1)&&ble 1 1&&ble 1 (Y (k::q)))<| ob (gE (mul (Y (k::q)) 1) (Go.Ev.fJ (Y p) c)) λold=>(λs:St=>aD (gQ s (Nat.add (Y (k::q)) 1)) (s.new (.jo (old++[iv i]) e))) (s.put b O))=_;unfold St.jo St.look;rw[hg];show dq (beq e e&&ble cl (cl+Y p)&&beq (Y p) (mul (Nat.sub (cl+Y p) cl) 1)&&ble 1 1&&ble 1 (Y (k::q))) (ob (gE (mul (Y (k::q)) 1) (Go.Ev.fJ (Y p) (p++ab (k::q)))) _)=_;rw[Oh p (k::q),bF,kY e,dQ (Cl _ _),dQ (show 1<=Y (k::q) by simp only[fS];omega),show beq (Y p) (mul (Nat.sub (cl+Y p) cl) 1)=J by rw[lH];show Y p=(cl+Y p-cl)*1;omega];show aD (gQ ((f.aL b).put b O) (Y (k::q)+1)) _=_;unfold gQ;rw[dn,bh,u];rfl;have:=QF.mark (e:=e) (b:=s.next) [] k (q++[i]);rwa[<-jk,ir] at this
end
variable {n:Nat}{P:B0}
def W.aeE {j:Code}{Q:Ex->Kn->cq->Prop}{b e:Nat}{k:Int}(h:∀w,W E X Γ j l (.iC b (.cells [iv k] e w)::L) Q):W E X Γ j l (.aU (H (ko b) [k].length 1) e 1 (ab [k])::L) Q:=λF s u m=>by
 obtain⟨d,_⟩|⟨b',n',N,w,rest,d,A,G,B⟩:=m.it _ ed;cases d;cases d;obtain⟨_,_,f⟩|⟨f,_⟩:=B;have hr:rest=[]:=by have D:Y (ab [k]++rest)=1:=f;rw[dB] at D;have z:Y (ab [k])=1:=rfl;exact jG aa
 subst hr;exact h w F s u (m.afE (x':=.iC b (.cells [iv k] e w)) (λ_=>A) rfl);exact absurd f cx
def s7 {p:List (aP)}{i c e:Nat}{m:IntKind}[ht:ky E t e 1](h:Ev l x (H a n c))(j:Ev l y (I m (i:Int)))(d:VZ Γ a p)(hi:i<Y p)(hn:n=Y p)(f:∀n,K (fY a i 1 0) L n n Z Z):WO E X Γ l (.indexAddr t x y) L K:=Ir h j d hi f hn
def xx {k:Int}{kt e:TypeId}{kd:TypeDesc}{d:aP}{f:Nat}{es:List az}(hd:jF Γ P)(s:(cO P.M k).getD (O,0,[])=(d,f,es))(h1:iE E t=C (.map kt e))(h2:iE E kt=C kd)(j:∀k:Int,wA E kt kd (iv k)=J)(m:zero E e=C (ew))(u:Ev l x (.map (C P.bm)))(w:Ev l y (iv k))
  (h:∀n,K (H d (Y es) f) L n n (λi=>i=P.bm) Z):WO E X Γ l (.lookup t x y U) L K:=Vs hd h1 h2 j m u w (by rwa[s])
def Bb (p:List (Option dX))(j:Nat):mj p (j:Int)=p.getD j O:=by unfold mj;by_cases h:j<Y p;rw[ai aa,px];rw[af aa,eX,mQ aa];rfl
def s4.Zt {P:B0}(h:s4 P){k:Nat}(hd:Pg.jQ (Pg.fF P.st P.t) k):∃a c es,cO P.M (k:Int)=C (a,c,es)/\Pg.aY (Pg.fF P.st P.t) k=es/\bg es=J:=by obtain⟨e,u,f⟩:=hd;obtain⟨hn,d⟩:=Pg.nF u;have j:k<Y (Pg.bI P.st P.t):=(Pg.mB hn).choose_spec.2;obtain⟨⟨a,c,es⟩,w,m⟩:=h.en.dir k e.n j hn f;refine⟨a,c,es,w,?_,?_⟩;rw[Pg.E1 k hn,ai f];rw[show bc P.st e.n=C es from m];rfl;have z:=(Pg.Q2 ((Pg.gN _ _).1 h.tab).1 h.acd).wf k e u;obtain⟨A,_⟩|⟨_,s,_⟩:=z;omega;rw[d,ai f,show bc P.st e.n=C es from m] at s;exact s
def E9 {es:List az}(h:bg es=J):Y es<=12/\∀e∈es,bG e.name=J/\1<=e.id/\e.id<=15:=by simp only[bg,ep,gv,o5,fI] at h;exact⟨h.2,λe d=>⟨(h.1.1 e d).1,(h.1.1 e d).2.1,(h.1.1 e d).2.2⟩⟩
def s4.Kr {P:B0}{j:Nat}:(Pg.bI P.st P.t).getD j O=O↔Pg.fF P.st P.t j=O:=by
 constructor;exact Pg.y3;intro h;cases hn:(Pg.bI P.st P.t).getD j O with
 |none=>rfl
 |some n=>rw[Pg.og hn] at h;cases h
end Go.Pl
