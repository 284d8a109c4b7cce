/- Lemmas of the proof. No conditions. -/
import Derived.Test.YtnealhiolaklpaaGreatDoorAd6
import Derived.Test.YtnealhiolaklpaaGreatDoorAe1
set_option maxRecDepth 100000
set_option maxHeartbeats 4000000
set_option linter.all false
open Bool renaming false->U,true->J
open Option renaming none->O,some->C
open List renaming length->Y
open Go.Value renaming slice->H,bool->M,int->I
open Go.Proofs.Tryz
open Nat (beq ble mul)
open Go.Result (andThen_ok)
open Go.Sem (run_bind)
open Go.Region (binds)
open List (replicate)
open Int (toNat)
open Go.Builtin (firstCells)
open Go.Instr (checkKey)
namespace Go.Pl
open Go Go.Ev Go.Lg Go.Proofs
variable {st:ae}
def AR {n:Nat}{u:dX}{z:aw}{a b:Nat}(h:cZ n st)(hu:ka u)(d:Y z<=1000)(hb:b<16):cZ (n+510) (gS st u z a b).1/\ka (gS st u z a b).2.1:=by unfold gS;by_cases c:a<=b+1;have:=v8 z (b+1-a) a n st {u with size:=Y z} h ⟨hu.tr,⟨vP _,by show(Y z:Int)<=10000;omega⟩⟩ aa;exact⟨this.1.mono aa,this.2⟩;rw[show b+1-a=0 by omega];exact⟨h.mono aa,⟨hu.tr,⟨vP _,by show(Y z:Int)<=10000;omega⟩⟩⟩
def wa {n:Nat}{u:dX}{z:aw}{a:Nat}(h:cZ n st)(hu:ka u)(ha:a+Y z<=192)(hf:Y (a6 st u)<=192):cZ (n+600) (fR st u a z).1/\ka (fR st u a z).2.1:=by
 have c:Y (kx (a6 st u) a z)<=192:=by unfold kx jt;simp only[dB,de,fq,sk];omega
 unfold fR;split;exact⟨h.mono aa,hu⟩;rename_i d;have e:0<Y z:=wq.2 d;have:=AR (a:=a/ 12) (b:=(a+Y z-1)/ 12) h hu (show(kx (a6 st u) a z).length<=1000 by omega) aa;exact⟨this.1.mono aa,this.2⟩
def AS {n:Nat}{u:dX}{a:Nat}(h:cZ n st)(hu:ka u)(ha:a<=192)(hf:Y (a6 st u)<=192):cZ (n+600) (fN st u a).1/\ka (fN st u a).2.1:=by
 have i:0<=cV a 12/\cV a 12<=16:=by unfold cV;omega
 have e:ka {u with size:=(a:Int)}:=⟨hu.tr,⟨vP _,by show(a:Int)<=10000;omega⟩⟩;unfold fN;simp only;split;split;exact⟨h.mono aa,e⟩;have c:=kW (k:=(cV a 12-1).toNat) (z:=[]) h hu.tr aa aq;rcases g:lh st u.aO (cV a 12-1).toNat [] with⟨fB,t2,ok⟩;rw[g] at c;exact⟨c.1.mono aa,e.aO c.2.1⟩;have c:=yM (many:=cV a 12) h hu.tr i;rcases f:sG st u.aO (cV a 12) with⟨fB,t2,ok⟩;rw[f] at c;cases ok with
 |false=>exact⟨c.1.mono aa,hu⟩
 |true=>simp only;have d:ka {u with aO:=t2,size:=(a:Int)}:=⟨c.2.1,⟨vP _,by show(a:Int)<=10000;omega⟩⟩;split;exact⟨c.1.mono aa,d⟩;have:=AR (a:=(cV a 12-1).toNat) (b:=(cV a 12-1).toNat) c.1 d (show((a6 st u).take a).length<=1000 by rw[de];omega) aa;exact⟨this.1.mono aa,this.2⟩
def Nd (s:St)(b:Nat)(v:SA)(st:ae)(t:bt)(h:cZ 39000 st)(ht:ee t)(X:Pg.FS st t)(o:Op)(hz:Y o.ar<=90000)(hp:bQ o.ar=J)(ha:0<=o.bD/\o.bD<=192)(PW:Y o.b0<=24):
  mK aZ aW 119 [bk b,ov o] s b v ⟨st,t,U⟩ (Fs.change ⟨st,t,U⟩ o).1 (iv (Fs.change ⟨st,t,U⟩ o).2):=by
 have Q:cZ 100000 st:=h.mono aa;have d:Fs.change ⟨st,t,U⟩ o=if Fs.dh ⟨st,t,U⟩ o.ar<0 then(⟨st,t,U⟩,2) else if(Fs.node ⟨st,t,U⟩ (Fs.dh ⟨st,t,U⟩ o.ar)).kind≠1 then(⟨st,t,U⟩,4) else if 192<o.bD+Y o.b0 then(⟨st,t,U⟩,6) else
   match(if o.kind=3 then fR st (Fs.node ⟨st,t,U⟩ (Fs.dh ⟨st,t,U⟩ o.ar)) o.bD.toNat o.b0 else fN st (Fs.node ⟨st,t,U⟩ (Fs.dh ⟨st,t,U⟩ o.ar)) o.bD.toNat) with
   |(fB,n,ok)=>((Fs.put ⟨fB,t,!ok⟩ (Fs.dh ⟨st,t,U⟩ o.ar) n,(0:Int)):Fs×Int):=rfl
 obtain⟨G,l0,q0,R,hG⟩:=X;have hfd:∀s,lC s b v ⟨st,t,U⟩->bM 178 [bk b,sv o.ar] s (sT b v) (iv (Fs.dh ⟨st,t,U⟩ o.ar)):=λs hr=>pr s b v ⟨st,t,U⟩ Q ht o.ar hz hp hr;by_cases r:Fs.dh ⟨st,t,U⟩ o.ar<0
 .rw[ai r] at d;rw[d];generalize Fs.dh ⟨st,t,U⟩ o.ar=w at *
  refine a8 f119 ?_;dsimp only[kE,db];repeat' first|refine' tk|refine' zK|fail
  refine oM (v':=v) bK bH ak rfl
 rw[af r] at d;obtain⟨k,K,e2⟩:=Pg.iX R r;obtain⟨e,V⟩:=Pg.jE hG e2;have hk:k<16:=(R.lt V).2;have mU:Fs.node ⟨st,t,U⟩ (k:Int)=e.n:=by rw[Pg.nw R,V];rfl
 rw[K,mU] at d;rw[K] at hfd;have IW:∀s,lC s b v ⟨st,t,U⟩->bM 179 [bk b,iv k] s (sT b v) (nv e.n):=λs hr=>by rw[<-mU];exact sO s b v ⟨st,t,U⟩ Q ht k aa hr
 by_cases L:e.n.kind≠1
 .rw[ai L] at d;rw[d];clear r K;refine a8 f119 ?_;dsimp only[kE,db];refine' Sl;(all_goals first|(exfalso;omega;done)|(exfalso;exact L aT)|skip);refine oM (v':=v) bK bH ak rfl
 rw[af L] at d;have L:e.n.kind=1:=by simpa using L
 by_cases T:192<o.bD+(Y o.b0:Int)
 .rw[ai T] at d;rw[d];clear r K;refine a8 f119 ?_;dsimp only[kE,db];refine' Sl;(all_goals try refine PN);refine oM (v':=v) bK bH ak rfl
 rw[af T] at d;have x:∃ln S,Pg.oW st e.n ln S:=by obtain⟨ln,S,hq,N⟩:=((R.bD k).some V).2;obtain⟨_,N⟩|N:=N;exact⟨ln,S,N⟩;have:=N.kd;rw[L] at this;cases this
 obtain⟨ln,S,f⟩:=x;have VS:=Pg.nq f.tr f.sz.1 f.mn f.ft;have wm:=f.sz;have y:=f.mn;have j:ka e.n:=ka.of f.ok;obtain⟨a,A⟩:∃a:Nat,o.bD=(a:Int):=⟨o.bD.toNat,aa⟩;rw[A] at d T ha;rw[px] at d;have i:=wa (n:=39000) (u:=e.n) (z:=o.b0) (a:=a) h j aa aa;have g:=AS (n:=39000) (u:=e.n) (a:=a) h j aa aa;rw[d];by_cases Z:o.kind=3
 .rw[ai Z];rcases B:fR st e.n a o.b0 with⟨fB,n2,ok⟩;rw[B] at i;have D:∀(c:SA) s,eS aZ aW 185 [eg c st,nv e.n,iv o.bD,sv o.b0] s [] c st fB J (D0 n2 ok):=λc s=>by have:=M3 s c st (h.mono aa) e.n j a o.b0 aa aa;rw[B] at this;rwa[A]
  (have wQ:∀(c:SA) s,mK aZ aW 174 [bk b,iv k,nv n2] s b c ⟨fB,t,!ok⟩ (Fs.put ⟨fB,t,!ok⟩ k n2) (.tuple ⟨[]⟩):=λc s=>sa s b c ⟨fB,t,!ok⟩ (i.1.mono aa) ht k hk _);refine' zaV;clear r K i g B f y;refine a8 f119 ?_;dsimp only[kE,db];(repeat' first|refine' tk|refine' yC|(apply fz;exact aj;exact λs=>D _ s;exact cK;intro _ _ m _ _ l)|refine' HC|refine' cY|fail);all_goals refine oM (v':=pe) bK bH ak rfl
 rw[af Z];rcases B:fN st e.n a with⟨fB,n2,ok⟩;rw[B] at g;have D:∀(c:SA) s,eS aZ aW 186 [eg c st,nv e.n,iv o.bD] s [] c st fB J (D0 n2 ok):=λc s=>by have:=UL s c st (h.mono aa) e.n j a aa aa aa y;rw[B] at this;rwa[A]
 (have wQ:∀(c:SA) s,mK aZ aW 174 [bk b,iv k,nv n2] s b c ⟨fB,t,!ok⟩ (Fs.put ⟨fB,t,!ok⟩ k n2) (.tuple ⟨[]⟩):=λc s=>sa s b c ⟨fB,t,!ok⟩ (g.1.mono aa) ht k hk _);refine' zaV;clear r K i g B f y;refine a8 f119 ?_;dsimp only[kE,db];(repeat' first|refine' tk|refine' yC|(apply fz;exact aj;exact λs=>D _ s;exact cK;intro _ _ F _ _ E)|refine' HC|refine' cY|fail);all_goals refine oM (v':=pe) bK bH ak rfl
end Go.Pl
namespace Go.Pl
variable {st:ae}{t:bt}{o:Op}{dF:aw}
def Nf {n:Nat}(h:cZ n st)(ht:ee t)(b:Pg.FS st t){z:aw}(i:bQ z=J)(kind:Int):sb (n+1730) (Fs.make ⟨st,t,U⟩ z kind).1:=by
 have h0:sb (n+1730) ⟨st,t,U⟩:=⟨h.mono aa,ht⟩;have d:Fs.make ⟨st,t,U⟩ z kind=if 0<(Fs.dk ⟨st,t,U⟩ z).2 then(⟨st,t,U⟩,(Fs.dk ⟨st,t,U⟩ z).2) else
   match um st t with
   |none=>(⟨st,t,U⟩,6)
   |some id=>if 12<=Y (Fs.aY ⟨st,t,U⟩ (Fs.dk ⟨st,t,U⟩ z).1) then(⟨st,t,U⟩,6) else((Fs.bz (Fs.put ⟨st,t,U⟩ id ⟨kind,1,0,fC⟩) (Fs.dk ⟨st,t,U⟩ z).1 (gO (Fs.aY ⟨st,t,U⟩ (Fs.dk ⟨st,t,U⟩ z).1) ⟨Fs.base z,id⟩)),0):=rfl
 obtain⟨G,l0,r,a,q⟩:=b;rw[d];by_cases hc:0<(Fs.dk ⟨st,t,U⟩ z).2;rw[ai hc];exact h0;rw[af hc];obtain⟨bD,e,f,j,k,g,l,m,p⟩:=Pg.rT a i hc;have rK:bD<16:=(a.lt g).2;rw[f];cases hid:um st t with
 |none=>exact h0
 |some id=>obtain⟨c,_⟩:=Pg.Dd a hid;simp only;split;exact h0;exact(sb.bz (sb.put (n:=n) ⟨h,ht⟩ aa _) aa _).mono aa
def Qn {n:Nat}(h:cZ n st)(ht:ee t)(w:Pg.FS st t)(ha:0<=o.bD/\o.bD<=192):sb (n+1730) (Fs.change ⟨st,t,U⟩ o).1:=by
 have h0:sb (n+1730) ⟨st,t,U⟩:=⟨h.mono aa,ht⟩;have s:Fs.change ⟨st,t,U⟩ o=if Fs.dh ⟨st,t,U⟩ o.ar<0 then(⟨st,t,U⟩,2) else if(Fs.node ⟨st,t,U⟩ (Fs.dh ⟨st,t,U⟩ o.ar)).kind≠1 then(⟨st,t,U⟩,4) else if 192<o.bD+Y o.b0 then(⟨st,t,U⟩,6) else
   match(if o.kind=3 then fR st (Fs.node ⟨st,t,U⟩ (Fs.dh ⟨st,t,U⟩ o.ar)) o.bD.toNat o.b0 else fN st (Fs.node ⟨st,t,U⟩ (Fs.dh ⟨st,t,U⟩ o.ar)) o.bD.toNat) with
   |(fB,n,ok)=>((Fs.put ⟨fB,t,!ok⟩ (Fs.dh ⟨st,t,U⟩ o.ar) n,(0:Int)):Fs×Int):=rfl
 obtain⟨G,l0,Q,p,D⟩:=w;rw[s];by_cases r:Fs.dh ⟨st,t,U⟩ o.ar<0;rw[ai r];exact h0;rw[af r];obtain⟨k,A,B⟩:=Pg.iX p r;obtain⟨e,v⟩:=Pg.jE D B;have K:k<16:=(p.lt v).2;have mU:Fs.node ⟨st,t,U⟩ (k:Int)=e.n:=by rw[Pg.nw p,v];rfl
 rw[A,mU];by_cases d:e.n.kind≠1;rw[ai d];exact h0;rw[af d];have d:e.n.kind=1:=by simpa using d
 by_cases x:192<o.bD+(Y o.b0:Int);rw[ai x];exact h0;rw[af x];have c:∃ln q,Pg.oW st e.n ln q:=by obtain⟨ln,q,L,g⟩:=((p.bD k).some v).2;obtain⟨_,g⟩|g:=g;exact⟨ln,q,g⟩;have:=g.kd;rw[d] at this;cases this
 obtain⟨ln,q,b⟩:=c;have E:=Pg.nq b.tr b.sz.1 b.mn b.ft;have F:=b.sz;have l:ka e.n:=ka.of b.ok;have j:=wa (n:=n) (u:=e.n) (z:=o.b0) (a:=o.bD.toNat) h l aa aa;have i:=AS (n:=n) (u:=e.n) (a:=o.bD.toNat) h l aa aa;split;rename_i fB N ok heq;have m:cZ (n+600) fB:=by by_cases y:o.kind=3;rw[ai y] at heq;rw[heq] at j;exact j.1;rw[af y] at heq;rw[heq] at i;exact i.1
 exact(sb.put (f:=⟨fB,t,!ok⟩) ⟨m,ht⟩ aa _).mono aa
def YM {n:Nat}(h:cZ n st)(hn:n<=80000)(ht:ee t)(w:Pg.FS st t){z:aw}(hp:bQ z=J):sb (n+1730) (Fs.pH ⟨st,t,U⟩ z).1:=by
 have h0:sb (n+1730) ⟨st,t,U⟩:=⟨h.mono aa,ht⟩;have r:Fs.pH ⟨st,t,U⟩ z=if Fs.dh ⟨st,t,U⟩ z<0 then(⟨st,t,U⟩,2) else if Fs.dh ⟨st,t,U⟩ z=0\/((Fs.node ⟨st,t,U⟩ (Fs.dh ⟨st,t,U⟩ z)).kind=2/\0<(Fs.node ⟨st,t,U⟩ (Fs.dh ⟨st,t,U⟩ z)).size) then(⟨st,t,U⟩,5) else
   (let f1:=Fs.bz ⟨st,t,U⟩ (Fs.bT ⟨st,t,U⟩ z).1 (eB (Fs.aY ⟨st,t,U⟩ (Fs.bT ⟨st,t,U⟩ z).1) ((eH (Fs.aY ⟨st,t,U⟩ (Fs.bT ⟨st,t,U⟩ z).1) (Fs.base z)).getD 0))
    let F:dX:={Fs.node ⟨st,t,U⟩ (Fs.dh ⟨st,t,U⟩ z) with aX:=(Fs.node ⟨st,t,U⟩ (Fs.dh ⟨st,t,U⟩ z)).aX-1}
    if 0<F.aX then(f1.put (Fs.dh ⟨st,t,U⟩ z) F,0) else if f1.dz then(f1,0) else match fJ f1.st f1.t (Fs.dh ⟨st,t,U⟩ z) with
     |(fB,t2,ok)=>((⟨fB,t2,!ok⟩,0):Fs×Int)):=rfl
 obtain⟨G,l0,q0,c,q⟩:=w;rw[r];by_cases m:Fs.dh ⟨st,t,U⟩ z<0;rw[ai m];exact h0;rw[af m];obtain⟨k,N,D⟩:=Pg.iX c m;obtain⟨f,a⟩:=Pg.jE q D;have Q:k<16:=(c.lt a).2;have mU:Fs.node ⟨st,t,U⟩ (k:Int)=f.n:=by rw[Pg.nw c,a];rfl
 rw[N,mU];by_cases l:(k:Int)=0\/(f.n.kind=2/\0<f.n.size);rw[ai l];exact h0;rw[af l];have x:k≠0:=λhc=>l (.inl aa);obtain⟨bD,e,i,T,p2,j,K,V,L,p7,p8⟩:=Pg.rU c q D x;have d:Fs.aY ⟨st,t,U⟩ (bD:Int)=e.es:=Pg.mg c U j K;have v:bg e.es=J:=by have:=Pg.ou q.wf bD;rwa [Pg.dH j] at this
 have g:=Pg.JB v (Pg.jD e.es i);have E:bD<16:=(c.lt j).2;have s:Pg.aY G k=[]:=by rw[Pg.dH a];obtain⟨ln,qn,hq,⟨h0,_⟩|hd⟩:=((c.bD k).some a).2;exact h0;have S:=hd.sz;have y:=hd.kd;by_cases hc:f.es=[];exact hc;have h3:=(Pg.lZ hd.eo).2 hc;exact absurd (.inr ⟨y,aa⟩) l
 have rK:bD≠k:=λhc=>by
  have:Pg.aY G bD=[]:=by rwa[hc]
  rw[Pg.dH j] at this;rw[this] at L;simp at L
 rw[T];simp only;rw[d,V,lI];have b:sb (n+630) (Fs.bz ⟨st,t,U⟩ bD (eB e.es i)):=sb.bz (n:=n) ⟨h,ht⟩ aa _;split;exact(sb.put b aa _).mono aa;split;exact b.mono aa;rename_i hf;have hf:(Fs.bz ⟨st,t,U⟩ bD (eB e.es i)).dz=U:=by simpa using hf
 obtain⟨W,l1,q1,p,X,g2,Z⟩:=Pg.oL c j K g hf;obtain⟨o,R,A,B⟩:=p.all (k:=k) (e:=f) (by rwa[Pg.gC _ _ (λh=>rK h.symm)]);have:=US b.st aa b.t Q R A B;rcases u:fJ (Fs.bz ⟨st,t,U⟩ bD (eB e.es i)).st (Fs.bz ⟨st,t,U⟩ bD (eB e.es i)).t k with⟨fB,t2,ok⟩;rw[u] at this;exact⟨this.1.mono aa,this.2⟩
def YN {n:Nat}(h:cZ n st)(ht:ee t)(d:Pg.FS st t){z dF:aw}(g:bQ dF=J):sb (n+1730) (Fs.link ⟨st,t,U⟩ z dF).1:=by
 have h0:sb (n+1730) ⟨st,t,U⟩:=⟨h.mono aa,ht⟩;have f:Fs.link ⟨st,t,U⟩ z dF=if Fs.dh ⟨st,t,U⟩ z<0 then(⟨st,t,U⟩,2) else if(Fs.node ⟨st,t,U⟩ (Fs.dh ⟨st,t,U⟩ z)).kind≠1 then(⟨st,t,U⟩,4) else if 0<(Fs.dk ⟨st,t,U⟩ dF).2 then(⟨st,t,U⟩,(Fs.dk ⟨st,t,U⟩ dF).2) else
   if 9<=(Fs.node ⟨st,t,U⟩ (Fs.dh ⟨st,t,U⟩ z)).aX\/12<=Y (Fs.aY ⟨st,t,U⟩ (Fs.dk ⟨st,t,U⟩ dF).1) then(⟨st,t,U⟩,6) else
   ((Fs.bz (Fs.put ⟨st,t,U⟩ (Fs.dh ⟨st,t,U⟩ z) {Fs.node ⟨st,t,U⟩ (Fs.dh ⟨st,t,U⟩ z) with aX:=(Fs.node ⟨st,t,U⟩ (Fs.dh ⟨st,t,U⟩ z)).aX+1}) (Fs.dk ⟨st,t,U⟩ dF).1 (gO (Fs.aY ⟨st,t,U⟩ (Fs.dk ⟨st,t,U⟩ dF).1) ⟨Fs.base dF,Fs.dh ⟨st,t,U⟩ z⟩)),0):=rfl
 obtain⟨G,l0,q,a,l⟩:=d;rw[f];by_cases b:Fs.dh ⟨st,t,U⟩ z<0;rw[ai b];exact h0;rw[af b];obtain⟨k,i,j⟩:=Pg.iX a b;obtain⟨m,c⟩:=Pg.jE l j;have p:k<16:=(a.lt c).2;rw[i];split;exact h0;by_cases hc:0<(Fs.dk ⟨st,t,U⟩ dF).2;rw[ai hc];exact h0;rw[af hc];obtain⟨bD,e,f1,f2,f3,f4,f5,f6,f7⟩:=Pg.rT a g hc;have rK:bD<16:=(a.lt f4).2;rw[f1];split;exact h0;exact(sb.bz (sb.put (n:=n) ⟨h,ht⟩ aa _) aa _).mono aa
def YO {n:Nat}(h:cZ n st)(ht:ee t)(m:Pg.FS st t){z dF:aw}(Q:bQ z=J)(A:bQ dF=J):sb (n+1730) (Fs.move ⟨st,t,U⟩ z dF).1:=by
 have h0:sb (n+1730) ⟨st,t,U⟩:=⟨h.mono aa,ht⟩;have q:Fs.move ⟨st,t,U⟩ z dF=if Fs.dh ⟨st,t,U⟩ z<0 then(⟨st,t,U⟩,2) else if Fs.dh ⟨st,t,U⟩ z=0 then(⟨st,t,U⟩,5) else if 0<=Fs.dh ⟨st,t,U⟩ dF then(⟨st,t,U⟩,3) else if under dF z=J then(⟨st,t,U⟩,5) else
   if 0<(Fs.bT ⟨st,t,U⟩ dF).2 then(⟨st,t,U⟩,(Fs.bT ⟨st,t,U⟩ dF).2) else
   if(Fs.bT ⟨st,t,U⟩ dF).1≠(Fs.bT ⟨st,t,U⟩ z).1/\12<=Y (Fs.aY ⟨st,t,U⟩ (Fs.bT ⟨st,t,U⟩ dF).1) then(⟨st,t,U⟩,6) else
   if(Fs.bT ⟨st,t,U⟩ dF).1=(Fs.bT ⟨st,t,U⟩ z).1 then(Fs.bz ⟨st,t,U⟩ (Fs.bT ⟨st,t,U⟩ dF).1 (gO (eB (Fs.aY ⟨st,t,U⟩ (Fs.bT ⟨st,t,U⟩ z).1) ((eH (Fs.aY ⟨st,t,U⟩ (Fs.bT ⟨st,t,U⟩ z).1) (Fs.base z)).getD 0)) ⟨Fs.base dF,Fs.dh ⟨st,t,U⟩ z⟩),0) else
   (Fs.bz (Fs.bz ⟨st,t,U⟩ (Fs.bT ⟨st,t,U⟩ z).1 (eB (Fs.aY ⟨st,t,U⟩ (Fs.bT ⟨st,t,U⟩ z).1) ((eH (Fs.aY ⟨st,t,U⟩ (Fs.bT ⟨st,t,U⟩ z).1) (Fs.base z)).getD 0))) (Fs.bT ⟨st,t,U⟩ dF).1 (gO (Fs.aY (Fs.bz ⟨st,t,U⟩ (Fs.bT ⟨st,t,U⟩ z).1 (eB (Fs.aY ⟨st,t,U⟩ (Fs.bT ⟨st,t,U⟩ z).1) ((eH (Fs.aY ⟨st,t,U⟩ (Fs.bT ⟨st,t,U⟩ z).1) (Fs.base z)).getD 0))) (Fs.bT ⟨st,t,U⟩ dF).1) ⟨Fs.base dF,Fs.dh ⟨st,t,U⟩ z⟩),0):=rfl
 obtain⟨G,l0,Z,a,y⟩:=m;rw[q];by_cases g:Fs.dh ⟨st,t,U⟩ z<0;rw[ai g];exact h0;rw[af g];obtain⟨k,r,x⟩:=Pg.iX a g;by_cases p:k=0;rw[r,ai aa];exact h0;rw[r,af aa];split;exact h0;split;exact h0;by_cases j:0<(Fs.bT ⟨st,t,U⟩ dF).2;rw[ai j];exact h0;rw[af j];obtain⟨bD,e,v,E,F,w,K⟩:=Pg.yu a j;obtain⟨fr,L,i,B,R,D,S,T,V,W,X⟩:=Pg.rU a y x p;have b:bD<16:=(a.lt w).2;have c:fr<16:=(a.lt D).2;rw[v,B];simp only;by_cases s:(bD:Int)≠fr/\12<=Y (Fs.aY ⟨st,t,U⟩ (bD:Int));rw[ai s];exact h0;rw[af s];have d:∀(k:Nat) l,k<16->sb (n+630) (Fs.bz ⟨st,t,U⟩ (k:Int) l):=λk l N=>sb.bz (n:=n) (f:=⟨st,t,U⟩) ⟨h,ht⟩ aa l;by_cases u:(bD:Int)=fr;rw[ai u];dsimp only;exact(d bD _ b).mono aa;rw[af u];dsimp only;exact(sb.bz (d fr _ c) (k:=(bD:Int)) aa _).mono aa
def Eh {n:Nat}(h:cZ n st)(hn:n<=80000)(ht:ee t)(a:Pg.FS st t)(f:wM o=J):cZ (n+1730) (iR st t o).1/\ee (iR st t o).2.1:=by
 obtain⟨b,e,g,i⟩:=Pg.zB f;unfold iR;simp only;have key:∀r:Fs×Int,sb (n+1730) r.1->cZ (n+1730) (if(if r.2=0/\r.1.dz=J then 7 else r.2)≠0 then(st,t,(if r.2=0/\r.1.dz=J then 7 else r.2)) else(r.1.st,r.1.t,(if r.2=0/\r.1.dz=J then 7 else r.2))).1/\ee (if(if r.2=0/\r.1.dz=J then 7 else r.2)≠0 then(st,t,(if r.2=0/\r.1.dz=J then 7 else r.2)) else(r.1.st,r.1.t,(if r.2=0/\r.1.dz=J then 7 else r.2))).2.1:=λr hr=>by generalize(if r.2=0/\r.1.dz=J then(7:Int) else r.2)=c;split;exact⟨h.mono aa,ht⟩;exact⟨hr.st,hr.t⟩
 refine key _ ?_;split;exact Nf h ht a b 1;split;exact Nf h ht a b 2;split;exact YM h hn ht a b;split;rename_i d;exact YN h ht a (e (.inl d));split;rename_i d;exact YO h ht a b (e (.inr d));exact Qn h ht a ⟨g,i⟩
end Go.Pl
namespace Go.Pl
open Go Go.Ev Go.Lg Go.Proofs
def aby (s:St)(o:Op)(h1:Y o.ar<=90000)(h2:Y o.dF<=90000)(a:Y o.b0<=90000):bM 66 [ov o] s [] (M (wM o)):=by
 refine' zap;generalize wM o=r at *
 refine a8 f66 ?_;repeat' first|refine' KF|refine' ad2|refine' eI|fail
 all_goals first|(exfalso;simp_all;done)|skip
 all_goals refine' aC
 all_goals(rw[e];simp_all [fj,fI];try omega)
def Ei {z:aw}(a:bQ z=J)(hn:aH z≠[]):Y (Fs.base z)<=1000:=by have:=Pg.JF a hn;unfold bG at this;simp only[ep,gv] at this;omega
def H8 (s:St)(b:Nat)(v:SA)(st:ae)(t:bt)(h:cZ 50000 st)(ht:ee t)(m:Pg.FS st t)(z:aw)(D:Y z<=90000)(o:bQ z=J)(kind:Int)(Q:kind=1\/kind=2):
  mK aZ aW 115 [bk b,sv z,iv kind] s b v ⟨st,t,U⟩ (Fs.make ⟨st,t,U⟩ z kind).1 (iv (Fs.make ⟨st,t,U⟩ z kind).2):=by
 have GS:cZ 100000 st:=h.mono aa;have d:Fs.make ⟨st,t,U⟩ z kind=if 0<(Fs.dk ⟨st,t,U⟩ z).2 then(⟨st,t,U⟩,(Fs.dk ⟨st,t,U⟩ z).2) else
   match um st t with
   |none=>(⟨st,t,U⟩,6)
   |some id=>if 12<=Y (Fs.aY ⟨st,t,U⟩ (Fs.dk ⟨st,t,U⟩ z).1) then(⟨st,t,U⟩,6) else((Fs.bz (Fs.put ⟨st,t,U⟩ id ⟨kind,1,0,fC⟩) (Fs.dk ⟨st,t,U⟩ z).1 (gO (Fs.aY ⟨st,t,U⟩ (Fs.dk ⟨st,t,U⟩ z).1) ⟨Fs.base z,id⟩)),0):=rfl
 have Z3:∀s,lC s b v ⟨st,t,U⟩->bM 171 [bk b,sv z] s (sT b v) (.tuple ⟨[iv (Fs.dk ⟨st,t,U⟩ z).1,iv (Fs.dk ⟨st,t,U⟩ z).2]⟩):=λs hr=>Ed s b v _ GS ht z D o hr;have Mx:∀s,cr s v st->bM 172 [eg v st,tv t] s (iB v) (iv (o2i (um st t))):=λs hr=>Qb s v st GS t ht hr;obtain⟨G,l0,S,k,N⟩:=m;by_cases hc:0<(Fs.dk ⟨st,t,U⟩ z).2
 .rw[ai hc] at d;rw[d];generalize Fs.dk ⟨st,t,U⟩ z=fr at *
  refine a8 f115 ?_;dsimp only[kE,db];repeat' first|refine' DK|refine' zK|fail
  refine oM (v':=v) bK bH ak rfl
 obtain⟨bD,e,r,y,E,u,A,F,K⟩:=Pg.rT k o hc;have qA:Fs.aY ⟨st,t,U⟩ (bD:Int)=e.es:=Pg.mg k U u A;have rK:bD<16:=(k.lt u).2;have f:=uT ⟨st,t,U⟩ (bD:Int);have l:=Ei o y;rw[af hc,r,qA] at d;rw[r] at Z3;rw[qA] at f;have w:=f.1;have hen:∀s,lC s b v ⟨st,t,U⟩->eD aZ aW 173 [bk b,iv bD] s (sT b v) 100 e.es:=λs hr=>by refine' zaX
 have B:(Fs.dk ⟨st,t,U⟩ z).2<=0:=by omega
 generalize(Fs.dk ⟨st,t,U⟩ z).2=fc at *
 cases hid:um st t with
 |none=>rw[hid] at d Mx;simp only at d;rw[d];refine a8 f115 ?_;dsimp only[kE,db];(repeat' first|refine' DK|refine' X9|refine' AI|refine' cY|fail);all_goals refine oM (v':=v) bK bH ak rfl
 |some id=>
  obtain⟨g,_⟩:=Pg.Dd k hid;rw[hid] at d Mx;simp only at d;have Mx:∀s,cr s v st->bM 172 [eg v st,tv t] s (iB v) (iv id):=Mx;by_cases i:12<=Y e.es
  .rw[ai i] at d;rw[d];refine a8 f115 ?_;dsimp only[kE,db];(repeat' first|refine' DK|refine' X9|refine' AI|refine' cY|fail);all_goals refine oM (v':=v) bK bH ak rfl
  rw[af i] at d;have Td:∀a c s,bJ s a (Y e.es) 2 (ab e.es)->eD aZ aW 176 [H a (Y e.es) c,.agg ⟨[sv (Fs.base z),iv id]⟩] s (ah a) 100 (gO e.es ⟨Fs.base z,id⟩):=λa c s hr=>vt s a c e.es ⟨Fs.base z,id⟩ aa hr;have hab:=yO (x:=⟨Fs.base z,id⟩) f ⟨l,by show(0:Int)<=(id:Int);omega,by show(id:Int)<=1000;omega⟩;have wQ:∀(VX:SA) s,mK aZ aW 174 [bk b,iv id,.agg ⟨[iv kind,I .i64 1,dP,dP,dP,dP,dP,dP,dP,dP]⟩] s b VX ⟨st,t,U⟩ (Fs.put ⟨st,t,U⟩ id ⟨kind,1,0,fC⟩) (.tuple ⟨[]⟩):=λVX s=>sa s b VX ⟨st,t,U⟩ (h.mono aa) ht id g ⟨kind,1,0,fC⟩;have Lh:sb 50030 (Fs.put ⟨st,t,U⟩ id ⟨kind,1,0,fC⟩):=sb.put (n:=50000) ⟨h,ht⟩ aa _;generalize Fs.put ⟨st,t,U⟩ id ⟨kind,1,0,fC⟩=f1 at *
  generalize gO e.es ⟨Fs.base z,id⟩=es2 at *
  refine' zam;rw[d];refine a8 f115 ?_;dsimp only[kE,db];(repeat' first|refine' DK|refine' X9|refine' AI|refine' DJ|refine' Si|refine' HC|refine' Mu|refine' cY|fail);all_goals refine' zaI
end Go.Pl
