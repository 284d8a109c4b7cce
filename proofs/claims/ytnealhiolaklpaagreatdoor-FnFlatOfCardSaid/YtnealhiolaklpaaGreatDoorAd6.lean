/- Lemmas of the proof. No conditions. -/
import Derived.Test.YtnealhiolaklpaaGreatDoorAd5
set_option maxRecDepth 100000
set_option maxHeartbeats 4000000
set_option linter.all false
open Bool renaming false->U,true->J
open Option renaming none->O,some->C
open List renaming length->Y
open Go.Value renaming slice->H,bool->M,int->I
open Go.Proofs.Tryz
open Nat (beq ble mul)
open Go.Result (andThen_ok)
open Go.Sem (run_bind)
open Go.Region (binds)
open List (replicate)
open Int (toNat)
open Go.Builtin (firstCells)
open Go.Instr (checkKey)
namespace Go.Pl
open Go Go.Ev Go.Lg Go.Proofs
variable {l:Kn}{L R:cq}{g:FuncId}{v:SA}{f:Fs}{r:Value}{s:St}{b:Nat}{st:ae}{a:aP}{p q:List cB}{ok:Bool}{i:Nat}
def Nb (s:St)(v:SA)(same:Bool)(hr:cr s v (b7 same)):bM 37 [.agg ⟨[H v.f 64 v.fc,H v.l 64 v.lc]⟩] s (iB v) (M J):=by
 have d:=Rd.off hr;have e:=Rd.y8 hr;have m:(b7 same).aI=replicate 64 0:=rfl;have n:(b7 same).bW=replicate 64 0:=rfl;rw[m] at d;rw[n] at e;have hl:Y (replicate 64 (0:Int))=64:=by simp
 refine a8 f37 ?_;refine' iK;refine W.bu (λk l L=>∃(i c:Nat),Le [(1,bk c),(3,iv (i:Int))] l/\cb [.box c [H v.f 64 v.fc,H v.l 64 v.lc] 26 U] L/\k=64-i/\i<=64) (λl L=>True) _ ⟨0,_,bd,ak,rfl,aa⟩ ?_ ?_
 .rintro k l L ⟨i,c,o,u,rfl,t⟩;refine' cP;have j:=agw i;generalize replicate 64 (0:Int)=q at *
  have w:(!fI (q.getD i au.ad) 0 900)=U:=by rw[j];rfl
  have x:(!fI (q.getD i au.ad) 0 (q.getD i au.ad))=U:=by rw[j];rfl
  repeat' first|refine' KF|refine' zc3|refine' cY|fail
  all_goals first|trivial|exact⟨_,aa,i+1,_,bd,ak,rfl,aa⟩
 rintro l L _;refine aJ ?_;refine W.le ?_ (Le.nil _) (cb.nil _);refine' eR;refine' aC;rfl
def Nc (s:St)(v:SA)(same:Bool)(hr:cr s v (b7 same)):bM 16 [eg v (b7 same)] s (iB v) (M J):=by
 have n:=Rd.Bt hr;have j:=Rd.off hr;have m:=Rd.y8 hr;have u:(b7 same).dV=replicate 64 []:=rfl;have w:(b7 same).aI=replicate 64 0:=rfl;have x:(b7 same).bW=replicate 64 0:=rfl;have y:(b7 same).dm=1:=rfl;have z:(b7 same).iz=0:=rfl;have A:(b7 same).aS=[]:=rfl;have B:(b7 same).bL=[]:=rfl;rw[u] at n;rw[w] at j;rw[x] at m;unfold eg lL;rw[y,z,A,B];have hl:Y (replicate 64 (0:Int))=64:=by simp
 have D:Y (replicate 64 ([]:aw))=64:=by simp
 have S:(!fI 1 1 900)=U:=rfl;have V:(!fI 0 0 (1-1))=U:=rfl;have Sc:∀s,cr s v (b7 same)->bM 37 [.agg ⟨[H v.f 64 v.fc,H v.l 64 v.lc]⟩] s (iB v) (M J):=λs hr=>Nb s v same hr;refine' zaU;refine W.bu (λk l L=>∃(i c:Nat),Le [(1,bk c),(3,iv (i:Int))] l/\cb [.box c [H v.r 64 v.rc,H v.f 64 v.fc,H v.l 64 v.lc,iv 1,H v.g (Y ([]:cc)) v.gc,iv 0,H v.d (Y ([]:cc)) v.dc,M same] 29 U] L/\k=64-i/\i<=64)
  (λl L=>∃(c:Nat),Le [(1,bk c)] l/\cb [.box c [H v.r 64 v.rc,H v.f 64 v.fc,H v.l 64 v.lc,iv 1,H v.g (Y ([]:cc)) v.gc,iv 0,H v.d (Y ([]:cc)) v.dc,M same] 29 U] L) _ ⟨0,_,bd,ak,rfl,aa⟩ ?_ ?_
 rintro k l L ⟨i,c,e,o,rfl,Q⟩;refine' cP;have N:=agw i;have t:=agx i;have Z:Y ((replicate 64 ([]:aw)).getD i au.ad)=0:=by rw[t];rfl
 generalize replicate 64 (0:Int)=q at *
 generalize replicate 64 ([]:aw)=G at *
 have T:(decide (G.getD i au.ad=[]) != decide (q.getD i au.ad=0))=U:=by rw[N,t];rfl
 refine' iK;exact⟨_,aa,i+1,_,bd,ak,rfl,aa⟩;exact⟨_,bd,ak⟩;rintro l L ⟨c,e,o⟩;refine' gh;refine' eR;refine W.bu (λk l L=>∃(c:Nat),Le [(1,bk c),(5,dP)] l/\cb [.box c [H v.r 64 v.rc,H v.f 64 v.fc,H v.l 64 v.lc,iv 1,H v.g (Y ([]:cc)) v.gc,iv 0,H v.d (Y ([]:cc)) v.dc,M same] 29 U] L/\k=0)
  (λl L=>True) _ ⟨_,bd,ak,rfl⟩ ?_ ?_
 .rintro k l L ⟨c,e,o,rfl⟩;refine' cP;have F:(Y ([]:cc):Int)=0:=rfl;refine' iK;all_goals trivial
 rintro l L _;refine aJ ?_;refine W.le ?_ (Le.nil _) (cb.nil _);refine' eR;refine' aC;rfl
def US {n:Nat}{st:ae}{t:bt}{q:Nat}(h:cZ n st)(hn:n<=90000)(ht:ee t)(x:q<16){o:cc}(m:pG 200 st [((ju st t q).getD aK).aO.bU] []=C o)(u:Y o<=1000)(e:∀p∈o,aQ p=J):cZ (n+1100) (fJ st t q).1/\ee (fJ st t q).2.1:=by
 have d:wL st ((ju st t q).getD aK).aO=o:=by unfold wL;rw[m];rfl
 have y:=MX h aa ht q;have j:=cZ.dA (st:=st) o h e;have c:=kW (k:=q) (z:=[]) j ht x aq;unfold fJ;simp only[d,px];rcases w:lh (dA o st) t q [] with⟨fB,t2,ok⟩;rw[w] at c;cases ok with
 |false=>exact⟨c.1.mono aa,c.2.1⟩
 |true=>have:=yM (many:=(qz st t q:Nat)) c.1 c.2.1 aa;exact⟨this.1.mono aa,this.2.1⟩
def UT (s:St)(b:Nat)(v:SA)(st:ae)(t:bt)(h:cZ 40000 st)(ht:ee t)(Te:Pg.FS st t)(z:aw)(hz:Y z<=90000)(hp:bQ z=J):
  mK aZ aW 116 [bk b,sv z] s b v ⟨st,t,U⟩ (Fs.pH ⟨st,t,U⟩ z).1 (iv (Fs.pH ⟨st,t,U⟩ z).2):=by
 have GS:cZ 100000 st:=h.mono aa;have d:Fs.pH ⟨st,t,U⟩ z=if Fs.dh ⟨st,t,U⟩ z<0 then(⟨st,t,U⟩,2) else if Fs.dh ⟨st,t,U⟩ z=0\/((Fs.node ⟨st,t,U⟩ (Fs.dh ⟨st,t,U⟩ z)).kind=2/\0<(Fs.node ⟨st,t,U⟩ (Fs.dh ⟨st,t,U⟩ z)).size) then(⟨st,t,U⟩,5) else
   (let f1:=Fs.bz ⟨st,t,U⟩ (Fs.bT ⟨st,t,U⟩ z).1 (eB (Fs.aY ⟨st,t,U⟩ (Fs.bT ⟨st,t,U⟩ z).1) ((eH (Fs.aY ⟨st,t,U⟩ (Fs.bT ⟨st,t,U⟩ z).1) (Fs.base z)).getD 0))
    let n1:dX:={Fs.node ⟨st,t,U⟩ (Fs.dh ⟨st,t,U⟩ z) with aX:=(Fs.node ⟨st,t,U⟩ (Fs.dh ⟨st,t,U⟩ z)).aX-1}
    if 0<n1.aX then(f1.put (Fs.dh ⟨st,t,U⟩ z) n1,0) else if f1.dz then(f1,0) else match fJ f1.st f1.t (Fs.dh ⟨st,t,U⟩ z) with
     |(fB,t2,ok)=>((⟨fB,t2,!ok⟩,0):Fs×Int)):=rfl
 obtain⟨G,l0,q0,D,hG⟩:=Te;have hfd:∀s,lC s b v ⟨st,t,U⟩->bM 178 [bk b,sv z] s (sT b v) (iv (Fs.dh ⟨st,t,U⟩ z)):=λs hr=>pr s b v ⟨st,t,U⟩ GS ht z hz hp hr;by_cases T:Fs.dh ⟨st,t,U⟩ z<0
 .rw[ai T] at d;rw[d];generalize Fs.dh ⟨st,t,U⟩ z=w at *
  refine a8 f116 ?_;dsimp only[kE,db];repeat' first|refine' tk|refine' zK|fail
  refine oM (v':=v) bK bH ak rfl
 rw[af T] at d;obtain⟨k,e1,e2⟩:=Pg.iX D T;obtain⟨A,B⟩:=Pg.jE hG e2;have hk:k<16:=(D.lt B).2;have mU:Fs.node ⟨st,t,U⟩ (k:Int)=A.n:=by rw[Pg.nw D,B];rfl
 rw[e1,mU] at d;rw[e1] at hfd;have IW:∀s,lC s b v ⟨st,t,U⟩->bM 179 [bk b,iv k] s (sT b v) (nv A.n):=λs hr=>by rw[<-mU];exact sO s b v ⟨st,t,U⟩ GS ht k aa hr
 by_cases h2:(k:Int)=0\/(A.n.kind=2/\0<A.n.size)
 .rw[ai h2] at d;rw[d];clear T e1;refine a8 f116 ?_;dsimp only[kE,db];refine' Sl;(all_goals try exact z_3);all_goals refine oM (v':=v) bK bH ak rfl
 rw[af h2] at d;have hk0:k≠0:=λhc=>h2 (.inl aa);obtain⟨bD,e,i,p1,p2,p3,p4,p5,p6,p7,p8⟩:=Pg.rU D hG e2 hk0;have qA:Fs.aY ⟨st,t,U⟩ (bD:Int)=e.es:=Pg.mg D U p3 p4;have GZ:bg e.es=J:=by have:=Pg.ou hG.wf bD;rwa [Pg.dH p3] at this
 have F:=Pg.JB GZ (Pg.jD e.es i);have V:bD<16:=(D.lt p3).2;rw[p1] at d;simp only at d;rw[qA,p5,lI] at d;obtain⟨aj2,heb⟩:=YI GZ;obtain⟨ajO,aiJ⟩:=YI F;have hde:Pg.aY G k=[]:=by
  rw[Pg.dH B];obtain⟨ln,qn,hq,⟨h0,_⟩|hd⟩:=((D.bD k).some B).2;exact h0;have wm:=hd.sz;have hkd:=hd.kd;have:A.es=[]:=by by_cases hc:A.es=[];exact hc;have h3:=(Pg.lZ hd.eo).2 hc;exact absurd (.inr ⟨hkd,aa⟩) h2
  exact this
 have rK:bD≠k:=λhc=>by (have:Pg.aY G bD=[]:=by rwa[hc]);rw[Pg.dH p3] at this;rw[this] at p6;simp at p6
 have OM:∀s,lC s b v ⟨st,t,U⟩->bM 180 [bk b,sv z] s (sT b v) (.tuple ⟨[iv bD,iv 0]⟩):=λs hr=>by have:=sU s b v ⟨st,t,U⟩ GS ht z hz hp hr;rwa [p1] at this
 have hen:∀s,lC s b v ⟨st,t,U⟩->eD aZ aW 173 [bk b,iv bD] s (sT b v) 100 e.es:=λs hr=>by refine' zaX
 have agb:∀a c s,bJ s a (Y e.es) 2 (ab e.es)->bM 182 [H a (Y e.es) c,sv (Fs.base z)] s (ah a) (iv i):=λa c s hr=>by have:=DH s a c e.es (Fs.base z) aa hr;unfold Yn at this;rwa[p5] at this
 have agc:∀a c s,bJ s a (Y e.es) 2 (ab e.es)->tg s a (Y e.es) c 100 2->eD aZ aW 181 [H a (Y e.es) c,iv i] s (ah a) 100 (eB e.es i):=λa c s hr hv=>DS s a c e.es i aa p6 hr hv;have PZ:∀m a c s,bJ s a (Y (eB e.es i)) 2 (ab (eB e.es i))->(∀j∈ah a,j∉(kE b m ⟨st,t,U⟩).flatMap It.bC)->Ht 175 [bk b,iv bD,H a (Y (eB e.es i)) c] s (kE b m ⟨st,t,U⟩) (ah a) λR L=>∃v':SA,R= .tuple ⟨[]⟩/\L=kE b v' (Fs.bz ⟨st,t,U⟩ bD (eB e.es i)):=λm a c s hr hm=>
  pX s b m ⟨st,t,U⟩ ⟨h.mono aa,ht⟩ bD V a c (eB e.es i) aa aiJ hr hm
 have Lh:sb 40630 (Fs.bz ⟨st,t,U⟩ bD (eB e.es i)):=sb.bz (n:=40000) ⟨h,ht⟩ aa _;have lM:(Fs.bz ⟨st,t,U⟩ bD (eB e.es i)).dz=U->∃o,pG 200 (Fs.bz ⟨st,t,U⟩ bD (eB e.es i)).st [((ju (Fs.bz ⟨st,t,U⟩ bD (eB e.es i)).st (Fs.bz ⟨st,t,U⟩ bD (eB e.es i)).t k).getD aK).aO.bU] []=C o/\Y o<=1000/\∀p∈o,aQ p=J:=λhf=>by obtain⟨e',l1,q1,ZZ,g1,g2,g3⟩:=Pg.oL D p3 p4 F hf;exact ZZ.all (k:=k) (e:=A) (by rwa[Pg.gC _ _ (λh=>rK h.symm)])
 generalize hfe:Fs.bz ⟨st,t,U⟩ bD (eB e.es i)=f1 at *
 obtain⟨st1,t1,u⟩:=f1;have Q:=Lh.st;have S:=Lh.t;simp only at Q S lM d;have wQ:∀(m:SA) s,mK aZ aW 174 [bk b,iv k,nv {A.n with aX:=A.n.aX-1}] s b m ⟨st1,t1,u⟩ (Fs.put ⟨st1,t1,u⟩ k {A.n with aX:=A.n.aX-1}) (.tuple ⟨[]⟩):=λm s=>sa s b m ⟨st1,t1,u⟩ (Q.mono aa) S k hk _;have hlk: -1000<=A.n.aX/\A.n.aX<=1000:=by have:=Pg.ef ((D.bD k).some B).2.ok;omega
 generalize hfp:Fs.put ⟨st1,t1,u⟩ k {A.n with aX:=A.n.aX-1}=f2 at *
 clear T e1 hfe hfp;by_cases hl:0<A.n.aX-1
 .rw[ai hl] at d;rw[d];refine a8 f116 ?_;dsimp only[kE,db];repeat' first|refine' tk|refine' yC|refine' X3|refine' AI|refine' DJ|refine' Ms|refine' Mt|refine' Mu|refine' HC|refine' cY|fail
  all_goals refine oM (v':=pe) bK bH ak rfl
 rw[af hl] at d;cases x:u with
 |true=>rw[x,ai rfl] at d;rw[d];subst x;refine a8 f116 ?_;dsimp only[kE,db];(repeat' first|refine' tk|refine' yC|refine' X3|refine' AI|refine' DJ|refine' Ms|refine' Mt|refine' Mu|refine' cY|fail);all_goals refine' zaI
 |false=>
  rw[x,af cx] at d;obtain⟨o,ho,hol,BD⟩:=lM x;subst x;rcases Z:fJ st1 t1 k with⟨fB,t2,ok⟩;have aiK:∀(m:SA) s,eS aZ aW 183 [eg m st1,tv t1,iv k] s [] m st1 fB J (yL t2 ok):=λm s=>by have:=Qe s m st1 (Q.mono aa) t1 S k hk o ho hol BD;rwa[Z] at this
  rw[Z] at d;simp only at d;rw[d];refine a8 f116 ?_;dsimp only[kE,db];(repeat' first|refine' tk|refine' yC|refine' X3|refine' AI|refine' DJ|refine' Ms|refine' Mt|refine' Mu|(apply fz;exact aj;exact λs=>aiK _ s;exact cK;intro _ _ y _ _ N)|refine' cY|fail);all_goals refine oM (v':=y) bK bH ak rfl
end Go.Pl
