/- Lemmas of the proof. No conditions. -/
import Derived.Test.YtajgfdfbnhchcaaGreatDoorBe5
set_option maxRecDepth 100000
set_option maxHeartbeats 4000000
set_option linter.unusedVariables false
set_option linter.unusedSimpArgs false
open Go.Proofs.Tryz
namespace Go.Pl
open Go Go.Ev Go.Lg Go.Proofs
variable {E:ig}{X:fR}{Γ:qV}{l:Kn}{L:bZ}{K:KO}{g:FuncId}{xs:List Operand}{ts:Array TypeId}{vs:a6}{v:SA}{f:Fs}{R Lm:bZ}{a:aM}{c i:Nat}{k:IntKind}{code:az}{br p d:Nat}{Q:Value->Prop}
theorem aa6 (s:St)(br:Nat)(a:aM)(code:az)(c p:Nat)(n:Int)(hc:code.length<=2000)(hp:p<=100000)(hn: -100000<=n/\n<=100000)(hr:sZ s a code)(hm:∀i∈aj a,i∉[oB br a code.length c p].flatMap It.a8):
  Iy bh bw 38 [bg br,iv n] s br a code c p 1 (ajx n):=by
 have hd:tR ⟨s,[oB br a code.length c p].flatMap It.a8,aj a⟩ a code:=⟨hr,λb hb=>hb,hm⟩;dsimp only[Iy,oB] at *
 by_cases Q9:n<1
 .refine aT f38 ?_;repeat' (first|refine' aW|refine' XD|refine' XE|refine' av|fail)
  all_goals try exact pJ
  exact LQ (p':=p+1) bG bu ar (cG _) ⟨0,rfl,ag,ag⟩
 .by_cases hl:code.length=0
  .refine aT f38 ?_;repeat' (first|refine' aW|refine' XD|refine' XE|refine' av|fail)
   (all_goals try exact pJ);exact LQ (p':=p+1) bG bu ar (cG _) ⟨0,rfl,ag,ag⟩
  .have hlp:0<(code.length:Int):=by omega
   have r1:=Ab (x:=(p:Int)+1-1) (n:=code.length) ag hlp;have r2:=Ab (x:=((p:Int)+1-1)*7+3) (n:=code.length) ag hlp;have b0:=(code.getD ((p:Int)+1-1).toNat ak.ah).toNat_lt;have b1:=(code.getD (((p:Int)+1-1).tmod code.length).toNat ak.ah).toNat_lt;have b2:=(code.getD ((((p:Int)+1-1)*7+3).tmod code.length).toNat ak.ah).toNat_lt;have q1:0<=((p:Int)+1-1).tdiv code.length:=Int.tdiv_nonneg ag ag;have q2:((p:Int)+1-1).tdiv code.length<=(p:Int)+1-1:=Int.tdiv_le_self _ ag;have q3:0<=(((code.getD (((p:Int)+1-1).tmod code.length).toNat ak.ah).toNat:Int)*131+((code.getD ((((p:Int)+1-1)*7+3).tmod code.length).toNat ak.ah).toNat:Int)*1117+((p:Int)+1-1)*29+((p:Int)+1-1).tdiv code.length*53).tdiv 64/\(((code.getD (((p:Int)+1-1).tmod code.length).toNat ak.ah).toNat:Int)*131+((code.getD ((((p:Int)+1-1)*7+3).tmod code.length).toNat ak.ah).toNat:Int)*1117+((p:Int)+1-1)*29+((p:Int)+1-1).tdiv code.length*53).tdiv 64<=(((code.getD (((p:Int)+1-1).tmod code.length).toNat ak.ah).toNat:Int)*131+((code.getD ((((p:Int)+1-1)*7+3).tmod code.length).toNat ak.ah).toNat:Int)*1117+((p:Int)+1-1)*29+((p:Int)+1-1).tdiv code.length*53):=⟨Int.tdiv_nonneg ag ag,Int.tdiv_le_self _ ag⟩;refine aT f38 ?_;(repeat' (first|refine' aW|refine' XD|refine' XE|refine' av|fail));(all_goals try exact pJ);all_goals exact LQ (p':=p+1) bG bu ar (cG _) ⟨_,rfl,(Ab ag ag).1,λ_=>(Ab ag ag).2⟩
def ym:List az:=[[],[97],[47,47],[47,97,47],[47,65],[47,97,47,98,47,99,47,97,47,98],[47,97,98,99,100,101],[47,97,47,47,98]]++[[47,97],[47,98],[47,97,47,98],[47,97,47,99],[47,98,47,97],[47,99],[47,97,47,98,47,99],[47,99,47,97],[47,97,98],[47]]
def pathIn (R:Value):Prop:=∃z:az,R=sv z/\z∈ym
theorem aa8 (s:St)(br:Nat)(a:aM)(code:az)(c p:Nat)(hc:code.length<=2000)(hp:p<=99000)(hr:sZ s a code)(hm:∀i∈aj a,i∉[oB br a code.length c p].flatMap It.a8):
  Iy bh bw 39 [bg br] s br a code c p 2 pathIn:=by
 have hd:tR ⟨s,[oB br a code.length c p].flatMap It.a8,aj a⟩ a code:=⟨hr,λb hb=>hb,hm⟩;refine aT f39 ?_;repeat' (first|refine' aW|refine' BK|refine' av|fail)
 all_goals try exact pJ
 .exact LQ (p':=ng) bG bu ar ag ⟨_,rfl,cT _ (aK (by simp only[cY,lW];omega) _)⟩
 .exact LQ (p':=ng) bG bu ar ag ⟨_,rfl,dE _ (aK (by simp only[cY,lW];omega) _)⟩
def ajy (n:Int)(R:Value):Prop:=∃z:az,R=sv z/\(z.length:Int)<=n
theorem aba (s:St)(br:Nat)(a:aM)(code:az)(c p:Nat)(n:Int)(hc:code.length<=2000)(hp:p<=90000)(hn:0<=n/\n<=100)(hr:sZ s a code)(hm:∀i∈aj a,i∉[oB br a code.length c p].flatMap It.a8):
  Iy bh bw 40 [bg br,iv n] s br a code c p 202 (ajy n):=by
 have hd:tR ⟨s,[oB br a code.length c p].flatMap It.a8,aj a⟩ a code:=⟨hr,λb hb=>hb,hm⟩;refine aT f40 ?_;(repeat(first|refine' xT|refine' BK|refine' av|fail))
 rename_i many vw _ _ _ _ _ _ _;obtain⟨kind,ajz⟩:∃k,k=Ed:=⟨_,rfl⟩;rw[<-ajz];refine W.bN (λk l L=>∃(q:az)(a1:aM)(c1 p1:Nat),Le [(0,bg br),(6,iv many),(7,iv kind),(5,.slice a1 q.length c1)] l/\cC [oB br a code.length c p1,.aQ (.slice a1 q.length c1) 5 1 (ai q)] L/\k=(many-q.length).toNat/\(q.length:Int)<=many/\p1<=p+2+2*q.length)
                                                                                        (λl L=>∃(q:az)(a1:aM)(c1 p1:Nat),Le [(5,.slice a1 q.length c1)] l/\cC [oB br a code.length c p1,.aQ (.slice a1 q.length c1) 5 1 (ai q)] L/\(q.length:Int)<=many/\p1<=p+2+2*q.length) _ ⟨[],_,_,ng,bj,ar,rfl,by simp only[lW];omega,ag⟩ ?_ ?_
 .rintro k l L ⟨q,a1,c1,p1,hl,hL,rfl,h1,h2⟩;refine W.le ?_ hl hL;clear hl hL;(repeat' (first|refine' aW|refine' BK|((with_reducible apply WO.lit (α:=UInt8) (xs:=[97,98,126,48,58,59,61]));exact zf;exact rfl;exact rfl;intro bl _)|refine' av|fail))
  all_goals try exact pJ
  .refine⟨_,?_,q++[_],_,_,ng,bj,ar,rfl,?_,?_⟩<;>first|omega|(simp only[bL,cY,lW];omega)
  .refine⟨_,?_,q++[_],_,_,ng,bj,ar,rfl,?_,?_⟩<;>first|omega|(simp only[bL,cY,lW];omega)
  .refine W.bN (λk l L=>∃(q':az)(a2:aM)(c2:Nat)(bb:UInt8)(j:Int),Le [(0,bg br),(6,iv many),(7,iv kind),(8,bv bb),(9,iv j),(5,.slice a2 q'.length c2)] l/\cC [oB br a code.length c ng,.aQ (.slice a2 q'.length c2) 5 1 (ai q')] L/\k=(j+1).toNat/\ -1<=j/\j<=100/\(q'.length:Int)<=many/\q.length<=q'.length/\(q'.length=q.length->0<=j))
    (λl L=>∃(q':az)(a2:aM)(c2:Nat),Le [(0,bg br),(6,iv many),(7,iv kind),(5,.slice a2 q'.length c2)] l/\cC [oB br a code.length c ng,.aQ (.slice a2 q'.length c2) 5 1 (ai q')] L/\(q'.length:Int)<=many/\q.length<q'.length) _ ⟨q,a1,c1,_,_,bj,ar,rfl,ag,ag,ag,ag,ag⟩ ?_ ?_
   .rintro k l L ⟨q',a2,c2,bb,j,hl,hL,rfl,g1,g2,g3,g4,g5⟩;refine W.le ?_ hl hL;clear hl hL;refine' cR
    all_goals try exact pJ
    .refine⟨_,?_,q'++[bb],_,_,bb,j-1,bj,ar,rfl,?_,?_,?_,?_,?_⟩<;>first|omega|(simp only[bL,cY,lW];omega)
    all_goals exact⟨q',a2,c2,bj,ar,g3,ag⟩
   .rintro l L ⟨q',a2,c2,hl,hL,g3,g4⟩;refine dC (dC (ej ?_));exact⟨_,ag,q',a2,c2,ng,hl,hL,rfl,g3,ag⟩
  .refine⟨_,?_,q++[_],_,_,ng,bj,ar,rfl,?_,?_⟩<;>first|omega|(simp only[bL,cY,lW];omega)
  .exact⟨q,a1,c1,p1,bj,ar,h1,h2⟩
 .rintro l L ⟨q,a1,c1,p1,hl,hL,h1,h2⟩;refine aq ?_;refine W.le ?_ hl hL;clear hl hL;refine' cR
  exact LQ (p':=p1) bG bu ar ag ⟨q,rfl,ag⟩
abbrev Zn (E:ig)(X:fR)(g:FuncId)(vs:a6)(s:St)(Q:Value->Prop):Prop:=fM E X g vs s [] [] λR L=>Q R/\L=[]
theorem WO.ajA (hx:kA l xs vs)(h:∀s,Zn E X g vs s Q)(k:∀m m' r,Q r->jX L m->m<=m'->K r L m m' (FtR [] [] m m') (FtW [] m m')):WC E X Γ l g xs ts L K:=
 WO.call (Lm:=[]) (R:=L) (A:=[]) hx (.refl _) (λs hi b hb=>by cases hb) (λs _=>h s) (by rintro r L' m m' ho hm ⟨h1,rfl⟩;exact k m m' r h1 ho hm)
theorem Zo (z n:Nat):z*n=z*(n% 2)+(z+z)*(n/ 2):=by
 have h:n=2*(n/ 2)+n% 2:=(Nat.div_add_mod n 2).symm;generalize n/ 2=m at *
 generalize n% 2=r at *
 subst h;rw[Nat.mul_add,<-Nat.mul_assoc,GO z 2,Nat.two_mul,Nat.add_comm]
theorem UM (s:St)(z:az)(n:Nat)(hz:z.length*n<=1000)(hzl:z.length<=1000)(hn:n<=1000):Zn bh bw 41 [sv z,iv n] s (λR=>∃y:az,R=sv y/\y.length=z.length*n):=by
 refine aT f41 ?_;(repeat(first|refine' xT|refine' av|fail))
 refine W.bN (λk l L=>∃(x y:az)(m:Nat),Le [(0,sv x),(1,iv (m:Int)),(5,sv y)] l/\cC [] L/\k=m/\m<=1000/\(1<=m->x.length<=1000)/\y.length+x.length*m=z.length*n)
  (λl L=>∃(y:az),Le [(5,sv y)] l/\cC [] L/\y.length=z.length*n) n ⟨z,[],n,bj,ar,rfl,hn,λ_=>hzl,ay⟩ ?_ ?_
 .rintro k l L ⟨x,y,m,hl,hL,hk,h1,h2,h3⟩;subst k;refine W.le ?_ hl hL;clear hl hL;have h4:((m:Int).tmod 2)=((m% 2:Nat):Int):=rfl;have h5:((m:Int).tdiv 2)=((m/ 2:Nat):Int):=rfl;have h6:=Zo x.length m;have h7:x.length<=x.length*m\/m=0:=by
   rcases wD m with h|h
   .exact .inr h
   .exact .inl (VB _ h)
  have h8:1<=m/ 2->x.length+x.length<=(x.length+x.length)*(m/ 2):=λh=>VB _ h
  have h9:m% 2=1->x.length*(m% 2)=x.length:=λh=>by rw[h,xr]
  have FM:m% 2=0->x.length*(m% 2)=0:=λh=>by rw[h,Nat.mul_zero]
  have Z8:m=0->x.length*m=0:=λh=>by rw[h,Nat.mul_zero]
  refine' cR;all_goals try exact pJ
  .refine⟨m/ 2,ag,x++x,y++x,m/ 2,bj,ar,rfl,ag,?_,?_⟩<;>(simp only[bL];omega)
  .refine⟨m/ 2,ag,x++x,y,m/ 2,bj,ar,rfl,ag,?_,?_⟩<;>(simp only[bL];omega)
  .exact⟨y,bj,ar,ag⟩
 .rintro l L ⟨y,hl,hL,h1⟩;refine aq ?_;refine W.le ?_ hl hL;refine' cR
  exact⟨.inr rfl,_,[],bu,cC.nil _,⟨y,rfl,h1⟩,rfl⟩
structure OpD (o:Op):Prop where
 af:o.af∈ym
 to:o.to∈ym
 bq:o.bq.length<=25
 at_: -1<=o.at_/\o.at_<=193
 kind: -1<=o.kind/\o.kind<=8
def amj (R:Value):Prop:=∃o:Op,R=ov o/\OpD o
theorem Zp:([]:az)∈ym:=gh
theorem Zq {l:List Int}{lo hi:Int}{i:Nat}{d:Int}(h:∀x∈l,lo<=x/\x<=hi)(fF:i<l.length):lo<=l.getD i d/\l.getD i d<=hi:=h _ (aK fF d)
theorem aid (s:St)(br:Nat)(a:aM)(code:az)(c p:Nat)(hc:code.length<=2000)(hp:p<=80000)(hr:sZ s a code)(hm:∀i∈aj a,i∉[oB br a code.length c p].flatMap It.a8):
  Iy bh bw 20 [bg br] s br a code c p 220 amj:=by
 have hd:tR ⟨s,[oB br a code.length c p].flatMap It.a8,aj a⟩ a code:=⟨hr,λb hb=>hb,hm⟩;have vw:∀(k:Int),0<=k/\k<2->∀s,Zn bh bw 41 [sv [117],iv (24+k)] s (λR=>∃y:az,R=sv y/\y.length<=25):=λk hk s=>by
  have:=UM s [117] (24+k).toNat (by simp only[cY,lW];omega) ay ag;rw[yF ag] at this;refine this.mono ?_;rintro R L ⟨⟨y,rfl,h⟩,rfl⟩;exact⟨⟨y,rfl,by rw[h];simp only[cY,lW];omega⟩,rfl⟩
 refine aT f20 ?_;(repeat' (first|refine' aW|refine' ac3|refine' ac4|refine' BK|((with_reducible apply WO.ajA);exact aC;(intro s;exact vw _ ag s);intro _ _ amk ab4 _ _;obtain⟨aml,rfl,amm⟩:=ab4)|refine' av|fail));all_goals try exact pJ
 all_goals refine LQ bG bu ar ag ⟨⟨_,_,_,_,_⟩,rfl,⟨?_,?_,?_,?_,?_⟩⟩
 all_goals first|assumption|exact Zp|omega|exact Zq bJ (by simp only[cY,lW];omega)|(simp;done)|(dsimp only;omega)
theorem Km (same:Bool):dA 100 (bW same):=
 ⟨by simp[bW],by simp[bW],by simp[bW],λx hx=>by simp[bW] at hx;rw[hx];simp,λx hx=>by simp[bW] at hx;omega,by simp[bW],by simp[bW],by simp[bW],by simp[bW],λp hp=>by simp[bW] at hp⟩
theorem NQ (same:Bool):dA 130 (mY same).1/\ek (mY same).2:=by have h:=nq (k:=0) (z:=gj ⟨2,1,0,fh⟩) (Km same) (t:=fh) ⟨rfl,bJ,bJ⟩ ag (by have:=yd ⟨2,1,0,fh⟩;omega);exact⟨h.1,h.2.1⟩
theorem NR:∀(l:dg)(st:au)(i:Nat),(l.foldl (λst p=>drop st p.row) st).bc.getD i 0<=st.bc.getD i 0
 |[],_,_=>yH _
 |p::l,st,i=>by
  rw[wH];refine Int.le_trans (NR l _ i) ?_;show(st.bc.set p.row.toNat (st.bc.getD p.row.toNat 0-1)).getD i 0<=_;rw[aZ,aZ,List.getElem?_set];by_cases h:p.row.toNat=i
  .subst h;rw[if_pos rfl];split
   .simp only[qj,aZ];omega
   .rename_i hl;simp[aZ,sh (show st.bc.length<=p.row.toNat by omega)]
  .rw[if_neg h];exact yH _
theorem Iz:∀(l:dg)(st:au)(n:Nat),dA n st->dA (n+l.length) (l.foldl (λst p=>drop st p.row) st)
 |[],_,_,h=>h
 |p::l,st,n,h=>by
  rw[wH,cY];have:=Iz l _ _ (h.drop (row:=p.row))
  rwa [show n+1+l.length=n+(l.length+1) by omega] at this
theorem xl:∀(l:dg)(st:au),(l.foldl (λst p=>drop st p.row) st).oV=st.oV/\(l.foldl (λst p=>drop st p.row) st).eu=st.eu
 |[],_=>⟨rfl,rfl⟩
 |p::l,st=>by
  rw[wH];exact xl l _
theorem NS {n:Nat}{st:au}{t:cB}(h:dA n st)(hf:Pg.FS (next st) t):dA (n+1) (next st):=by
 have h1:=Iz st.cP st n h;have h2:=NR st.cP st;have h3:=xl st.cP st;obtain⟨G,l,q,hF,_⟩:=hf;have P3:=hF.so.ct;have e:next st={(st.cP.foldl (λst p=>drop st p.row) st) with cP:=[],fJ:=st.fJ+1}:=rfl
 rw[e] at P3⊢;generalize st.cP.foldl (λst p=>drop st p.row) st=y at *
 have yy:=h.tx;refine⟨h1.lr,h1.lf,h1.ll,h1.rw,λx hx=>?_,⟨by show(1:Int)<=st.fJ+1;omega,by show st.fJ+1<=((n+1:Nat):Int);omega⟩,?_,?_,?_,?_⟩
 .obtain⟨i,hi,rfl⟩:=iY hx;have hi:i<y.bc.length:=hi;have a1:=P3 i (by have:=h1.lf;omega);have a2:=h2 i;have a3:=h.ref i;have e2:y.bc.getD i 0=y.bc[i]:=by rw[aZ,bd hi];rfl
  have a1:(0:Int)<=y.bc.getD i 0:=Int.le_trans (KL _) a1;rw[e2] at a1 a2;show -((n+1:Nat):Int)<=y.bc[i]/\y.bc[i]<=((n+1:Nat):Int);omega
 .show 0<=y.oV/\y.oV<=((n+1:Nat):Int);have:=h.kp;rw[h3.1];omega
 .show([]:dg).length<=n+1;simp
 .show y.eu.length<=n+1;have:=h.dl;rw[h3.2];omega
 .intro p hp;cases hp
abbrev fnV (same:Bool):Value->Value:=λV=>.tuple ⟨[V,tv (mY same).2,.bool true]⟩
theorem NT (s:St)(v:SA)(same:Bool)(hr:zP s v (bW same)):M9 bh bw 73 [fK v (bW same)] s (Gt v) (mY same).1 (fnV same):=by
 have tZ:=Sa.r hr;have uy:=Sa.f hr;have uC:=Sa.l hr;have hdg:=Sa.g hr;have hdd:=Sa.d hr;have Cz:dA 100000 (bW same):=(Km same).mono ag;have Xo:∀s,cS s v (bW same)->bF 109 [fK v (bW same)] s (iO v) (.bool true):=λs hr=>NL s v same hr
 have dM:∀(dL:SA) s,eV bh bw 110 [fK dL (bW same),.agg ⟨[cr,cr,cr,cr,cr,cr,cr]⟩,cr,.agg ⟨[.int .i64 2,.int .i64 1,cr,cr,cr,cr,cr,cr,cr,cr]⟩] s [] dL (bW same) (mY same).1 true (Co (mY same).2 true):=λdL s=>by
  have:=vV s dL (bW same) ((Km same).mono ag) fh ⟨rfl,bJ,bJ⟩ 0 ag ⟨2,1,0,fh⟩;rw[Pg.xj] at this;exact this
 refine aT f73 ?_;(repeat' (first|refine' aW|((with_reducible apply WO.mq);exact aC;exact λs hr=>Xo s hr;exact eF;intros)|refine' rD|((with_reducible apply WO.nf);exact aC;exact λs=>dM _ s;exact eC;intro _ _ UN _ _ agC)|refine' av|fail));all_goals try refine cj
 all_goals exact ahH (v':=UN) bG bu ar rfl
abbrev jW:List Op:=[⟨2,[47,97],[],0,[]⟩,⟨1,[47,98],[],0,[]⟩,⟨1,[47,97,47,98],[],0,[]⟩,⟨3,[47,98],[],0,[104,101,108,108,111,32,104,101,108,108,111,32,104,101,108,108,111]⟩,⟨2,[47,97,47,99],[],0,[]⟩,⟨3,[47,97,47,98],[],30,[104,101,108,108,111,32,104,101,108,108,111,32,104,101,108,108,111]⟩]
theorem US:∀o∈jW,ik o=true/\o.af.length<=3000/\o.to.length<=3000:=by decide
theorem ND (s:St):eU bh bw 75 [] s [] 28 jW:=by refine aT f75 ?_;(repeat' (first|refine' aW|((with_reducible apply WO.lit (α:=Op) (xs:=jW));exact zf;exact rfl;exact rfl;intro bl _)|refine' av|fail));refine' kL;rfl
abbrev Zt (E:ig)(X:fR)(g:FuncId)(vs:a6)(s:St)(br:Nat)(a:aM)(code:az)(c p d:Nat):Prop:=fM E X g vs s [oB br a code.length c p] (aj a) λR L=>∃(p':Nat)(v':SA)(st:au)(t:cB),p'<=p+d/\Pg.FS st t/\dA 30000 st/\ek t/\R= .tuple ⟨[fK v' st,tv t]⟩/\L=oB br a code.length c p'::eQ v' st
theorem Ac:∀z∈ym,z.length<=3000:=by decide
theorem Zu (s:St)(br:Nat)(a:aM)(code:az)(c p:Nat)(hc:code.length<=2000)(hp:p<=70000)(hr:sZ s a code)(hm:∀i∈aj a,i∉[oB br a code.length c p].flatMap It.a8):
  Zt bh bw 36 [bg br] s br a code c p 3000:=by
 have hd:tR ⟨s,[oB br a code.length c p].flatMap It.a8,aj a⟩ a code:=⟨hr,λb hb=>hb,hm⟩;have Cg:jW.length=6:=rfl;refine aT f36 ?_;(repeat' (first|refine' aW|refine' BK|((with_reducible apply WO.afl);exact aC;exact λs=>NJ s _;intro _ _ adC _ _)|((with_reducible apply WO.XF);exact aC;exact λs hr=>NT s _ _ hr;exact acL;intro _ _ adD _ _)|((with_reducible apply WO.rU);exact aC;exact λs=>ND s;intro _ _ Sd Se _ _)|refine' av|fail));all_goals try refine cj
 obtain⟨j0,rfl⟩:∃j0:Nat,Ed=j0:=⟨Ed.toNat,ag⟩;refine W.bN (λk l L=>∃(j:Nat)(st:au)(t:cB)(v:SA)(p1 b2 b3 b4 b5:Nat),Le [(0,bg br),(2,bg b2),(3,bg b3),(4,bg b4),(5,bg b5),(7,.slice Sd jW.length Se),(8,iv (j:Int))] l/\cC (oB br a code.length c p1:: .box b2 [eT,eT,eT,cr,eT,cr,eT,.bool false] 81 false:: .box b3 [cr,cr,cr,cr,cr,cr,cr] 85 false:: .box b4 (se v st) 81 false:: .box b5 (im t) 85 false:: .aQ (.slice Sd jW.length Se) 28 5 (ai jW)::eQ v st) L/\k=j/\j<=6/\Pg.FS st t/\dA (130+1730*(6-j)) st/\ek t/\p1<=p+2)
                                                       (λl L=>∃(j:Nat)(st:au)(t:cB)(v:SA)(p1 b2 b3 b4 b5:Nat),Le [(0,bg br),(2,bg b2),(3,bg b3),(4,bg b4),(5,bg b5)] l/\cC (oB br a code.length c p1:: .box b2 [eT,eT,eT,cr,eT,cr,eT,.bool false] 81 false:: .box b3 [cr,cr,cr,cr,cr,cr,cr] 85 false:: .box b4 (se v st) 81 false:: .box b5 (im t) 85 false::eQ v st) L/\j=0/\Pg.FS st t/\dA (130+1730*6) st/\ek t/\p1<=p+2) _ ⟨j0,_,_,_,_,_,_,_,_,bj,ar,rfl,ag,Pg.NC _,(NQ _).1.mono ag,(NQ _).2,ag⟩ ?_ ?_
 .rintro k l L ⟨j,st,t,v,p1,b2,b3,b4,b5,hl,hL,rfl,h1,h2,h3,h4,h5⟩;refine W.le ?_ hl hL;clear hl hL;rcases wD k with h0|h0
  .subst h0;refine' cR
   (all_goals try refine cj);all_goals exact⟨0,st,t,v,p1,_,_,_,_,bj,ar,rfl,h2,h3,h4,h5⟩
  .have Gw:((jW.length:Int)-(k:Int)).toNat<jW.length:=by omega
   obtain⟨ho,qu,uo⟩:=US _ (aK Gw ak.ah);(have je:∀(dL:SA) s,eV bh bw 76 [fK dL st,tv t,ov (jW.getD ((jW.length:Int)-(k:Int)).toNat ak.ah)] s [] dL st (fb st t (jW.getD ((jW.length:Int)-(k:Int)).toNat ak.ah)).1 true (doV (fb st t (jW.getD ((jW.length:Int)-(k:Int)).toNat ak.ah)).2.1 (fb st t (jW.getD ((jW.length:Int)-(k:Int)).toNat ak.ah)).2.2):=λdL s=>NU s dL st t (h3.mono ag) h4 h2 _ ho qu uo);have g1:=Pg.R7 h2 ho;have g2:=Fq h3 ag h4 h2 ho;generalize fb st t (jW.getD ((jW.length:Int)-(k:Int)).toNat ak.ah)=r at je g1 g2;obtain⟨da,t',cd⟩:=r;dsimp only at je g1 g2;(repeat' (first|refine' aW|((with_reducible apply WO.nf);exact aC;exact λs=>je _ s;exact eC;intro _ _ Zv _ _ ajD)|refine' av|fail));(all_goals try refine cj);all_goals exact⟨k-1,ag,k-1,da,t',Zv,p1,_,_,_,_,by(rw[show((k-1:Nat):Int)=(k:Int)-1 by omega];exact bj),ar,rfl,ag,g1,g2.1.mono ag,g2.2,h5⟩
 .rintro l L ⟨j,st,t,v,p1,b2,b3,b4,b5,hl,hL,-,h2,h3,h4,h5⟩;refine aq ?_;refine W.le ?_ hl hL;clear hl hL;repeat' (first|refine' aW|refine' BK|refine' av|fail)
  obtain⟨j1,rfl⟩:∃j1:Nat,Ed=j1:=⟨Ed.toNat,ag⟩;refine W.bN (λk l L=>∃(j:Nat)(st:au)(t:cB)(v:SA)(p1 b2 b3 b4 b5:Nat),Le [(0,bg br),(2,bg b2),(3,bg b3),(4,bg b4),(5,bg b5),(9,iv (j:Int))] l/\cC (oB br a code.length c p1:: .box b2 [eT,eT,eT,cr,eT,cr,eT,.bool false] 81 false:: .box b3 [cr,cr,cr,cr,cr,cr,cr] 85 false:: .box b4 (se v st) 81 false:: .box b5 (im t) 85 false::eQ v st) L/\k=j/\j<=11/\Pg.FS st t/\dA (10510+1731*(11-j)) st/\ek t/\p1<=p+3+221*(11-j))
                                                        (λl L=>∃(j:Nat)(st:au)(t:cB)(v:SA)(p1 b2 b3 b4 b5:Nat),Le [(0,bg br),(2,bg b2),(3,bg b3),(4,bg b4),(5,bg b5)] l/\cC (oB br a code.length c p1:: .box b2 [eT,eT,eT,cr,eT,cr,eT,.bool false] 81 false:: .box b3 [cr,cr,cr,cr,cr,cr,cr] 85 false:: .box b4 (se v st) 81 false:: .box b5 (im t) 85 false::eQ v st) L/\j=0/\Pg.FS st t/\dA (10510+1731*11) st/\ek t/\p1<=p+3+221*11) _ ⟨j1,st,t,v,ng,_,_,_,_,bj,ar,rfl,ag,h2,h3.mono ag,h4,ag⟩ ?_ ?_
  .clear h2 h3 h4;rintro k l L ⟨j,st,t,v,p1,b2,b3,b4,b5,hl,hL,rfl,h1,h2,h3,h4,h5⟩;refine W.le ?_ hl hL;clear hl hL;rcases wD k with h0|h0
   .subst h0;refine' cR
    (all_goals try refine cj);all_goals exact⟨0,st,t,v,p1,_,_,_,_,bj,ar,rfl,h2,h3,h4,h5⟩
   .have amn:dA 70000 st:=h3.mono ag;have amo:st.cP.length<=30000:=gK h3.gl ag;have je:∀o,OpD o->ik o=true->∀(dL:SA) s,eV bh bw 76 [fK dL st,tv t,ov o] s [] dL st (fb st t o).1 true (doV (fb st t o).2.1 (fb st t o).2.2):=λo hD ho dL s=>NU s dL st t (h3.mono ag) h4 h2 o ho (Ac _ hD.af) (Ac _ hD.to)
    (have g1:∀o,ik o=true->Pg.FS (fb st t o).1 (fb st t o).2.1/\dA (12240+1731*(11-k)) (fb st t o).1/\ek (fb st t o).2.1:=λo ho=>⟨Pg.R7 h2 ho,(Fq h3 ag h4 h2 ho).1.mono ag,(Fq h3 ag h4 h2 ho).2⟩);(have WK:∀o,ik o=true->∀(dL:SA) s,eV bh bw 77 [fK dL (fb st t o).1] s [] dL (fb st t o).1 (next (fb st t o).1) true id:=λo ho dL s=>Ix s dL _ ((g1 o ho).2.1.mono ag) (gK (g1 o ho).2.1.gl ag));(have To:∀(dL:SA) s,eV bh bw 77 [fK dL st] s [] dL st (next st) true id:=λdL s=>Ix s dL st amn amo);(have fm:∀o,OpD o->∀s,bF 25 [ov o] s [] (.bool (ik o)):=λo hD s=>Sc s o (gK (Ac _ hD.af) ag) (gK (Ac _ hD.to) ag) (gK hD.bq ag));(repeat' (first|refine' aW|refine' ac6|refine' BK|((with_reducible apply WO.aV);exact aC;exact λs=>fm _ XM s;intros)|((with_reducible apply WO.nf);exact aC;exact λs=>je _ XM aL _ s;exact eC;intro _ _ Zw _ _ ajE)|((with_reducible apply WO.nf);exact aC;(first|exact λs=>WK _ aL _ s|exact λs=>To _ s);exact eC;intro _ _ IB _ _ agD)|refine' av|fail));all_goals try refine cj
    .obtain⟨f1,f2,f3⟩:=g1 Ef aL;exact⟨k-1,ag,k-1,next (fb st t Ef).1,(fb st t Ef).2.1,IB,ng,_,_,_,_,by(rw[show((k-1:Nat):Int)=(k:Int)-1 by omega];exact bj),ar,rfl,ag,Pg.CU f1,(NS f2 (Pg.CU f1)).mono ag,f3,ag⟩
    .obtain⟨f1,f2,f3⟩:=g1 Ef aL;exact⟨k-1,ag,k-1,(fb st t Ef).1,(fb st t Ef).2.1,Zw,ng,_,_,_,_,by(rw[show((k-1:Nat):Int)=(k:Int)-1 by omega];exact bj),ar,rfl,ag,f1,f2.mono ag,f3,ag⟩
    .exact⟨k-1,ag,k-1,next st,t,IB,ng,_,_,_,_,by(rw[show((k-1:Nat):Int)=(k:Int)-1 by omega];exact bj),ar,rfl,ag,Pg.CU h2,(NS h3 (Pg.CU h2)).mono ag,h4,ag⟩
    .exact⟨k-1,ag,k-1,st,t,v,ng,_,_,_,_,by(rw[show((k-1:Nat):Int)=(k:Int)-1 by omega];exact bj),ar,rfl,ag,h2,h3.mono ag,h4,ag⟩
  .rintro l L ⟨j,st,t,v,p1,b2,b3,b4,b5,hl,hL,-,h2,h3,h4,h5⟩;refine aq ?_;refine W.le ?_ hl hL;clear hl hL;refine' cR
   all_goals exact⟨bG,_,_,bu,ar,p1,v,st,t,ag,h2,h3.mono ag,h4,rfl,rfl⟩
variable {z:az}
section
variable {f:Flat}
theorem Ej (s:St)(a:aM)(c:Nat)(p:List a7)(a':aM)(c':Nat)(q:fg)(hp:p.length<=10000)(hq:q.length<=10000)(h1:bH s a p.length 2 (ai p))(h2:bH s a' q.length 3 (ai q)):
  BH 26 [.agg ⟨ie a c p a' c' q⟩] s [] (aj a++aj a') λR L=>∃b d b' d',R= .agg ⟨ie b d p b' d' q⟩/\L=[cv b d p,dK b' d' q]:=by
 have hd1:Rd ⟨s,([]:bZ).flatMap It.a8,aj a++aj a'⟩ a p.length 2 (ai p):=Rd.of h1 λ_ hb=>cT _ hb
 refine' zbo;refine aT f26 ?_;refine' cR;exact⟨bG,_,_,bu,ar,_,_,_,_,rfl,rfl⟩
def vD (z:az):Prop:=z.length<=800/\(∀c∈z,c.toNat<128)/\(z.take 2=[47,47]->z.length=2)
instance(z:az):Decidable (vD z):=by unfold vD;infer_instance
theorem afL:∀z∈ym,vD z:=by decide
theorem IC (h:aU z=true):1<=z.length/\z.length<=4/\∀c∈z,97<=c.toNat/\c.toNat<=122:=by unfold aU at h;simp only[bO,gA,bQ] at h;exact⟨h.1.2,h.2,h.1.1⟩
theorem ajF (h:Pg.vB 146 z):vD z:=by
 have hl:=h.len;obtain⟨ad,h1,h2,rfl⟩:=h;refine⟨ag,?_,?_⟩
 .unfold pathOf;split
  .intro c hc;rw[ix] at hc;subst hc;decide
  .intro c hc;obtain⟨w,hw,hcw⟩:=List.mem_flatten.1 hc;obtain⟨n,hn,rfl⟩:=jK.1 hw;rcases bT.1 hcw with rfl|hcn
   .decide
   .have:=(IC (h1 n hn)).2.2 c hcn;omega
 .unfold pathOf;split
  .intro h;cases h
  .rename_i fY;cases ad with
   |nil=>exact absurd rfl fY
   |cons n l=>
    have hb:=IC (h1 n ay);intro h;exfalso;cases n with
    |nil=>simp at hb
    |cons c n=>
     have:=hb.2.2 c ay;simp at h;rw[h] at this
     revert this;decide
structure gf (f:Flat):Prop where
 nl:f.ad.length<=144
 tl:f.ae.length<=16
 nm:∀x∈f.ad,vD x.af/\0<=x.id/\x.id<=16
 th:∀x∈f.ae,0<=x.id/\x.id<=16/\x.bq.length<=192
theorem gf.of (h:Pg.adx f):gf f:=⟨h.nl,h.tl,λx hx=>by have:=h.nm x hx;exact⟨ajF this.1,ag⟩,λx hx=>by have:=h.th x hx;omega⟩
theorem gf.ajG (h:gf f)(i:Nat){q:a7}(hq:vD q.af/\0<=q.id/\q.id<=16):gf ⟨f.ad.set i q,f.ae⟩:=
 ⟨by rw[gN];exact h.nl,h.tl,λx hx=>by
  rcases GN hx with hx|rfl
  .exact h.nm x hx
  .exact hq,h.th⟩
theorem gf.afM (h:gf f)(i:Nat){q:bP}(hq:0<=q.id/\q.id<=16/\q.bq.length<=192):gf ⟨f.ad,f.ae.set i q⟩:=
 ⟨h.nl,by rw[gN];exact h.tl,h.nm,λx hx=>by
   rcases GN hx with hx|rfl
   .exact h.th x hx
   .exact hq⟩
theorem gf.cut (h:gf f)(i:Nat):gf ⟨f.ad.take i,f.ae⟩:=
 ⟨by rw[cW];have:=h.nl;omega,h.tl,λx hx=>h.nm x (KP hx),h.th⟩
end
variable {a':aM}{st:au}
section
variable {br c c' p d n:Nat}
theorem WO.afN (hx:kA l xs vs)(hp:oZ [oB br a code.length c p] L R)(hh:tR Γ a code)(h:∀s,sZ s a code->(∀i∈aj a,i∉[oB br a code.length c p].flatMap It.a8)->Zt E X g vs s br a code c p d)(k:∀m m' p' v' st t,p'<=p+d->Pg.FS st t->dA 30000 st->ek t->jX L m->m<=m'->K (.tuple ⟨[fK v' st,tv t]⟩) (oB br a code.length c p'::(eQ v' st++R)) m m' (FtR (aj a) [oB br a code.length c p] m m') (FtW [oB br a code.length c p] m m')):WC E X Γ l g xs ts L K:=
 WO.call (Lm:=[oB br a code.length c p]) (R:=R) hx hp.cZ (λs hi=>(hh.row (hi.cZ hp.cZ|>.sub ⟨R,.refl _,nK _ _⟩)).2) (λs hi=>h s (hh.row (hi.cZ hp.cZ|>.sub ⟨R,.refl _,nK _ _⟩)).1 (tR.apart hh (hi.cZ hp.cZ))) (by rintro r' L' m m' ho hm ⟨p',v',st,t,h1,h2,h3,h4,rfl,rfl⟩;exact k m m' p' v' st t h1 h2 h3 h4 ho hm)
theorem WO.afO {f:Flat}(hx:kA l xs vs)(h:∀s,cS s v st->fM E X g vs s [] (iO v) λR L=>∃a c a' c',R= .tuple ⟨[.agg ⟨ie a c f.ad a' c' f.ae⟩,.bool true]⟩/\L=[cv a c f.ad,dK a' c' f.ae])(hh:rC Γ L v st)(k:∀m m' a c a' c',jX L m->m<=m'->K (.tuple ⟨[.agg ⟨ie a c f.ad a' c' f.ae⟩,.bool true]⟩) (cv a c f.ad::dK a' c' f.ae::L) m m' (FtR (iO v) [] m m') (FtW [] m m')):WC E X Γ l g xs ts L K:=
 WO.call (Lm:=[]) (R:=L) (A:=iO v) hx (.refl _) (λs hi b hb=>(hh.row hi).2 b hb) (λs hi=>h s (hh.row hi).1) (by rintro r L' m m' ho hm ⟨a,c,a',c',rfl,rfl⟩;exact k m m' a c a' c' ho hm)
theorem WO.Px {q1:List a7}{q2:fg}(hx:kA l xs vs)(h:∀s,bH s a q1.length 2 (ai q1)->bH s a' q2.length 3 (ai q2)->fM E X g vs s [] (aj a++aj a') λR L=>∃b d b' d',R= .agg ⟨ie b d q1 b' d' q2⟩/\L=[cv b d q1,dK b' d' q2])(h1:jB Γ L a q1.length 2 (ai q1))(h2:jB Γ L a' q2.length 3 (ai q2))(k:∀m m' b d b' d',jX L m->m<=m'->K (.agg ⟨ie b d q1 b' d' q2⟩) (cv b d q1::dK b' d' q2::L) m m' (FtR (aj a++aj a') [] m m') (FtW [] m m')):WC E X Γ l g xs ts L K:=
 WO.call (Lm:=[]) (R:=L) (A:=aj a++aj a') hx (.refl _) (λs hi b hb=>by
   rcases eZ.1 hb with hb|hb
   .exact(h1.row hi).2 b hb
   .exact(h2.row hi).2 b hb) (λs hi=>h s (h1.row hi).1 (h2.row hi).1) (by rintro r L' m m' ho hm ⟨b,d,b',d',rfl,rfl⟩;exact k m m' b d b' d' ho hm)
end
abbrev Zx (E:ig)(X:fR)(g:FuncId)(vs:a6)(s:St)(br:Nat)(a:aM)(code:az)(c p d:Nat):Prop:=fM E X g vs s [oB br a code.length c p] (aj a) λR L=>∃(p':Nat)(f:Flat)(an:aM)(cn:Nat)(a0:aM)(p0:List a7)(c0:Nat)(at_:aM)(ct:Nat),p'<=p+d/\gf f/\Sub 2 a0 p0 an f.ad/\R= .agg ⟨ie an cn f.ad at_ ct f.ae⟩/\L=[oB br a code.length c p',cv a0 c0 p0,dK at_ ct f.ae]
theorem Sf {E:ig}{l:Kn}{L:bZ}{a:aM}{br c p d:Nat}{code:az}{rs:List ResultVar}{x:Ex}{p':Nat}{f:Flat}{an:aM}{cn:Nat}{a0:aM}{p0:List a7}{c0:Nat}{at_:aM}{ct:Nat}(hx:x= .normal\/x= .ret)(hr:qD E l L rs [.agg ⟨ie an cn f.ad at_ ct f.ae⟩])(hL:cC [oB br a code.length c p',cv a0 c0 p0,dK at_ ct f.ae] L)(hp:p'<=p+d)(hs:Sub 2 a0 p0 an f.ad)(hD:gf f):
  vh E rs (λR L=>∃(p':Nat)(f:Flat)(an:aM)(cn:Nat)(a0:aM)(p0:List a7)(c0:Nat)(at_:aM)(ct:Nat),p'<=p+d/\gf f/\Sub 2 a0 p0 an f.ad/\R= .agg ⟨ie an cn f.ad at_ ct f.ae⟩/\L=[oB br a code.length c p',cv a0 c0 p0,dK at_ ct f.ae]) x l L:=⟨hx,_,_,hr,hL,p',f,an,cn,a0,p0,c0,at_,ct,hp,hD,hs,rfl,rfl⟩
theorem Zy {E:ig}{l:Kn}{L:bZ}{a:aM}{br c p d:Nat}{code:az}{rs:List ResultVar}{x:Ex}{p':Nat}{nm:List a7}{th:fg}{an:aM}{cn:Nat}{at_:aM}{ct i:Nat}{q:a7}(hx:x= .normal\/x= .ret)(hr:qD E l L rs [.agg ⟨ie an cn nm at_ ct th⟩])(hL:cC [oB br a code.length c p',.aQ (.slice an nm.length cn) 39 2 (ai (nm.set i q)),dK at_ ct th] L)(hp:p'<=p+d)(hD:gf ⟨nm.set i q,th⟩):vh E rs (λR L=>∃(p':Nat)(f:Flat)(an:aM)(cn:Nat)(a0:aM)(p0:List a7)(c0:Nat)(at_:aM)(ct:Nat),p'<=p+d/\gf f/\Sub 2 a0 p0 an f.ad/\R= .agg ⟨ie an cn f.ad at_ ct f.ae⟩/\L=[oB br a code.length c p',cv a0 c0 p0,dK at_ ct f.ae]) x l L:=by
 have e:(nm.set i q).length=nm.length:=gN;refine Sf (f:=⟨nm.set i q,th⟩) (an:=an) (cn:=cn) (a0:=an) (p0:=nm.set i q) (c0:=cn) (at_:=at_) (ct:=ct) hx ?_ ?_ hp Sub.all hD
 .dsimp only[ie];rw[e];exact hr
 .dsimp only[cv];rw[e];exact hL
theorem Qs {E:ig}{l:Kn}{L:bZ}{a:aM}{br c p d:Nat}{code:az}{rs:List ResultVar}{x:Ex}{p':Nat}{nm:List a7}{th:fg}{an:aM}{cn:Nat}{at_:aM}{ct i:Nat}{q:bP}(hx:x= .normal\/x= .ret)(hr:qD E l L rs [.agg ⟨ie an cn nm at_ ct th⟩])(hL:cC [oB br a code.length c p',cv an cn nm,.aQ (.slice at_ th.length ct) 61 3 (ai (th.set i q))] L)(hp:p'<=p+d)(hD:gf ⟨nm,th.set i q⟩):vh E rs (λR L=>∃(p':Nat)(f:Flat)(an:aM)(cn:Nat)(a0:aM)(p0:List a7)(c0:Nat)(at_:aM)(ct:Nat),p'<=p+d/\gf f/\Sub 2 a0 p0 an f.ad/\R= .agg ⟨ie an cn f.ad at_ ct f.ae⟩/\L=[oB br a code.length c p',cv a0 c0 p0,dK at_ ct f.ae]) x l L:=by
 have e:(th.set i q).length=th.length:=gN;refine Sf (f:=⟨nm,th.set i q⟩) (an:=an) (cn:=cn) (a0:=an) (p0:=nm) (c0:=cn) (at_:=at_) (ct:=ct) hx ?_ ?_ hp Sub.all hD
 .dsimp only[ie];rw[e];exact hr
 .dsimp only[dK];rw[e];exact hL
theorem Kk (s:St)(br:Nat)(a:aM)(code:az)(c p:Nat)(hc:code.length<=2000)(hp:p<=60000)(hr:sZ s a code)(hm:∀i∈aj a,i∉[oB br a code.length c p].flatMap It.a8):
  Zx bh bw 19 [bg br] s br a code c p 4000:=by
 have hd:tR ⟨s,[oB br a code.length c p].flatMap It.a8,aj a⟩ a code:=⟨hr,λb hb=>hb,hm⟩;refine aT f19 ?_;(repeat' (first|refine' aW|((with_reducible apply WO.afN);exact aC;exact eC;assumption;(intro s hr hm;exact Zu s _ _ _ _ _ aL ag hr hm);intro _ _ akt aku ajH akv ajI Zz ZA ZB _ _;obtain⟨Ad,UT,s7⟩:=Pg.Kk Zz)|((with_reducible apply WO.afO);exact aC;(intro s hr;exact Zi s _ _ (ZA.mono ag) _ ZB _ UT hr);exact eF;intro _ _ aok aol aom aon _ _)|refine' av|fail));have hD:=gf.of s7;have yw:0<Ad.ad.length:=nL.2 s7.n0;have ht0:0<Ad.ae.length:=nL.2 s7.t0;have nB:=hD.nl;have pO:=hD.tl;(repeat' (first|refine' aW|((with_reducible apply WO.Px);exact aC;(intro s h1 h2;exact Ej s _ _ _ _ _ _ (by have:=s7.nl;omega) (by have:=s7.tl;omega) h1 h2);exact cb;exact cb;intro _ _ aiy aiz aiA aiB _ _)|refine' BK|refine' ac3|refine' ac4|refine' Rt|((with_reducible apply WO.al3);exact gT;exact gT;exact xS;exact mH;intro _)|((with_reducible apply WO.ai4);exact gT;exact gT;exact xS;exact mH;intro _)|((with_reducible apply WO.ai5);exact gT;exact gT;exact xS;exact mH;intro _)|refine' Rs|refine' av|fail));all_goals try refine cj
 .exact Zy bG bu ar ag (by exact hD.ajG _ ⟨afL _ aeT,(hD.nm _ (aK ag _)).2⟩)
 .exact Zy bG bu ar ag (by exact hD.ajG _ (by dsimp only;exact⟨(hD.nm _ (aK ag _)).1,ag,ag⟩))
 .exact Qs bG bu ar ag (by exact hD.afM _ (by dsimp only;exact⟨ag,ag,(hD.th _ (aK ag _)).2.2⟩))
 .exact Qs bG bu ar ag (by exact hD.afM _ (by dsimp only;exact⟨(hD.th _ (aK ag _)).1,(hD.th _ (aK ag _)).2.1,(hD.th _ (aK ag _)).2.2⟩))
 .exact Qs bG bu ar ag (by exact hD.afM _ (by dsimp only;exact⟨(hD.th _ (aK ag _)).1,(hD.th _ (aK ag _)).2.1,ag⟩))
 .exact Sf (f:=⟨Ad.ad.take _,Ad.ae⟩) bG (by(exact bu)) (by(exact ar)) ag Hp (by exact hD.cut _)
 .exact Sf (f:=Ad) bG (by(exact bu)) (by(exact ar)) ag Sub.all (by exact hD)
section
variable {br c p d n:Nat}
abbrev ZC (E:ig)(X:fR)(g:FuncId)(vs:a6)(s:St)(a:aM)(code:az):Prop:=fM E X g vs s [] (aj a) λR L=>∃(br:Nat)(a2:aM)(c2:Nat)(qR:az),afJ a code a2 qR/\qR.length<=2000/\R=bg br/\L=[oB br a2 qR.length c2 0]
theorem WO.afP (hx:kA l xs vs)(h:∀s,sZ s a code->UL code.length c->ZC E X g vs s a code)(hd:tR Γ a code)(hv:UL code.length c)(k:∀m m' br a2 c2 (qR:az),afJ a code a2 qR->qR.length<=2000->tR Γ a2 qR->jX L m->m<=m'->K (bg br) (oB br a2 qR.length c2 0::L) m m' (FtR (aj a) [] m m') (FtW [] m m')):WC E X Γ l g xs ts L K:=
 WO.call (Lm:=[]) (R:=L) (A:=aj a) hx (.refl _) (λs hi=>(hd.row hi).2) (λs hi=>h s (hd.row hi).1 hv) (by rintro r L' m m' ho hm ⟨br,a2,c2,qR,h1,h2,rfl,rfl⟩;exact k m m' br a2 c2 qR h1 h2 (hd.sub h1) ho hm)
theorem WO.afQ (hx:kA l xs vs)(hp:oZ [oB br a code.length c p] L R)(hh:tR Γ a code)(h:∀s,sZ s a code->(∀i∈aj a,i∉[oB br a code.length c p].flatMap It.a8)->Zx E X g vs s br a code c p d)(k:∀m m' p' f an cn a0 p0 c0 at_ ct,p'<=p+d->gf f->Sub 2 a0 p0 an f.ad->jX L m->m<=m'->K (.agg ⟨ie an cn f.ad at_ ct f.ae⟩) (oB br a code.length c p'::cv a0 c0 p0::dK at_ ct f.ae::R) m m' (FtR (aj a) [oB br a code.length c p] m m') (FtW [oB br a code.length c p] m m')):WC E X Γ l g xs ts L K:=
 WO.call (Lm:=[oB br a code.length c p]) (R:=R) hx hp.cZ (λs hi=>(hh.row (hi.cZ hp.cZ|>.sub ⟨R,.refl _,nK _ _⟩)).2) (λs hi=>h s (hh.row (hi.cZ hp.cZ|>.sub ⟨R,.refl _,nK _ _⟩)).1 (tR.apart hh (hi.cZ hp.cZ))) (by rintro r' L' m m' ho hm ⟨p',f,an,cn,a0,p0,c0,at_,ct,h1,h2,h3,rfl,rfl⟩;exact k m m' p' f an cn a0 p0 c0 at_ ct h1 h2 h3 ho hm)
end
theorem UU (s:St)(a:aM)(code:az)(c:Nat)(hr:sZ s a code)(hv:UL code.length c):ZC bh bw 18 [.slice a code.length c] s a code:=by
 refine' za5;have hv':UL code.length c:=hv;refine aT f18 ?_;(repeat' (first|refine' aW|((with_reducible apply WO.ami);exact gT;exact gT;assumption;assumption;exact mH;intro _ aoo)|refine' av|fail));all_goals try refine cj
 .exact⟨bG,_,_,bu,ar,_,_,_,_,⟨rfl,_,rfl⟩,by rw[cW];omega,rfl,rfl⟩
 .exact⟨bG,_,_,bu,ar,_,_,_,code,⟨rfl,code.length,gY.symm⟩,ag,rfl,rfl⟩
variable {r:Value}
structure cD (s:St)(a a':aM)(f:Flat):Prop where
 n:bH s a f.ad.length 2 (ai f.ad)
 t:bH s a' f.ae.length 3 (ai f.ae)
structure W9 (Γ:qV)(L:bZ)(a a':aM)(f:Flat):Prop where
 n:jB Γ L a f.ad.length 2 (ai f.ad)
 t:jB Γ L a' f.ae.length 3 (ai f.ae)
abbrev kb (a a':aM):List Nat:=aj a++aj a'
abbrev jC (a:aM)(c:Nat)(a':aM)(c':Nat)(f:Flat):Value:=.agg ⟨ie a c f.ad a' c' f.ae⟩
section
variable {f:Flat}{s:St}
theorem WO.gM (hx:kA l xs vs)(h:∀s,cD s a a' f->nQ E X g vs s (kb a a') r)(hh:W9 Γ L a a' f)(k:∀m m',jX L m->m<=m'->K r L m m' (FtR (kb a a') [] m m') (FtW [] m m')):WC E X Γ l g xs ts L K:=
 WO.qE hx (λs hi=>⟨λi hb=>by
   rcases eZ.1 hb with hb|hb
   .exact(hh.n.row hi).2 i hb
   .exact(hh.t.row hi).2 i hb,h s ⟨(hh.n.row hi).1,(hh.t.row hi).1⟩⟩) k
theorem gb.n (h:cD s a a' f):Rd ⟨s,([]:bZ).flatMap It.a8,kb a a'⟩ a f.ad.length 2 (ai f.ad):=Rd.of h.n λ_ hb=>cT _ hb
theorem gb.t (h:cD s a a' f):Rd ⟨s,([]:bZ).flatMap It.a8,kb a a'⟩ a' f.ae.length 3 (ai f.ae):=Rd.of h.t λ_ hb=>dE _ hb
end
structure ID (f:Flat):Prop where
 nl:f.ad.length<=1000
 tl:f.ae.length<=1000
 nm:∀x∈f.ad,x.af.length<=5000/\ -1000<=x.id/\x.id<=1000
 th:∀x∈f.ae,-1000<=x.id/\x.id<=1000/\x.bq.length<=5000
theorem gf.s {f:Flat}(h:gf f):ID f:=⟨by have:=h.nl;omega,by have:=h.tl;omega,λx hx=>by have:=h.nm x hx;have:=this.1.1;omega,λx hx=>by have:=h.th x hx;omega⟩
theorem NW {α:Type}{sz:Nat}[ak α sz](P:α->Bool)(l:List α){i:Nat}(hi:i<l.length):((l.drop i).findIdx? P).map (·+i)=if P (l.getD i (ak.ah (α:=α) (sz:=sz))) then some i else((l.drop (i+1)).findIdx? P).map (·+(i+1)):=by
 rw[drop_cons (sz:=sz) hi,GR];split
 .simp
 .rw[Option.map_map]
  congr 1
  funext j
  simp only[Function.comp];omega
theorem lg (s:St)(a:aM)(c:Nat)(a':aM)(c':Nat)(f:Flat)(hf:ID f)(z:az)(hr:cD s a a' f):bF 52 [jC a c a' c' f,sv z] s (kb a a') (iv (H3 (f.dy z))):=by
 have pk:=gb.n hr;have nB:=hf.nl;refine aT f52 ?_;refine' cR
 refine W.bN (λk l L=>∃(i b2:Nat),Le [(1,sv z),(2,bg b2),(5,iv (i:Int))] l/\cC [.box b2 (ie a c f.ad a' c' f.ae) 26 false] L/\k=f.ad.length-i/\i<=f.ad.length/\f.dy z=((f.ad.drop i).findIdx? λx=>decide (x.af=z)).map (·+i))
  (λl L=>f.dy z=none) _ ⟨0,_,bj,ar,rfl,ag,by simp[Flat.dy]⟩ ?_ ?_
 .rintro k l L ⟨i,b2,hl,hL,rfl,h1,h2⟩;refine W.le ?_ hl hL;clear hl hL;by_cases hi:i<f.ad.length
  .rw[NW _ _ hi] at h2;refine' cR
   all_goals try refine cj
   .rw[show f.dy z=some i from h2.trans (if_pos (bY j8))];refine' ax;rfl
   .exact⟨_,ag,i+1,_,bj,ar,rfl,ag,h2.trans (if_neg (by rw[bQ];exact j8))⟩
  .have fF:i=f.ad.length:=by omega
   subst fF;rw[iI] at h2;refine' cR;(all_goals try refine cj);all_goals exact h2
 .rintro l L h1;refine aq ?_;refine W.le ?_ (Le.nil _) (cC.nil _);refine' cR
  rw[h1];refine' ax;rfl
theorem rE (s:St)(a:aM)(c:Nat)(a':aM)(c':Nat)(f:Flat)(hf:ID f)(z:Int)(hr:cD s a a' f):bF 54 [jC a c a' c' f,iv z] s (kb a a') (iv (H3 (f.cO z))):=by
 have ru:=gb.t hr;have pO:=hf.tl;refine aT f54 ?_;refine' cR
 refine W.bN (λk l L=>∃(i b2:Nat),Le [(1,iv z),(2,bg b2),(5,iv (i:Int))] l/\cC [.box b2 (ie a c f.ad a' c' f.ae) 26 false] L/\k=f.ae.length-i/\i<=f.ae.length/\f.cO z=((f.ae.drop i).findIdx? λx=>decide (x.id=z)).map (·+i))
  (λl L=>f.cO z=none) _ ⟨0,_,bj,ar,rfl,ag,by simp[Flat.cO]⟩ ?_ ?_
 .rintro k l L ⟨i,b2,hl,hL,rfl,h1,h2⟩;refine W.le ?_ hl hL;clear hl hL;by_cases hi:i<f.ae.length
  .rw[NW _ _ hi] at h2;refine' cR
   all_goals try refine cj
   .rw[show f.cO z=some i from h2.trans (if_pos (bY j8))];refine' ax;rfl
   .exact⟨_,ag,i+1,_,bj,ar,rfl,ag,h2.trans (if_neg (by rw[bQ];exact j8))⟩
  .have fF:i=f.ae.length:=by omega
   subst fF;rw[iI] at h2;refine' cR;(all_goals try refine cj);all_goals exact h2
 .rintro l L h1;refine aq ?_;refine W.le ?_ (Le.nil _) (cC.nil _);refine' cR
  rw[h1];refine' ax;rfl
theorem JG (s:St)(a:aM)(c:Nat)(a':aM)(c':Nat)(f:Flat)(hf:ID f)(z:Int)(hr:cD s a a' f):bF 55 [jC a c a' c' f,iv z] s (kb a a') (.bool (f.iu z)):=by
 have pk:=gb.n hr;have ru:=gb.t hr;have pO:=hf.tl;have kC:∀s,cD s a a' f->bF 54 [jC a c a' c' f,iv z] s (kb a a') (iv (H3 (f.cO z))):=λs hr=>rE s a c a' c' f hf z hr
 unfold Flat.iu;cases hz:f.cO z with
 |none=>
  rw[hz] at kC;have kC:∀s,cD s a a' f->bF 54 [jC a c a' c' f,iv z] s (kb a a') (iv (-1)):=kC;refine aT f55 ?_;refine' HI;all_goals try refine cj
  refine' ax;rfl
 |some k=>
  rw[hz] at kC;have kC:∀s,cD s a a' f->bF 54 [jC a c a' c' f,iv z] s (kb a a') (iv (k:Int)):=kC;have hk:k<f.ae.length:=(oO.1 hz).1;refine aT f55 ?_;refine' HI;all_goals try refine cj
  refine' ax;rfl
theorem Eg (s:St)(a:aM)(c:Nat)(a':aM)(c':Nat)(f:Flat)(hf:ID f)(z:Int)(hr:cD s a a' f):bF 94 [jC a c a' c' f,iv z] s (kb a a') (iv (f.many z)):=by
 have pk:=gb.n hr;have nB:=hf.nl;refine aT f94 ?_;refine' cR
 refine W.bN (λk l L=>∃(i n b2:Nat),Le [(1,iv z),(2,bg b2),(5,iv (n:Int)),(6,iv (i:Int))] l/\cC [.box b2 (ie a c f.ad a' c' f.ae) 26 false] L/\k=f.ad.length-i/\i<=f.ad.length/\n<=i/\f.many z=n+(f.ad.drop i).countP λx=>decide (x.id=z))
  (λl L=>Le [(5,iv (f.many z:Int))] l) _ ⟨0,0,_,bj,ar,rfl,ag,ag,by simp[Flat.many]⟩ ?_ ?_
 .rintro k l L ⟨i,n,b2,hl,hL,rfl,h1,h2,h3⟩;refine W.le ?_ hl hL;clear hl hL;by_cases hi:i<f.ad.length
  .rw[drop_cons hi,iH] at h3;refine' cR
   all_goals try refine cj
   .exact⟨_,ag,i+1,n+1,_,bj,ar,rfl,ag,ag,by rw[h3,if_pos (bY j8)];omega⟩
   .exact⟨_,ag,i+1,n,_,bj,ar,rfl,ag,ag,by rw[h3,if_neg (by rw[bQ];exact j8)];omega⟩
  .have fF:i=f.ad.length:=by omega
   subst fF;rw[iI,KU,xq] at h3;subst h3;refine' cR;(all_goals try refine cj);all_goals exact bj
 .rintro l L hl;refine aq ?_;refine W.le ?_ hl (cC.nil _);refine' cR
  refine' ax;rfl
theorem Mi (s:St)(z:az)(hz:z.length<=100000):bF 51 [sv z] s [] (.tuple ⟨[sv (aR z).1,sv (aR z).2]⟩):=by
 refine aT f51 ?_;refine' cR
 refine W.bN (λk l L=>∃(i n:Nat),Le [(0,sv z),(4,iv (n:Int)),(5,iv (i:Int))] l/\k=z.length-i/\i<=z.length/\n<=i/\(n=0\/n<z.length)/\tL z=tK i n (z.drop i))
  (λl L=>Le [(0,sv z),(4,iv (tL z:Int))] l/\(tL z=0\/tL z<z.length)) _ ⟨0,0,bj,rfl,ag,ag,.inl rfl,rfl⟩ ?_ ?_
 .rintro k l L ⟨i,n,hl,rfl,h1,h2,h4,h3⟩;refine W.le ?_ hl (cC.nil _);clear hl;by_cases hi:i<z.length
  .have hd:z.drop i=z.getD i 0::z.drop (i+1):=by
    rw[ui hi,aZ,bd hi];rfl
   rw[hd,tK] at h3;refine' cR;all_goals try refine cj
   .exact⟨_,ag,i+1,i,bj,rfl,ag,ag,.inr hi,by rw[h3,if_pos (JI.1 j8)]⟩
   .exact⟨_,ag,i+1,n,bj,rfl,ag,ag,h4,by rw[h3,if_neg (λh=>j8 (JI.2 h))]⟩
  .have fF:i=z.length:=by omega
   subst fF;rw[iI,tK] at h3;subst h3;refine' cR;(all_goals try refine cj);all_goals exact⟨bj,h4⟩
 .rintro l L ⟨hl,h4⟩;refine aq ?_;refine W.le ?_ hl (cC.nil _);clear hl;unfold aR;refine' cR
  all_goals try refine cj
  ·(refine' ax)
   rw[if_pos ag,show(min (1:Int) (z.length:Int)).toNat=min 1 z.length by omega];rfl
  ·(refine' ax)
   rw[if_neg ag];rfl
theorem s8 (z:az):(aR z).1.length<=z.length+1/\(aR z).2.length<=z.length:=by unfold aR;split<;>simp only[cY,lW,eW,cW]<;>omega
theorem XP (s:St)(a:aM)(c:Nat)(a':aM)(c':Nat)(f:Flat)(hf:ID f)(z:az)(hr:cD s a a' f):bF 56 [jC a c a' c' f,sv z] s (kb a a') (iv (f.nE z)):=by
 have pk:=gb.n hr;have nB:=hf.nl;refine aT f56 ?_;refine' cR
 refine W.bN (λk l L=>∃(i n b2:Nat),Le [(1,sv z),(2,bg b2),(5,iv (n:Int)),(6,iv (i:Int))] l/\cC [.box b2 (ie a c f.ad a' c' f.ae) 26 false] L/\k=f.ad.length-i/\(i<=f.ad.length\/i=1)/\1<=i/\n<=i/\f.nE z=n+(f.ad.drop i).countP λx=>decide ((aR x.af).1=z))
  (λl L=>Le [(5,iv (f.nE z:Int))] l) _ ⟨1,0,_,bj,ar,rfl,ag,ag,ag,by simp[Flat.nE]⟩ ?_ ?_
 .rintro k l L ⟨i,n,b2,hl,hL,rfl,h1,h0,h2,h3⟩;refine W.le ?_ hl hL;clear hl hL;by_cases hi:i<f.ad.length
  .have rS:=(hf.nm _ (aK hi ak.ah)).1;rw[drop_cons hi,iH] at h3;repeat' (first|refine' aW|refine' xb|refine' av|fail)
   all_goals try refine cj
   .exact⟨_,ag,i+1,n+1,_,bj,ar,rfl,ag,ag,ag,by rw[h3,if_pos (bY j8)];omega⟩
   .exact⟨_,ag,i+1,n,_,bj,ar,rfl,ag,ag,ag,by rw[h3,if_neg (by rw[bQ];exact j8)];omega⟩
  .rw[yE ag,KU,xq] at h3;subst h3;refine' cR
   (all_goals try refine cj);all_goals exact bj
 .rintro l L hl;refine aq ?_;refine W.le ?_ hl (cC.nil _);refine' cR
  refine' ax;rfl
abbrev dT:bP:=ak.ah (α:=bP)
abbrev dF:a7:=ak.ah (α:=a7)
theorem NX (f:Flat):f.kJ=true↔(1<=f.ae.length/\f.ae.length<=16)/\(f.ae.getD 0 dT).id=0/\(f.ae.getD 0 dT).aJ=true/\∀i,i<f.ae.length->f.tM i=true:=by
 unfold Flat.kJ fV;simp only[bO,bQ,gA,lX];constructor
 .rintro⟨⟨⟨h1,h2⟩,h3⟩,h4⟩;exact⟨ag,h2,h3,h4⟩
 .rintro⟨h1,h2,h3,h4⟩;exact⟨⟨⟨ag,h2⟩,h3⟩,h4⟩
theorem UW (f:Flat)(i:Nat):f.tM i= !(!fV (f.ae.getD i dT).id 0 15||(decide (0<i)&&decide ((f.ae.getD i dT).id<=(f.ae.getD (i-1) dT).id))||((f.ae.getD i dT).aJ&&decide ((f.ae.getD i dT).bq≠[]))||decide (192<(f.ae.getD i dT).bq.length)||!fV (f.many (f.ae.getD i dT).id) 1 (if(f.ae.getD i dT).aJ then 1 else 9)):=rfl
end Go.Pl
