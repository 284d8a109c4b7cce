/- Lemmas of the proof. No conditions. -/
import Derived.Test.YtnealhiolaklpaaGreatDoorAe2
set_option maxRecDepth 100000
set_option maxHeartbeats 4000000
set_option linter.all false
open Bool renaming false->U,true->J
open Option renaming none->O,some->C
open List renaming length->Y
open Go.Value renaming slice->H,bool->M,int->I
open Go.Proofs.Tryz
open Nat (beq ble mul)
open Go.Result (andThen_ok)
open Go.Sem (run_bind)
open Go.Region (binds)
open List (replicate)
open Int (toNat)
open Go.Builtin (firstCells)
open Go.Instr (checkKey)
namespace Go.Pl
open Go Go.Ev Go.Lg Go.Proofs
variable {E:hJ}{X:fb}{Γ:ng}{l:Kn}{L:cq}{K:KO}{g:FuncId}{xs:List Operand}{ts:Array TypeId}{vs:aV}{v:SA}{b:Nat}{s:St}{R Lm:cq}{x y:Operand}{a:aP}{c i:Nat}{k:IntKind}{u:Int}{code:aw}
structure oO (s:St)(a:aP)(code:aw):Prop where
 lt:∀b∈ah a,b<s.next
 row:0<code.length->∃b o ws,a=some ⟨b,o,none⟩/\s.heap.get b=some (.mX ws)/\∀i,i<code.length->∃p,Au ws (o+i)=some p/\p.2[o+i-p.1]?=some (bv (code.getD i au.ad))
structure qI (Γ:ng)(a:aP)(code:aw):Prop where
 r0:oO Γ.s0 a code
 A:∀b∈ah a,b∈Γ.A
 M:∀b∈ah a,b∉Γ.M
abbrev UX (n c:Nat):Prop:=n<=c/\c<cl
abbrev ael (a:aP)(code:aw)(a2:aP)(d:aw):Prop:=a2=a/\∃k,d=code.take k
section
variable {t:TypeId}
def qI.of {A:List Nat}(h:oO s a code)(d:∀b∈ah a,b∈A):qI ⟨s,([]:cq).flatMap It.bC,A⟩ a code:=⟨h,d,λ_ _ h=>by cases h⟩
def qI.row (h:qI Γ a code)(hi:Inv Γ s L):oO s a code/\∀b∈ah a,qW Γ s b:=by have hle:=hi.le;refine⟨⟨λb hb=>by have:=h.r0.lt b hb;omega,λh0=>?_⟩,λb hb=>⟨by have:=h.r0.lt b hb;omega,.inl (h.A b hb)⟩⟩;obtain⟨b,o,ws,rfl,d,e⟩:=h.r0.row h0;exact⟨b,o,ws,rfl,by rw[hi.fr b (h.r0.lt b (by simp[ah])) (h.M b (by simp[ah]))];exact d,e⟩
def qI.apart (h:qI Γ a code)(hi:Inv Γ s (Lm++R)):∀b∈ah a,b∉Lm.flatMap It.bC:=λb hb hm=>by obtain⟨x,j,d⟩:=kZ.1 hm;have m:=h.r0.lt b hb;rcases(hi.lt x (im _ j) b d).2 with e|e;omega;exact h.M b hb e
def qI.sub {a2:aP}{d:aw}(h:qI Γ a code)(hs:ael a code a2 d):qI Γ a2 d:=by obtain⟨rfl,k,rfl⟩:=hs;refine⟨⟨h.r0.lt,λh0=>?_⟩,h.A,h.M⟩;rw[de] at h0;obtain⟨b,o,ws,e,j,m⟩:=h.r0.row aa;refine⟨b,o,ws,e,j,λi hi=>?_⟩;rw[de] at hi;obtain⟨p,n,q⟩:=m i aa;refine⟨p,n,?_⟩;rw[q,eX,eX,xI,ai aa]
def qY {e:Nat}[ht:ky E t e 1](w:Ev l x (H a (Y code) c))(z:Ev l y (I k u))(hd:qI Γ a code)(hi:0<=u/\u<Y code)(r:∀n,K (fY a u.toNat 1 0) L n n Z Z):WO E X Γ l (.indexAddr t x y) L K:=λp s m q=>by
 obtain⟨b,o,ws,rfl,_⟩:=hd.r0.row aa;obtain⟨hu,B,D,A,j,_⟩:=ht.h;have d:=nX z hi.1;refine eM.pure (v:=fY (C ⟨b,o,O⟩) u.toNat 1 0) (s':=s) (λcall=>?_) ⟨L,Z,Z,q,iS.id,r _⟩;show hS E s t (aM p x) (aM p y)=_;rw[w.eval m,d.eval m];unfold hS;rw[hu];show dq (ble (Nat.succ u.toNat) (Y code)) (ob (size E e) λsz=>aD (.pointer (C ⟨b,Nat.add o (mul u.toNat sz),O⟩)) s)=_;have hs:size E e=C 1:=by unfold size;rw[A];simp[j]
 rw[dQ aa,hs];rfl
def X8 [ht:j7 E t](A:Ev l x (fY a i 1 0))(hd:qI Γ a code)(hi:i<Y code)(k:∀n,K (bv (code.getD i au.ad)) L n n (λi=>i∈ah a) Z):WO E X Γ l (.load t x) L K:=λB s m e=>by obtain⟨hr,hm⟩:=hd.row e;obtain⟨b,o,ws,rfl,q,r⟩:=hr.row aa;obtain⟨p,w,z⟩:=r i hi;have hb:=(hm b (by simp[ah]));refine eM.pure (v:=bv (code.getD i au.ad)) (s':=s.aL b) (λcall=>?_) ⟨L,(λi=>i∈ah (C ⟨b,o,O⟩)),Z,e.aL hb,cH hb.1 (by simp[ah]),by rw[bh];exact k _⟩;show tU E s t (aM B x)=_;rw[A.eval m];show tc E s t b (o+(i*1+0))=_;obtain⟨d,j,g2⟩:=ht.h;unfold tc St.KY St.look;rw[q];simp only[bF];show ob (Au ws (o+(i*1+0))) _=_;rw[show o+(i*1+0)=o+i by omega,w];show ob (iE E t) _=_;rw[j];show bo (wz d) _ _=_;rw[g2];show ob (jH p.2 (o+i-p.1)) _=_;rw[ec,z];rfl
def abz {e:Nat}{enc:au UInt8 1}[ht:TT E t e 1 UInt8 enc](A:Ev l x (H a (Y code) c))(w:Ev l y (I k u))(hd:qI Γ a code)(hv:UX (Y code) c)(r:0<u/\u<=(Y code:Int))
  (h:∀m c',K (H a (Y (code.take u.toNat)) c') L m m Z Z):WO E X Γ l (.slice t x O (C y) O) L K:=λd s hl hi=>by
 have hb:=RV (n:=Y code) w ⟨aa,r.2⟩;obtain⟨b,o,ws,rfl,_⟩:=hd.r0.row aa;obtain⟨z,hr,_⟩:=ht.h;obtain⟨hu,ii,B,j,p,_⟩:=hr.h;have q:size E e=C 1:=by unfold size;rw[j];simp[p]
 refine eM.pure (v:=H (C ⟨b,o,O⟩) (Y (code.take u.toNat)) (c-0)) (s':=s) (λcall=>?_) ⟨L,Z,Z,hi,iS.id,h _ _⟩;show fX E s t (aM d x) (dN (aM d) O) (dN (aM d) (C y)) O=_;rw[A.eval hl];unfold fX;rw[hu];show(ob (size E e) λsz=>bo (ble cl c) _ (ob (cQ sz (C ⟨b,o,O⟩) (Y code) c (dN (aM d) O) (dN (aM d) (C y)) O) λv=>aD v s))=_;rw[q];show bo (ble cl c) _ (ob (cQ 1 (C ⟨b,o,O⟩) (Y code) c (dN (aM d) O) (dN (aM d) (C y)) O) λv=>aD v s)=_;rw[show ble cl c=U from by rw[<-tK,mm];have:=hv.2;omega];show ob (cQ 1 (C ⟨b,o,O⟩) (Y code) c (dN (aM d) O) (dN (aM d) (C y)) O) (λv=>aD v s)=_;unfold cQ;rw[rJ hb hl hv.1];have hc:beq c 0=U:=by
  cases hc:beq c 0 with
  |false=>rfl
  |true=>have:=nN hc;have:=hv.1;omega
 show aD (H (bo (beq c 0) (C ⟨b,o,O⟩) (C ⟨b,o,O⟩)) (u.toNat-0) (c-0)) s=_;rw[hc,de,tH aa];rfl
def qI.lt (h:qI Γ a code):∀b∈ah a,b<Γ.s0.next:=h.r0.lt
end
variable {br p d:Nat}{Q:Value->Prop}
section
variable {t t2:TypeId}
def aa7 {m n:Int}(e:Ev l x (iv m))(j:Ev l y (iv n))(hm:0<=m/\m<4611686018427387904)(hn:0<=n/\n<4611686018427387904)(h:∀i,K (iv ((m.toNat^^^ n.toNat:Nat):Int)) L i i Z Z):WO E X Γ l (.binOp .xor t x y t2) L K:=
 Xr (m:=m.toNat) (n:=n.toNat) (by rw[Ar hm.1];exact e) (by rwa[Ar hn.1]) aa aa h
abbrev iY (br:Nat)(a:aP)(n c p:Nat):It:=.box br [H a n c,iv (p:Int)] 84 U
abbrev wc (E:hJ)(X:fb)(g:FuncId)(vs:aV)(s:St)(br:Nat)(a:aP)(code:aw)(c p d:Nat)(Q:Value->Prop):Prop:=eJ E X g vs s [iY br a (Y code) c p] (ah a) λR L=>∃e:Nat,e<=p+d/\Q R/\L=[iY br a (Y code) c e]
def kV (z:iu l xs vs)(j:l3 [iY br a (Y code) c p] L R)(n:qI Γ a code)(h:∀s,oO s a code->(∀i∈ah a,i∉[iY br a (Y code) c p].flatMap It.bC)->wc E X g vs s br a code c p d Q)(k:∀m e p' r,p'<=p+d->Q r->gk L m->m<=e->K r (iY br a (Y code) c p'::R) m e (iI (ah a) [iY br a (Y code) c p] m e) (iJ [iY br a (Y code) c p] m e)):WC E X Γ l g xs ts L K:=
 cI (Lm:=[iY br a (Y code) c p]) (R:=R) z j.bX (λs hi=>(n.row (hi.bX j.bX|>.sub ⟨R,.refl _,o7 _ _⟩)).2) (λs hi=>h s (n.row (hi.bX j.bX|>.sub ⟨R,.refl _,o7 _ _⟩)).1 (qI.apart n (hi.bX j.bX))) (by rintro A L' m e w hm ⟨p',o,q,rfl⟩;exact k m e p' A o q w hm)
def Ej {rs:List ResultVar}{x:Ex}{p':Nat}{ws:aV}(j:x= .normal\/x= .ret)(hr:AE E l L rs ws)(e:cb [iY br a (Y code) c p'] L)(h:p'<=p+d)(hv:Q (fj ws)):
  zt E rs (λR L=>∃p':Nat,p'<=p+d/\Q R/\L=[iY br a (Y code) c p']) x l L:=⟨j,ws,_,hr,e,p',h,hv,rfl⟩
end
def YQ (n:Int)(R:Value):Prop:=∃k:Int,R=iv k/\0<=k/\(1<=n->k<n)
def yP {x n:Int}(e:0<=x)(hn:0<n):0<=x.tmod n/\x.tmod n<n:=⟨Int.tmod_nonneg _ e,Int.tmod_lt_of_pos _ hn⟩
def JO (s:St)(br:Nat)(a:aP)(code:aw)(c p:Nat)(n:Int)(hc:Y code<=2000)(t:p<=100000)(hn: -100000<=n/\n<=100000)(hr:oO s a code)(hm:∀i∈ah a,i∉[iY br a (Y code) c p].flatMap It.bC):
  wc aZ aW 27 [bk br,iv n] s br a code c p 1 (YQ n):=by
 have hd:qI ⟨s,[iY br a (Y code) c p].flatMap It.bC,ah a⟩ a code:=⟨hr,λb hb=>hb,hm⟩;dsimp only[wc,iY] at *
 by_cases j:n<1
 .refine a8 f27 ?_;repeat' first|refine' X6|refine' X7|refine' zK|fail
  exact Ej (p':=p+1) bK bH ak (fG _) ⟨0,rfl,aa,aa⟩
 by_cases hl:Y code=0
 .refine a8 f27 ?_;repeat' first|refine' X6|refine' X7|refine' zK|fail
  exact Ej (p':=p+1) bK bH ak (fG _) ⟨0,rfl,aa,aa⟩
 have e:0<(Y code:Int):=by omega
 have B:=yP (x:=(p:Int)+1-1) (n:=Y code) aa e;have D:=yP (x:=((p:Int)+1-1)*7+3) (n:=Y code) aa e;have m:=(code.getD ((p:Int)+1-1).toNat au.ad).toNat_lt;have o:=(code.getD (((p:Int)+1-1).tmod (Y code)).toNat au.ad).toNat_lt;have r:=(code.getD ((((p:Int)+1-1)*7+3).tmod (Y code)).toNat au.ad).toNat_lt;have w:0<=((p:Int)+1-1).tdiv (Y code):=Int.tdiv_nonneg aa aa;have z:((p:Int)+1-1).tdiv (Y code)<=(p:Int)+1-1:=Int.tdiv_le_self _ aa;have A:0<=(((code.getD (((p:Int)+1-1).tmod (Y code)).toNat au.ad).toNat:Int)*131+((code.getD ((((p:Int)+1-1)*7+3).tmod (Y code)).toNat au.ad).toNat:Int)*1117+((p:Int)+1-1)*29+((p:Int)+1-1).tdiv (Y code)*53).tdiv 64/\(((code.getD (((p:Int)+1-1).tmod (Y code)).toNat au.ad).toNat:Int)*131+((code.getD ((((p:Int)+1-1)*7+3).tmod (Y code)).toNat au.ad).toNat:Int)*1117+((p:Int)+1-1)*29+((p:Int)+1-1).tdiv (Y code)*53).tdiv 64<=(((code.getD (((p:Int)+1-1).tmod (Y code)).toNat au.ad).toNat:Int)*131+((code.getD ((((p:Int)+1-1)*7+3).tmod (Y code)).toNat au.ad).toNat:Int)*1117+((p:Int)+1-1)*29+((p:Int)+1-1).tdiv (Y code)*53):=⟨Int.tdiv_nonneg aa aa,Int.tdiv_le_self _ aa⟩;refine a8 f27 ?_;(repeat' first|refine' X6|refine' X7|refine' zK|fail);all_goals exact Ej (p':=p+1) bK bH ak (fG _) ⟨_,rfl,(yP aa aa).1,λ_=>(yP aa aa).2⟩
def Ek:List aw:=[[],[97],[47,47],[47,97,47],[47,65],[47,97,47,98,47,99,47,97,47,98],[47,97,98,99,100,101],[47,97,47,47,98]]++[[47,97],[47,98],[47,97,47,98],[47,97,47,99],[47,98,47,97],[47,99],[47,97,47,98,47,99],[47,99,47,97],[47,97,98],[47]]
def pathIn (R:Value):Prop:=∃z:aw,R=sv z/\z∈Ek
def abe (s:St)(br:Nat)(a:aP)(code:aw)(c p:Nat)(hc:Y code<=2000)(e:p<=99000)(hr:oO s a code)(hm:∀i∈ah a,i∉[iY br a (Y code) c p].flatMap It.bC):
  wc aZ aW 120 [bk br] s br a code c p 2 pathIn:=by
 have hd:qI ⟨s,[iY br a (Y code) c p].flatMap It.bC,ah a⟩ a code:=⟨hr,λb hb=>hb,hm⟩;refine a8 f120 ?_;repeat' first|refine' tn|refine' zK|fail
 exact Ej (p':=ek) bK bH ak aa ⟨_,rfl,im _ (a7 (by simp only[fS,jm];omega) _)⟩;exact Ej (p':=ek) bK bH ak aa ⟨_,rfl,dt _ (a7 (by simp only[fS,jm];omega) _)⟩
def agz (n:Int)(R:Value):Prop:=∃z:aw,R=sv z/\(Y z:Int)<=n
def BS (s:St)(br:Nat)(a:aP)(code:aw)(c p:Nat)(n:Int)(hc:Y code<=2000)(Z:p<=90000)(hn:0<=n/\n<=100)(hr:oO s a code)(hm:∀i∈ah a,i∉[iY br a (Y code) c p].flatMap It.bC):
  wc aZ aW 30 [bk br,iv n] s br a code c p 202 (agz n):=by
 have hd:qI ⟨s,[iY br a (Y code) c p].flatMap It.bC,ah a⟩ a code:=⟨hr,λb hb=>hb,hm⟩;refine a8 f30 ?_;(repeat(first|refine' v7|refine' tn|refine' gL|fail));rename_i many F _ _ _ _ _ _ _;obtain⟨kind,z⟩:∃k,k=oa:=⟨_,rfl⟩;rw[<-z];refine W.bu (λk l L=>∃(q:aw)(m:aP)(r w:Nat),Le [(0,bk br),(6,iv many),(7,iv kind),(5,H m (Y q) r)] l/\cb [iY br a (Y code) c w,.aU (H m (Y q) r) 5 1 (ab q)] L/\k=(many-Y q).toNat/\(Y q:Int)<=many/\w<=p+2+2*Y q)
                                                                                        (λl L=>∃(q:aw)(m:aP)(r w:Nat),Le [(5,H m (Y q) r)] l/\cb [iY br a (Y code) c w,.aU (H m (Y q) r) 5 1 (ab q)] L/\(Y q:Int)<=many/\w<=p+2+2*Y q) _ ⟨[],_,_,ek,bd,ak,rfl,by simp only[jm];omega,aa⟩ ?_ ?_
 .rintro k l L ⟨q,m,r,w,hl,B,rfl,G,N⟩;refine' cP;(repeat' first|refine' tn|((with_reducible apply gb (α:=UInt8) (xs:=[97,98,126,48,58,59,61]));exact nI;exact rfl;exact rfl;intro bl _)|refine' zK|fail);refine⟨_,?_,q++[_],_,_,ek,bd,ak,rfl,?_,?_⟩<;>first|omega|(simp only[dB,fS,jm];omega)
  refine⟨_,?_,q++[_],_,_,ek,bd,ak,rfl,?_,?_⟩<;>first|omega|(simp only[dB,fS,jm];omega)
  refine W.bu (λk l L=>∃(e:aw)(o:aP)(t:Nat)(A:UInt8)(j:Int),Le [(0,bk br),(6,iv many),(7,iv kind),(8,bv A),(9,iv j),(5,H o (Y e) t)] l/\cb [iY br a (Y code) c ek,.aU (H o (Y e) t) 5 1 (ab e)] L/\k=(j+1).toNat/\ -1<=j/\j<=100/\(Y e:Int)<=many/\Y q<=Y e/\(Y e=Y q->0<=j))
   (λl L=>∃(e:aw)(o:aP)(t:Nat),Le [(0,bk br),(6,iv many),(7,iv kind),(5,H o (Y e) t)] l/\cb [iY br a (Y code) c ek,.aU (H o (Y e) t) 5 1 (ab e)] L/\(Y e:Int)<=many/\Y q<Y e) _ ⟨q,m,r,_,_,bd,ak,rfl,aa,aa,aa,aa,aa⟩ ?_ ?_
  .rintro k l L ⟨e,o,t,A,j,hl,B,rfl,T,g2,D,S,V⟩;refine' cP;refine' OP;(refine⟨_,?_,e++[A],_,_,A,j-1,bd,ak,rfl,?_,?_,?_,?_,?_⟩<;>first|omega|(simp only[dB,fS,jm];omega));all_goals exact⟨e,o,t,bd,ak,D,aa⟩
  rintro l L ⟨e,o,t,hl,B,D,S⟩;refine eZ (eZ (gG ?_));exact⟨_,aa,e,o,t,ek,hl,B,rfl,D,aa⟩;refine⟨_,?_,q++[_],_,_,ek,bd,ak,rfl,?_,?_⟩<;>first|omega|(simp only[dB,fS,jm];omega)
  exact⟨q,m,r,w,bd,ak,G,N⟩
 rintro l L ⟨q,m,r,w,hl,B,G,N⟩;refine' gh;refine' eR;exact Ej (p':=w) bK bH ak aa ⟨q,rfl,aa⟩
abbrev YR (E:hJ)(X:fb)(g:FuncId)(vs:aV)(s:St)(Q:Value->Prop):Prop:=eJ E X g vs s [] [] λR L=>Q R/\L=[]
def YS (o:iu l xs vs)(h:∀s,YR E X g vs s Q)(k:∀m e r,Q r->gk L m->m<=e->K r L m e (iI [] [] m e) (iJ [] m e)):WC E X Γ l g xs ts L K:=
 cI (Lm:=[]) (R:=L) (A:=[]) o (.refl _) (λs hi b hb=>by cases hb) (λs _=>h s) (by rintro r L' m e n hm ⟨j,rfl⟩;exact k m e r j n hm)
def YT (z n:Nat):z*n=z*(n% 2)+(z+z)*(n/ 2):=by
 have h:n=2*(n/ 2)+n% 2:=(Nat.div_add_mod n 2).symm;generalize n/ 2=m at *
 generalize n% 2=r at *
 subst h;rw[Nat.mul_add,<-GG,GH z 2,Nat.two_mul,Cb]
def UY (s:St)(z:aw)(n:Nat)(V:Y z*n<=1000)(e:Y z<=1000)(hn:n<=1000):YR aZ aW 121 [sv z,iv n] s (λR=>∃y:aw,R=sv y/\Y y=Y z*n):=by
 refine a8 f121 ?_;(repeat(first|refine' v7|refine' gL|fail));refine W.bu (λk l L=>∃(x y:aw)(m:Nat),Le [(0,sv x),(1,iv (m:Int)),(5,sv y)] l/\cb [] L/\k=m/\m<=1000/\(1<=m->Y x<=1000)/\Y y+Y x*m=Y z*n)
  (λl L=>∃(y:aw),Le [(5,sv y)] l/\cb [] L/\Y y=Y z*n) n ⟨z,[],n,bd,ak,rfl,hn,λ_=>e,aq⟩ ?_ ?_
 rintro k l L ⟨x,y,m,hl,o,T,j,w,A⟩;subst k;refine' cP;have B:((m:Int).tmod 2)=((m% 2:Nat):Int):=rfl;have D:((m:Int).tdiv 2)=((m/ 2:Nat):Int):=rfl;have F:=YT (Y x) m;have G:Y x<=Y x*m\/m=0:=by obtain h|h:=tG m;exact .inr h;exact .inl (Gv _ h)
 have N:1<=m/ 2->Y x+Y x<=(Y x+Y x)*(m/ 2):=λh=>Gv _ h;have S:m% 2=1->Y x*(m% 2)=Y x:=λh=>by rw[h,sh]
 have r:m% 2=0->Y x*(m% 2)=0:=λh=>by rw[h,Nat.mul_zero]
 have t:m=0->Y x*m=0:=λh=>by rw[h,Nat.mul_zero]
 refine' OP;refine⟨m/ 2,aa,x++x,y++x,m/ 2,bd,ak,rfl,aa,?_,?_⟩<;>(simp only[dB];omega);refine⟨m/ 2,aa,x++x,y,m/ 2,bd,ak,rfl,aa,?_,?_⟩<;>(simp only[dB];omega);exact⟨y,bd,ak,aa⟩;rintro l L ⟨y,hl,o,j⟩;refine aJ ?_;refine W.le ?_ hl o;refine' eR;exact⟨.inr rfl,_,[],bH,cb.nil _,⟨y,rfl,j⟩,rfl⟩
structure OpD (o:Op):Prop where
 ar:o.ar∈Ek
 dF:o.dF∈Ek
 b0:o.b0.length<=25
 bD: -1<=o.bD/\o.bD<=193
 kind: -1<=o.kind/\o.kind<=8
def aiM (R:Value):Prop:=∃o:Op,R=ov o/\OpD o
def YU:([]:aw)∈Ek:=ed
def YV {l:List Int}{lo hi:Int}{i:Nat}{d:Int}(h:∀x∈l,lo<=x/\x<=hi)(e:i<Y l):lo<=l.getD i d/\l.getD i d<=hi:=h _ (a7 e d)
end Go.Pl
