/- Lemmas of the proof. No conditions. -/
import Derived.Test.YtoiielhpadnflaaGreatDoorAe6
set_option maxRecDepth 100000
set_option maxHeartbeats 4000000
set_option linter.unusedVariables false
set_option linter.unusedSimpArgs false
open Go.Proofs.Tryz
namespace Go.Pl
open Go Go.Ev Go.Lg Go.Proofs
variable {E:iq}{X:fY}{Γ:qN}{l:Kn}{L:dy}{K:KO}{g:FuncId}{xs:List Operand}{ts:Array TypeId}{vs:aY}{v:SA}{R Lm:dy}{a:aS}{c i:Nat}{k:IntKind}{u:Int}{code:aC}
structure sL (s:St)(a:aS)(code:aC):Prop where
 lt:∀b∈aj a,b<s.next
 row:0<code.length->∃b o ws,a=some ⟨b,o,none⟩/\s.heap.get b=some (.nW ws)/\∀i,i<code.length->∃p,Br ws (o+i)=some p/\p.2[o+i-p.1]?=some (bv (code.getD i aq.ah))
structure tR (Γ:qN)(a:aS)(code:aC):Prop where
 r0:sL Γ.s0 a code
 A:∀b∈aj a,b∈Γ.A
 M:∀b∈aj a,b∉Γ.M
abbrev Uu (n c:Nat):Prop:=n<=c/\c<dS
abbrev afE (a:aS)(code:aC)(a2:aS)(qH:aC):Prop:=a2=a/\∃k,qH=code.take k
section
variable {s:St}{x y:Operand}{t:TypeId}
theorem tR.of {A:List Nat}(h:sL s a code)(hA:∀b∈aj a,b∈A):tR ⟨s,([]:dy).flatMap It.cr,A⟩ a code:=⟨h,hA,λ_ _ h=>by cases h⟩
theorem tR.row (h:tR Γ a code)(hi:Inv Γ s L):sL s a code/\∀b∈aj a,Ca Γ s b:=by have hle:=hi.le;refine⟨⟨λb hb=>by have:=h.r0.lt b hb;omega,λh0=>?_⟩,λb hb=>⟨by have:=h.r0.lt b hb;omega,.inl (h.A b hb)⟩⟩;obtain⟨b,o,ws,rfl,h1,h2⟩:=h.r0.row h0;exact⟨b,o,ws,rfl,by rw[hi.fr b (h.r0.lt b (by simp[aj])) (h.M b (by simp[aj]))];exact h1,h2⟩
theorem tR.apart (h:tR Γ a code)(hi:Inv Γ s (Lm++R)):∀b∈aj a,b∉Lm.flatMap It.cr:=λb hb hm=>by
 obtain⟨x,hx,hxb⟩:=px.1 hm;have h2:=h.r0.lt b hb;rcases(hi.lt x (cA _ hx) b hxb).2 with h1|h1
 .omega
 .exact h.M b hb h1
theorem tR.sub {a2:aS}{qH:aC}(h:tR Γ a code)(hs:afE a code a2 qH):tR Γ a2 qH:=by obtain⟨rfl,k,rfl⟩:=hs;refine⟨⟨h.r0.lt,λh0=>?_⟩,h.A,h.M⟩;rw[cO] at h0;obtain⟨b,o,ws,h1,h2,h4⟩:=h.r0.row af;refine⟨b,o,ws,h1,h2,λi hi=>?_⟩;rw[cO] at hi;obtain⟨p,h5,h6⟩:=h4 i af;refine⟨p,h5,?_⟩;rw[h6,a7,a7,ID,if_pos af]
theorem WO.xI {e:Nat}[ht:pC E t e 1](hx:Ev l x (.slice a code.length c))(hy:Ev l y (.int k u))(hd:tR Γ a code)(hi:0<=u/\u<code.length)(hk:∀n,K (dh a u.toNat 1 0) L n n Z Z):WO E X Γ l (.indexAddr t x y) L K:=λtm s h1 h2=>by
 obtain⟨b,o,ws,rfl,_⟩:=hd.r0.row af;obtain⟨hu,z1,z2,hz,hz2,_⟩:=ht.h;have xy:=om hy hi.1;refine fy.pure (v:=dh (some ⟨b,o,none⟩) u.toNat 1 0) (s':=s) (λcall=>?_) ⟨L,Z,Z,h2,kX.id,hk _⟩;show n3 E s t (aO tm x) (aO tm y)=_;rw[hx.eval h1,xy.eval h1];unfold n3;rw[hu];show dN (Nat.ble (Nat.succ u.toNat) code.length) (ob (size E e) λsz=>aM (.pointer (some ⟨b,Nat.add o (Nat.mul u.toNat sz),none⟩)) s)=_;have hs:size E e=some 1:=by unfold size;rw[hz];simp[hz2]
 rw[gb af,hs];rfl
theorem WO.aim [ht:np E t](hx:Ev l x (dh a i 1 0))(hd:tR Γ a code)(hi:i<code.length)(k:∀n,K (bv (code.getD i aq.ah)) L n n (λi=>i∈aj a) Z):WO E X Γ l (.load t x) L K:=λtm s h1 h2=>by
 obtain⟨hr,hm⟩:=hd.row h2;obtain⟨b,o,ws,rfl,h3,h4⟩:=hr.row af;obtain⟨p,h5,h6⟩:=h4 i hi;have hb:=(hm b (by simp[aj]));refine fy.pure (v:=bv (code.getD i aq.ah)) (s':=s.aU b) (λcall=>?_) ⟨L,(λi=>i∈aj (some ⟨b,o,none⟩)),Z,h2.aU hb,cH hb.1 (by simp[aj]),by rw[bQ];exact k _⟩;show(Fv (aO tm x) λb o=>lM E s t b o)=_;rw[hx.eval h1];show lM E s t b (o+(i*1+0))=_;obtain⟨d,g1,g2⟩:=ht.h;unfold lM St.IH St.look;rw[h3];simp only[bu];show ob (Br ws (o+(i*1+0))) _=_;rw[show o+(i*1+0)=o+i by omega,h5];show ob (gX E t) _=_;rw[g1];show bo (xl d) _ _=_;rw[g2];show ob (jc p.2 (o+i-p.1)) _=_;rw[dO,h6];rfl
theorem WO.alR {e:Nat}{enc:aq UInt8 1}[ht:TT E t e 1 UInt8 enc](hx:Ev l x (.slice a code.length c))(ho:Ev l y (.int k u))(hd:tR Γ a code)(hv:Uu code.length c)(hj:0<u/\u<=(code.length:Int))
  (h:∀m c',K (.slice a (code.take u.toNat).length c') L m m Z Z):WO E X Γ l (.slice t x none (some y) none) L K:=λtm s hl hi=>by
 have hb:=Q9 (n:=code.length) ho ⟨af,hj.2⟩;obtain⟨b,o,ws,rfl,_⟩:=hd.r0.row af;obtain⟨z,hr,_⟩:=ht.h;obtain⟨hu,ii,z1,Kv,tp,_⟩:=hr.h;have iX:size E e=some 1:=by unfold size;rw[Kv];simp[tp]
 refine fy.pure (v:=.slice (some ⟨b,o,none⟩) (code.take u.toNat).length (c-0)) (s':=s) (λcall=>?_) ⟨L,Z,Z,hi,kX.id,h _ _⟩;show kH E s t (aO tm x) (dB (aO tm) none) (dB (aO tm) (some y)) none=_;rw[hx.eval hl];unfold kH;rw[hu];show(ob (size E e) λsz=>bo (Nat.ble dS c) _ (ob (eh sz (some ⟨b,o,none⟩) code.length c (dB (aO tm) none) (dB (aO tm) (some y)) none) λv=>aM v s))=_;rw[iX];show bo (Nat.ble dS c) _ (ob (eh 1 (some ⟨b,o,none⟩) code.length c (dB (aO tm) none) (dB (aO tm) (some y)) none) λv=>aM v s)=_;rw[show Nat.ble dS c=false from by rw[<-na,pe];have:=hv.2;omega];show ob (eh 1 (some ⟨b,o,none⟩) code.length c (dB (aO tm) none) (dB (aO tm) (some y)) none) (λv=>aM v s)=_;unfold eh;rw[pW hb hl hv.1];have hc:Nat.beq c 0=false:=by
  cases hc:Nat.beq c 0 with
  |false=>rfl
  |true=>have:=nV hc;have:=hv.1;omega
 show aM (.slice (bo (Nat.beq c 0) (some ⟨b,o,none⟩) (some ⟨b,o,none⟩)) (u.toNat-0) (c-0)) s=_;rw[hc,cO,yA af];rfl
theorem tR.lt (h:tR Γ a code):∀b∈aj a,b<Γ.s0.next:=h.r0.lt
end
variable {br p d:Nat}{Q:Value->Prop}
section
variable {x y:Operand}{t t2:TypeId}
theorem WO.alq {m n:Int}(hx:Ev l x (iv m))(hy:Ev l y (iv n))(hm:0<=m/\m<4611686018427387904)(hn:0<=n/\n<4611686018427387904)(h:∀i,K (iv ((m.toNat^^^ n.toNat:Nat):Int)) L i i Z Z):WO E X Γ l (.binOp .xor t x y t2) L K:=
 WO.xor (m:=m.toNat) (n:=n.toNat) (by rw[Bg hm.1];exact hx) (by rw[Bg hn.1];exact hy) af af h
abbrev oC (br:Nat)(a:aS)(n c p:Nat):It:=.box br [.slice a n c,iv (p:Int)] 65 false
abbrev Ih (E:iq)(X:fY)(g:FuncId)(vs:aY)(s:St)(br:Nat)(a:aS)(code:aC)(c p d:Nat)(Q:Value->Prop):Prop:=fA E X g vs s [oC br a code.length c p] (aj a) λR L=>∃p':Nat,p'<=p+d/\Q R/\L=[oC br a code.length c p']
theorem WO.Ry (hx:jY l xs vs)(hp:nM [oC br a code.length c p] L R)(hh:tR Γ a code)(h:∀s,sL s a code->(∀i∈aj a,i∉[oC br a code.length c p].flatMap It.cr)->Ih E X g vs s br a code c p d Q)(k:∀m m' p' r,p'<=p+d->Q r->iY L m->m<=m'->K r (oC br a code.length c p'::R) m m' (mV (aj a) [oC br a code.length c p] m m') (mW [oC br a code.length c p] m m')):WC E X Γ l g xs ts L K:=
 WO.call (Lm:=[oC br a code.length c p]) (R:=R) hx hp.cT (λs hi=>(hh.row (hi.cT hp.cT|>.sub ⟨R,.refl _,nN _ _⟩)).2) (λs hi=>h s (hh.row (hi.cT hp.cT|>.sub ⟨R,.refl _,nN _ _⟩)).1 (tR.apart hh (hi.cT hp.cT))) (by rintro r' L' m m' ho hm ⟨p',h1,h2,rfl⟩;exact k m m' p' r' h1 h2 ho hm)
theorem P2 {rs:List ResultVar}{x:Ex}{p':Nat}{ws:aY}(hx:x= .normal\/x= .ret)(hr:qO E l L rs ws)(hL:cx [oC br a code.length c p'] L)(hp:p'<=p+d)(hv:Q (gK ws)):
  wK E rs (λR L=>∃p':Nat,p'<=p+d/\Q R/\L=[oC br a code.length c p']) x l L:=⟨hx,ws,_,hr,hL,p',hp,hv,rfl⟩
end
def ai2 (n:Int)(R:Value):Prop:=∃k:Int,R=iv k/\0<=k/\(1<=n->k<n)
theorem zK {x n:Int}(hx:0<=x)(hn:0<n):0<=x.tmod n/\x.tmod n<n:=⟨Int.tmod_nonneg _ hx,Int.tmod_lt_of_pos _ hn⟩
theorem abn (s:St)(br:Nat)(a:aS)(code:aC)(c p:Nat)(n:Int)(hc:code.length<=2000)(hp:p<=100000)(hn: -100000<=n/\n<=100000)(hr:sL s a code)(hm:∀i∈aj a,i∉[oC br a code.length c p].flatMap It.cr):
  Ih bf bw 30 [bk br,iv n] s br a code c p 1 (ai2 n):=by
 have hd:tR ⟨s,[oC br a code.length c p].flatMap It.cr,aj a⟩ a code:=⟨hr,λb hb=>hb,hm⟩;dsimp only[Ih,oC] at *
 by_cases QS:n<1
 .refine aX f30 ?_;repeat' (first|refine' aZ|refine' X7|refine' X8|refine' av|fail)
  all_goals try exact pE
  exact P2 (p':=p+1) cy bY au (cC _) ⟨0,rfl,af,af⟩
 .by_cases hl:code.length=0
  .refine aX f30 ?_;repeat' (first|refine' aZ|refine' X7|refine' X8|refine' av|fail)
   (all_goals try exact pE);exact P2 (p':=p+1) cy bY au (cC _) ⟨0,rfl,af,af⟩
  .have hlp:0<(code.length:Int):=by omega
   have r1:=zK (x:=(p:Int)+1-1) (n:=code.length) af hlp;have r2:=zK (x:=((p:Int)+1-1)*7+3) (n:=code.length) af hlp;have b0:=(code.getD ((p:Int)+1-1).toNat aq.ah).toNat_lt;have b1:=(code.getD (((p:Int)+1-1).tmod code.length).toNat aq.ah).toNat_lt;have b2:=(code.getD ((((p:Int)+1-1)*7+3).tmod code.length).toNat aq.ah).toNat_lt;have q1:0<=((p:Int)+1-1).tdiv code.length:=Int.tdiv_nonneg af af;have q2:((p:Int)+1-1).tdiv code.length<=(p:Int)+1-1:=Int.tdiv_le_self _ af;have q3:0<=(((code.getD (((p:Int)+1-1).tmod code.length).toNat aq.ah).toNat:Int)*131+((code.getD ((((p:Int)+1-1)*7+3).tmod code.length).toNat aq.ah).toNat:Int)*1117+((p:Int)+1-1)*29+((p:Int)+1-1).tdiv code.length*53).tdiv 64/\(((code.getD (((p:Int)+1-1).tmod code.length).toNat aq.ah).toNat:Int)*131+((code.getD ((((p:Int)+1-1)*7+3).tmod code.length).toNat aq.ah).toNat:Int)*1117+((p:Int)+1-1)*29+((p:Int)+1-1).tdiv code.length*53).tdiv 64<=(((code.getD (((p:Int)+1-1).tmod code.length).toNat aq.ah).toNat:Int)*131+((code.getD ((((p:Int)+1-1)*7+3).tmod code.length).toNat aq.ah).toNat:Int)*1117+((p:Int)+1-1)*29+((p:Int)+1-1).tdiv code.length*53):=⟨Int.tdiv_nonneg af af,Int.tdiv_le_self _ af⟩;refine aX f30 ?_;(repeat' (first|refine' aZ|refine' X7|refine' X8|refine' av|fail));(all_goals try exact pE);all_goals exact P2 (p':=p+1) cy bY au (cC _) ⟨_,rfl,(zK af af).1,λ_=>(zK af af).2⟩
def A1:List aC:=[[],[97],[47,47],[47,97,47],[47,65],[47,97,47,98,47,99,47,97,47,98],[47,97,98,99,100,101],[47,97,47,47,98]]++[[47,97],[47,98],[47,97,47,98],[47,97,47,99],[47,98,47,97],[47,99],[47,97,47,98,47,99],[47,99,47,97],[47,97,98],[47]]
def pathIn (R:Value):Prop:=∃z:aC,R=sv z/\z∈A1
theorem abp (s:St)(br:Nat)(a:aS)(code:aC)(c p:Nat)(hc:code.length<=2000)(hp:p<=99000)(hr:sL s a code)(hm:∀i∈aj a,i∉[oC br a code.length c p].flatMap It.cr):
  Ih bf bw 31 [bk br] s br a code c p 2 pathIn:=by
 have hd:tR ⟨s,[oC br a code.length c p].flatMap It.cr,aj a⟩ a code:=⟨hr,λb hb=>hb,hm⟩;refine aX f31 ?_;repeat' (first|refine' aZ|refine' BJ|refine' av|fail)
 all_goals try exact pE
 .exact P2 (p':=nF) cy bY au af ⟨_,rfl,cA _ (aL (by simp only[cU,kC];omega) _)⟩
 .exact P2 (p':=nF) cy bY au af ⟨_,rfl,dt _ (aL (by simp only[cU,kC];omega) _)⟩
def ai3 (n:Int)(R:Value):Prop:=∃z:aC,R=sv z/\(z.length:Int)<=n
theorem abr (s:St)(br:Nat)(a:aS)(code:aC)(c p:Nat)(n:Int)(hc:code.length<=2000)(hp:p<=90000)(hn:0<=n/\n<=100)(hr:sL s a code)(hm:∀i∈aj a,i∉[oC br a code.length c p].flatMap It.cr):
  Ih bf bw 32 [bk br,iv n] s br a code c p 202 (ai3 n):=by
 have hd:tR ⟨s,[oC br a code.length c p].flatMap It.cr,aj a⟩ a code:=⟨hr,λb hb=>hb,hm⟩;refine aX f32 ?_;(repeat(first|refine' xX|refine' BJ|refine' av|fail))
 rename_i many vo _ _ _ _ _ _ _;obtain⟨kind,ai4⟩:∃k,k=Ez:=⟨_,rfl⟩;rw[<-ai4];refine W.bK (λk l L=>∃(q:aC)(a1:aS)(c1 p1:Nat),Le [(0,bk br),(6,iv many),(7,iv kind),(5,.slice a1 q.length c1)] l/\cx [oC br a code.length c p1,.aQ (.slice a1 q.length c1) 5 1 (ai q)] L/\k=(many-q.length).toNat/\(q.length:Int)<=many/\p1<=p+2+2*q.length)
                                                                                        (λl L=>∃(q:aC)(a1:aS)(c1 p1:Nat),Le [(5,.slice a1 q.length c1)] l/\cx [oC br a code.length c p1,.aQ (.slice a1 q.length c1) 5 1 (ai q)] L/\(q.length:Int)<=many/\p1<=p+2+2*q.length) _ ⟨[],_,_,nF,bp,au,rfl,by simp only[kC];omega,af⟩ ?_ ?_
 .rintro k l L ⟨q,a1,c1,p1,hl,hL,rfl,h1,h2⟩;refine W.le ?_ hl hL;clear hl hL;(repeat' (first|refine' aZ|refine' BJ|((with_reducible apply WO.lit (α:=UInt8) (xs:=[97,98,126,48,58,59,61]));exact zm;exact rfl;exact rfl;intro bl _)|refine' av|fail))
  all_goals try exact pE
  .refine⟨_,?_,q++[_],_,_,nF,bp,au,rfl,?_,?_⟩<;>first|omega|(simp only[bn,cU,kC];omega)
  .refine⟨_,?_,q++[_],_,_,nF,bp,au,rfl,?_,?_⟩<;>first|omega|(simp only[bn,cU,kC];omega)
  .refine W.bK (λk l L=>∃(q':aC)(a2:aS)(c2:Nat)(bb:UInt8)(j:Int),Le [(0,bk br),(6,iv many),(7,iv kind),(8,bv bb),(9,iv j),(5,.slice a2 q'.length c2)] l/\cx [oC br a code.length c nF,.aQ (.slice a2 q'.length c2) 5 1 (ai q')] L/\k=(j+1).toNat/\ -1<=j/\j<=100/\(q'.length:Int)<=many/\q.length<=q'.length/\(q'.length=q.length->0<=j))
    (λl L=>∃(q':aC)(a2:aS)(c2:Nat),Le [(0,bk br),(6,iv many),(7,iv kind),(5,.slice a2 q'.length c2)] l/\cx [oC br a code.length c nF,.aQ (.slice a2 q'.length c2) 5 1 (ai q')] L/\(q'.length:Int)<=many/\q.length<q'.length) _ ⟨q,a1,c1,_,_,bp,au,rfl,af,af,af,af,af⟩ ?_ ?_
   .rintro k l L ⟨q',a2,c2,bb,j,hl,hL,rfl,g1,g2,g3,g4,g5⟩;refine W.le ?_ hl hL;clear hl hL;refine' cM
    all_goals try exact pE
    .refine⟨_,?_,q'++[bb],_,_,bb,j-1,bp,au,rfl,?_,?_,?_,?_,?_⟩<;>first|omega|(simp only[bn,cU,kC];omega)
    all_goals exact⟨q',a2,c2,bp,au,g3,af⟩
   .rintro l L ⟨q',a2,c2,hl,hL,g3,g4⟩;refine fe (fe (gS ?_));exact⟨_,af,q',a2,c2,nF,hl,hL,rfl,g3,af⟩
  .refine⟨_,?_,q++[_],_,_,nF,bp,au,rfl,?_,?_⟩<;>first|omega|(simp only[bn,cU,kC];omega)
  .exact⟨q,a1,c1,p1,bp,au,h1,h2⟩
 .rintro l L ⟨q,a1,c1,p1,hl,hL,h1,h2⟩;refine ak ?_;refine W.le ?_ hl hL;clear hl hL;refine' cM
  exact P2 (p':=p1) cy bY au af ⟨q,rfl,af⟩
abbrev Y5 (E:iq)(X:fY)(g:FuncId)(vs:aY)(s:St)(Q:Value->Prop):Prop:=fA E X g vs s [] [] λR L=>Q R/\L=[]
theorem WO.ai5 (hx:jY l xs vs)(h:∀s,Y5 E X g vs s Q)(k:∀m m' r,Q r->iY L m->m<=m'->K r L m m' (mV [] [] m m') (mW [] m m')):WC E X Γ l g xs ts L K:=
 WO.call (Lm:=[]) (R:=L) (A:=[]) hx (.refl _) (λs hi b hb=>by cases hb) (λs _=>h s) (by rintro r L' m m' ho hm ⟨h1,rfl⟩;exact k m m' r h1 ho hm)
theorem Y6 (z n:Nat):z*n=z*(n% 2)+(z+z)*(n/ 2):=by
 have h:n=2*(n/ 2)+n% 2:=(Nat.div_add_mod n 2).symm;generalize n/ 2=m at *
 generalize n% 2=r at *
 subst h;rw[Nat.mul_add,<-Nat.mul_assoc,GA z 2,Nat.two_mul,Nat.add_comm]
theorem Uv (s:St)(z:aC)(n:Nat)(hz:z.length*n<=1000)(hzl:z.length<=1000)(hn:n<=1000):Y5 bf bw 104 [sv z,iv n] s (λR=>∃y:aC,R=sv y/\y.length=z.length*n):=by
 refine aX f104 ?_;(repeat(first|refine' xX|refine' av|fail))
 refine W.bK (λk l L=>∃(x y:aC)(m:Nat),Le [(0,sv x),(1,iv (m:Int)),(5,sv y)] l/\cx [] L/\k=m/\m<=1000/\(1<=m->x.length<=1000)/\y.length+x.length*m=z.length*n)
  (λl L=>∃(y:aC),Le [(5,sv y)] l/\cx [] L/\y.length=z.length*n) n ⟨z,[],n,bp,au,rfl,hn,λ_=>hzl,ay⟩ ?_ ?_
 .rintro k l L ⟨x,y,m,hl,hL,hk,h1,h2,h3⟩;subst k;refine W.le ?_ hl hL;clear hl hL;have h4:((m:Int).tmod 2)=((m% 2:Nat):Int):=rfl;have h5:((m:Int).tdiv 2)=((m/ 2:Nat):Int):=rfl;have h6:=Y6 x.length m;have h7:x.length<=x.length*m\/m=0:=by
   rcases xh m with h|h
   .exact .inr h
   .exact .inl (Vr _ h)
  have h8:1<=m/ 2->x.length+x.length<=(x.length+x.length)*(m/ 2):=λh=>Vr _ h
  have h9:m% 2=1->x.length*(m% 2)=x.length:=λh=>by rw[h,uz]
  have Fx:m% 2=0->x.length*(m% 2)=0:=λh=>by rw[h,Nat.mul_zero]
  have Z7:m=0->x.length*m=0:=λh=>by rw[h,Nat.mul_zero]
  refine' cM;all_goals try exact pE
  .refine⟨m/ 2,af,x++x,y++x,m/ 2,bp,au,rfl,af,?_,?_⟩<;>(simp only[bn];omega)
  .refine⟨m/ 2,af,x++x,y,m/ 2,bp,au,rfl,af,?_,?_⟩<;>(simp only[bn];omega)
  .exact⟨y,bp,au,af⟩
 .rintro l L ⟨y,hl,hL,h1⟩;refine ak ?_;refine W.le ?_ hl hL;refine' cM
  exact⟨.inr rfl,_,[],bY,cx.nil _,⟨y,rfl,h1⟩,rfl⟩
structure OpD (o:Op):Prop where
 ag:o.ag∈A1
 to:o.to∈A1
 a8:o.a8.length<=25
 at_: -1<=o.at_/\o.at_<=193
 kind: -1<=o.kind/\o.kind<=8
def alS (R:Value):Prop:=∃o:Op,R=ov o/\OpD o
theorem Y7:([]:aC)∈A1:=ga
theorem Y8 {l:List Int}{lo hi:Int}{i:Nat}{d:Int}(h:∀x∈l,lo<=x/\x<=hi)(fb:i<l.length):lo<=l.getD i d/\l.getD i d<=hi:=h _ (aL fb d)
theorem ai6 (s:St)(br:Nat)(a:aS)(code:aC)(c p:Nat)(hc:code.length<=2000)(hp:p<=80000)(hr:sL s a code)(hm:∀i∈aj a,i∉[oC br a code.length c p].flatMap It.cr):
  Ih bf bw 62 [bk br] s br a code c p 220 alS:=by
 have hd:tR ⟨s,[oC br a code.length c p].flatMap It.cr,aj a⟩ a code:=⟨hr,λb hb=>hb,hm⟩;have vo:∀(k:Int),0<=k/\k<2->∀s,Y5 bf bw 104 [sv [117],iv (24+k)] s (λR=>∃y:aC,R=sv y/\y.length<=25):=λk hk s=>by
  have:=Uv s [117] (24+k).toNat (by simp only[cU,kC];omega) ay af;rw[Bg af] at this;refine this.mono ?_;rintro R L ⟨⟨y,rfl,h⟩,rfl⟩;exact⟨⟨y,rfl,by rw[h];simp only[cU,kC];omega⟩,rfl⟩
 refine aX f62 ?_;(repeat' (first|refine' aZ|refine' adf|refine' adg|refine' BJ|((with_reducible apply WO.ai5);exact aD;(intro s;exact vo _ af s);intro _ _ alT abS _ _;obtain⟨alU,rfl,alV⟩:=abS)|refine' av|fail));all_goals try exact pE
 all_goals refine P2 cy bY au af ⟨⟨_,_,_,_,_⟩,rfl,⟨?_,?_,?_,?_,?_⟩⟩
 all_goals first|assumption|exact Y7|omega|exact Y8 bT (by simp only[cU,kC];omega)|(simp;done)|(dsimp only;omega)
theorem JY (same:Bool):dv 100 (bV same):=
 ⟨by simp[bV],by simp[bV],by simp[bV],λx hx=>by simp[bV] at hx;rw[hx];simp,λx hx=>by simp[bV] at hx;omega,by simp[bV],by simp[bV],by simp[bV],by simp[bV],λp hp=>by simp[bV] at hp⟩
theorem Ng (same:Bool):dv 130 (nj same).1/\dZ (nj same).2:=by have h:=nG (k:=0) (z:=gf ⟨2,1,0,eY⟩) (JY same) (t:=eY) ⟨rfl,bT,bT⟩ af (by have:=x9 ⟨2,1,0,eY⟩;omega);exact⟨h.1,h.2.1⟩
theorem Nh:∀(l:c9)(st:ar)(i:Nat),(l.foldl (λst p=>drop st p.row) st).bd.getD i 0<=st.bd.getD i 0
 |[],_,_=>yD _
 |p::l,st,i=>by
  rw[Ah];refine Int.le_trans (Nh l _ i) ?_;show(st.bd.set p.row.toNat (st.bd.getD p.row.toNat 0-1)).getD i 0<=_;rw[a7,a7,List.getElem?_set];by_cases h:p.row.toNat=i
  .subst h;rw[if_pos rfl];split
   .simp only[qd,a7];omega
   .rename_i hl;simp[a7,qP (show st.bd.length<=p.row.toNat by omega)]
  .rw[if_neg h];exact yD _
theorem Ii:∀(l:c9)(st:ar)(n:Nat),dv n st->dv (n+l.length) (l.foldl (λst p=>drop st p.row) st)
 |[],_,_,h=>h
 |p::l,st,n,h=>by
  rw[Ah,cU];have:=Ii l _ _ (h.drop (row:=p.row))
  rwa [show n+1+l.length=n+(l.length+1) by omega] at this
end Go.Pl
