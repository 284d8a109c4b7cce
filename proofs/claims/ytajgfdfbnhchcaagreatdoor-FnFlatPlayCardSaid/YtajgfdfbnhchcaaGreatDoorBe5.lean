/- Lemmas of the proof. No conditions. -/
import Derived.Test.YtajgfdfbnhchcaaGreatDoorBe4
set_option maxRecDepth 100000
set_option maxHeartbeats 4000000
set_option linter.unusedVariables false
set_option linter.unusedSimpArgs false
open Go.Proofs.Tryz
namespace Go.Pl
open Go Go.Ev Go.Lg Go.Proofs
variable {E:ig}{X:fR}{Γ:qV}{l:Kn}{L:bZ}{K:KO}{g:FuncId}{xs:List Operand}{ts:Array TypeId}{vs:a6}{v:SA}
theorem Zs {o:Op}(h:ik o=true):(1<=o.kind/\o.kind<=7)/\o.bq.length<=24:=by
 refine' zar;rw[e] at h;simp only at h;split at h
 .cases h
 .rename_i h1;split at h
  .cases h
  .rename_i h2;simp only[fV,mf,bO,bQ,qi,not_or] at h1 h2;refine⟨?_,ag⟩;have:=h1.1.1.1;simpa using this
theorem NU (s:St)(v:SA)(st:au)(t:cB)(h:dA 38000 st)(ht:ek t)(pr:Pg.FS st t)(o:Op)(ho:ik o=true)(hz:o.af.length<=3000)(hzt:o.to.length<=3000):
  eV bh bw 76 [fK v st,tv t,ov o] s [] v st (fb st t o).1 true (doV (fb st t o).2.1 (fb st t o).2.2):=by
 have tz:dA 100000 st:=h.mono ag;obtain⟨o1,o2,o3,o4⟩:=Pg.A9 ho;obtain⟨o5,o6⟩:=Zs ho;have je:fb st t o=(
  let r:=if o.kind=1 then Fs.make ⟨st,t,false⟩ o.af 1 else if o.kind=2 then Fs.make ⟨st,t,false⟩ o.af 2 else if o.kind=5 then Fs.qz ⟨st,t,false⟩ o.af else
  if o.kind=6 then Fs.link ⟨st,t,false⟩ o.af o.to else if o.kind=7 then Fs.move ⟨st,t,false⟩ o.af o.to else Fs.change ⟨st,t,false⟩ o
  if(if r.2=0/\r.1.cJ then 7 else r.2)≠0 then(st,t,(if r.2=0/\r.1.cJ then 7 else r.2)) else(r.1.st,r.1.t,(if r.2=0/\r.1.cJ then 7 else r.2))):=rfl
 rcases(by omega:o.kind=1\/o.kind=2\/o.kind=5\/o.kind=6\/o.kind=7\/(o.kind=3\/o.kind=4)) with hk|hk|hk|hk|hk|hk
 ·
  have mG:∀b dL s,mJ bh bw 113 [bg b,sv o.af,.int .i64 1] s b dL ⟨st,t,false⟩ (Fs.make ⟨st,t,false⟩ o.af 1).1 (iv (Fs.make ⟨st,t,false⟩ o.af 1).2):=λb dL s=>IA s b dL st t (h.mono ag) ht pr o.af ag o1 1 (.inl rfl)
  simp only[hk,if_true,if_pos] at je;generalize Fs.make ⟨st,t,false⟩ o.af 1=r at *
  refine' zav
  .subst NV;cases cJ with
   |true=>
    have je:fb st t o=(st,t,7):=je;rw[je];refine aT f76 ?_;dsimp only[eQ];refine' HH;all_goals refine' zae
   |false=>
    refine' zaQ
  .have je:fb st t o=(st,t,code):=by rw[je];simp[NV]
   rw[je];refine aT f76 ?_;dsimp only[eQ];refine' HH;all_goals refine' zae
 ·
  have mG:∀b dL s,mJ bh bw 113 [bg b,sv o.af,.int .i64 2] s b dL ⟨st,t,false⟩ (Fs.make ⟨st,t,false⟩ o.af 2).1 (iv (Fs.make ⟨st,t,false⟩ o.af 2).2):=λb dL s=>IA s b dL st t (h.mono ag) ht pr o.af ag o1 2 (.inr rfl)
  rw[if_neg (show ¬o.kind=1 by omega),if_pos hk] at je;generalize Fs.make ⟨st,t,false⟩ o.af 2=r at *
  refine' zav
  .subst NV;cases cJ with
   |true=>
    have je:fb st t o=(st,t,7):=je;rw[je];refine aT f76 ?_;dsimp only[eQ];refine' HH;all_goals refine' zae
   |false=>
    refine' zaQ
  .have je:fb st t o=(st,t,code):=by rw[je];simp[NV]
   rw[je];refine aT f76 ?_;dsimp only[eQ];refine' HH;all_goals refine' zae
 ·
  have mG:∀b dL s,mJ bh bw 114 [bg b,sv o.af] s b dL ⟨st,t,false⟩ (Fs.qz ⟨st,t,false⟩ o.af).1 (iv (Fs.qz ⟨st,t,false⟩ o.af).2):=λb dL s=>UH s b dL st t (h.mono ag) ht pr o.af ag o1
  rw[if_neg (show ¬o.kind=1 by omega),if_neg (show ¬o.kind=2 by omega),if_pos hk] at je;generalize Fs.qz ⟨st,t,false⟩ o.af=r at *
  refine' zav
  .subst NV;cases cJ with
   |true=>
    have je:fb st t o=(st,t,7):=je;rw[je];refine aT f76 ?_;dsimp only[eQ];(repeat' (first|refine' aW|refine' rD|refine' XI|refine' av|fail));all_goals refine' zae
   |false=>
    have je:fb st t o=(eN,t2,0):=je;rw[je];refine aT f76 ?_;dsimp only[eQ];(repeat' (first|refine' aW|refine' rD|refine' XI|refine' av|fail));(all_goals try refine cj);all_goals(refine q8 (v':=Gh) bG bu ar ?_ (λhc=>(by cases hc));rfl)
  .have je:fb st t o=(st,t,code):=by rw[je];simp[NV]
   rw[je];refine aT f76 ?_;dsimp only[eQ];(repeat' (first|refine' aW|refine' rD|refine' XI|refine' av|fail));all_goals refine' zae
 ·
  have mG:∀b dL s,mJ bh bw 115 [bg b,sv o.af,sv o.to] s b dL ⟨st,t,false⟩ (Fs.link ⟨st,t,false⟩ o.af o.to).1 (iv (Fs.link ⟨st,t,false⟩ o.af o.to).2):=λb dL s=>UO s b dL st t (h.mono ag) ht pr o.af ag o1 o.to ag (o2 (.inl hk))
  rw[if_neg (show ¬o.kind=1 by omega),if_neg (show ¬o.kind=2 by omega),if_neg (show ¬o.kind=5 by omega),if_pos hk] at je;generalize Fs.link ⟨st,t,false⟩ o.af o.to=r at *
  refine' zav
  .subst NV;cases cJ with
   |true=>
    have je:fb st t o=(st,t,7):=je;rw[je];refine aT f76 ?_;dsimp only[eQ];(repeat' (first|refine' aW|refine' rD|refine' XJ|refine' av|fail));all_goals refine' zae
   |false=>
    have je:fb st t o=(eN,t2,0):=je;rw[je];refine aT f76 ?_;dsimp only[eQ];(repeat' (first|refine' aW|refine' rD|refine' XJ|refine' av|fail));(all_goals try refine cj);all_goals(refine q8 (v':=Gi) bG bu ar ?_ (λhc=>(by cases hc));rfl)
  .have je:fb st t o=(st,t,code):=by rw[je];simp[NV]
   rw[je];refine aT f76 ?_;dsimp only[eQ];(repeat' (first|refine' aW|refine' rD|refine' XJ|refine' av|fail));all_goals refine' zae
 ·
  have mG:∀b dL s,mJ bh bw 116 [bg b,sv o.af,sv o.to] s b dL ⟨st,t,false⟩ (Fs.move ⟨st,t,false⟩ o.af o.to).1 (iv (Fs.move ⟨st,t,false⟩ o.af o.to).2):=λb dL s=>UP s b dL st t (h.mono ag) ht pr o.af ag o1 o.to ag (o2 (.inr hk))
  rw[if_neg (show ¬o.kind=1 by omega),if_neg (show ¬o.kind=2 by omega),if_neg (show ¬o.kind=5 by omega),if_neg (show ¬o.kind=6 by omega),if_pos hk] at je;generalize Fs.move ⟨st,t,false⟩ o.af o.to=r at *
  refine' zav
  .subst NV;cases cJ with
   |true=>
    have je:fb st t o=(st,t,7):=je;rw[je];refine aT f76 ?_;dsimp only[eQ];(repeat' (first|refine' aW|refine' rD|refine' XK|refine' av|fail));all_goals refine' zae
   |false=>
    have je:fb st t o=(eN,t2,0):=je;rw[je];refine aT f76 ?_;dsimp only[eQ];(repeat' (first|refine' aW|refine' rD|refine' XK|refine' av|fail));(all_goals try refine cj);all_goals(refine q8 (v':=Gj) bG bu ar ?_ (λhc=>(by cases hc));rfl)
  .have je:fb st t o=(st,t,code):=by rw[je];simp[NV]
   rw[je];refine aT f76 ?_;dsimp only[eQ];(repeat' (first|refine' aW|refine' rD|refine' XK|refine' av|fail));all_goals refine' zae
 ·
  have mG:∀b dL s,mJ bh bw 117 [bg b,ov o] s b dL ⟨st,t,false⟩ (Fs.change ⟨st,t,false⟩ o).1 (iv (Fs.change ⟨st,t,false⟩ o).2):=λb dL s=>NO s b dL st t (h.mono ag) ht pr o ag o1 ⟨o3,o4⟩ o6
  rw[if_neg (show ¬o.kind=1 by omega),if_neg (show ¬o.kind=2 by omega),if_neg (show ¬o.kind=5 by omega),if_neg (show ¬o.kind=6 by omega),if_neg (show ¬o.kind=7 by omega)] at je;generalize Fs.change ⟨st,t,false⟩ o=r at *
  refine' zav
  .subst NV;cases cJ with
   |true=>
    have je:fb st t o=(st,t,7):=je;rw[je];refine aT f76 ?_;dsimp only[eQ];(repeat' (first|refine' aW|refine' rD|refine' XL|refine' av|fail));all_goals refine' zae
   |false=>
    have je:fb st t o=(eN,t2,0):=je;rw[je];refine aT f76 ?_;dsimp only[eQ];(repeat' (first|refine' aW|refine' rD|refine' XL|refine' av|fail));(all_goals try refine cj);all_goals(refine q8 (v':=Ci) bG bu ar ?_ (λhc=>(by cases hc));rfl)
  .have je:fb st t o=(st,t,code):=by rw[je];simp[NV]
   rw[je];refine aT f76 ?_;dsimp only[eQ];(repeat' (first|refine' aW|refine' rD|refine' XL|refine' av|fail));all_goals refine' zae
variable {R Lm:bZ}{a:aM}{c i:Nat}{k:IntKind}{u:Int}{code:az}
structure sZ (s:St)(a:aM)(code:az):Prop where
 lt:∀b∈aj a,b<s.next
 row:0<code.length->∃b o ws,a=some ⟨b,o,none⟩/\s.heap.get b=some (.yJ ws)/\∀i,i<code.length->∃p,Bv ws (o+i)=some p/\p.2[o+i-p.1]?=some (bv (code.getD i ak.ah))
structure tR (Γ:qV)(a:aM)(code:az):Prop where
 r0:sZ Γ.s0 a code
 A:∀b∈aj a,b∈Γ.A
 M:∀b∈aj a,b∉Γ.M
abbrev UL (n c:Nat):Prop:=n<=c/\c<ew
abbrev afJ (a:aM)(code:az)(a2:aM)(qR:az):Prop:=a2=a/\∃k,qR=code.take k
section
variable {s:St}{x y:Operand}{t:TypeId}
theorem tR.of {A:List Nat}(h:sZ s a code)(hA:∀b∈aj a,b∈A):tR ⟨s,([]:bZ).flatMap It.a8,A⟩ a code:=⟨h,hA,λ_ _ h=>by cases h⟩
theorem tR.row (h:tR Γ a code)(hi:Inv Γ s L):sZ s a code/\∀b∈aj a,FT Γ s b:=by have hle:=hi.le;refine⟨⟨λb hb=>by have:=h.r0.lt b hb;omega,λh0=>?_⟩,λb hb=>⟨by have:=h.r0.lt b hb;omega,.inl (h.A b hb)⟩⟩;obtain⟨b,o,ws,rfl,h1,h2⟩:=h.r0.row h0;exact⟨b,o,ws,rfl,by rw[hi.fr b (h.r0.lt b (by simp[aj])) (h.M b (by simp[aj]))];exact h1,h2⟩
theorem tR.apart (h:tR Γ a code)(hi:Inv Γ s (Lm++R)):∀b∈aj a,b∉Lm.flatMap It.a8:=λb hb hm=>by
 obtain⟨x,hx,hxb⟩:=pC.1 hm;have h2:=h.r0.lt b hb;rcases(hi.lt x (cT _ hx) b hxb).2 with h1|h1
 .omega
 .exact h.M b hb h1
theorem tR.sub {a2:aM}{qR:az}(h:tR Γ a code)(hs:afJ a code a2 qR):tR Γ a2 qR:=by obtain⟨rfl,k,rfl⟩:=hs;refine⟨⟨h.r0.lt,λh0=>?_⟩,h.A,h.M⟩;rw[cW] at h0;obtain⟨b,o,ws,h1,h2,h4⟩:=h.r0.row ag;refine⟨b,o,ws,h1,h2,λi hi=>?_⟩;rw[cW] at hi;obtain⟨p,h5,h6⟩:=h4 i ag;refine⟨p,h5,?_⟩;rw[h6,aZ,aZ,IV,if_pos ag]
theorem WO.xP {e:Nat}[ht:pI E t e 1](hx:Ev l x (.slice a code.length c))(hy:Ev l y (.int k u))(hd:tR Γ a code)(hi:0<=u/\u<code.length)(hk:∀n,K (dr a u.toNat 1 0) L n n Z Z):WO E X Γ l (.indexAddr t x y) L K:=λtm s h1 h2=>by
 obtain⟨b,o,ws,rfl,_⟩:=hd.r0.row ag;obtain⟨hu,z1,z2,hz,hz2,_⟩:=ht.h;have xD:=oc hy hi.1;refine fW.pure (v:=dr (some ⟨b,o,none⟩) u.toNat 1 0) (s':=s) (λcall=>?_) ⟨L,Z,Z,h2,kP.id,hk _⟩;show nV E s t (aO tm x) (aO tm y)=_;rw[hx.eval h1,xD.eval h1];unfold nV;rw[hu];show dZ (Nat.ble (Nat.succ u.toNat) code.length) (ob (size E e) λsz=>aN (.pointer (some ⟨b,Nat.add o (Nat.mul u.toNat sz),none⟩)) s)=_;have hs:size E e=some 1:=by unfold size;rw[hz];simp[hz2]
 rw[gp ag,hs];rfl
theorem WO.ah9 [ht:nP E t](hx:Ev l x (dr a i 1 0))(hd:tR Γ a code)(hi:i<code.length)(k:∀n,K (bv (code.getD i ak.ah)) L n n (λi=>i∈aj a) Z):WO E X Γ l (.load t x) L K:=λtm s h1 h2=>by
 obtain⟨hr,hm⟩:=hd.row h2;obtain⟨b,o,ws,rfl,h3,h4⟩:=hr.row ag;obtain⟨p,h5,h6⟩:=h4 i hi;have hb:=(hm b (by simp[aj]));refine fW.pure (v:=bv (code.getD i ak.ah)) (s':=s.aY b) (λcall=>?_) ⟨L,(λi=>i∈aj (some ⟨b,o,none⟩)),Z,h2.aY hb,db hb.1 (by simp[aj]),by rw[cz];exact k _⟩;show(FJ (aO tm x) λb o=>mw E s t b o)=_;rw[hx.eval h1];show mw E s t b (o+(i*1+0))=_;obtain⟨d,g1,g2⟩:=ht.h;unfold mw St.KY St.look;rw[h3];simp only[cu];show ob (Bv ws (o+(i*1+0))) _=_;rw[show o+(i*1+0)=o+i by omega,h5];show ob (ji E t) _=_;rw[g1];show bo (Au d) _ _=_;rw[g2];show ob (jj p.2 (o+i-p.1)) _=_;rw[dR,h6];rfl
theorem WO.ami {e:Nat}{enc:ak UInt8 1}[ht:TT E t e 1 UInt8 enc](hx:Ev l x (.slice a code.length c))(ho:Ev l y (.int k u))(hd:tR Γ a code)(hv:UL code.length c)(hj:0<u/\u<=(code.length:Int))
  (h:∀m c',K (.slice a (code.take u.toNat).length c') L m m Z Z):WO E X Γ l (.slice t x none (some y) none) L K:=λtm s hl hi=>by
 have hb:=Rn (n:=code.length) ho ⟨ag,hj.2⟩;obtain⟨b,o,ws,rfl,_⟩:=hd.r0.row ag;obtain⟨z,hr,_⟩:=ht.h;obtain⟨hu,ii,z1,KC,tA,_⟩:=hr.h;have jd:size E e=some 1:=by unfold size;rw[KC];simp[tA]
 refine fW.pure (v:=.slice (some ⟨b,o,none⟩) (code.take u.toNat).length (c-0)) (s':=s) (λcall=>?_) ⟨L,Z,Z,hi,kP.id,h _ _⟩;show kv E s t (aO tm x) (dH (aO tm) none) (dH (aO tm) (some y)) none=_;rw[hx.eval hl];unfold kv;rw[hu];show(ob (size E e) λsz=>bo (Nat.ble ew c) _ (ob (ey sz (some ⟨b,o,none⟩) code.length c (dH (aO tm) none) (dH (aO tm) (some y)) none) λv=>aN v s))=_;rw[jd];show bo (Nat.ble ew c) _ (ob (ey 1 (some ⟨b,o,none⟩) code.length c (dH (aO tm) none) (dH (aO tm) (some y)) none) λv=>aN v s)=_;rw[show Nat.ble ew c=false from by rw[<-jf,nG];have:=hv.2;omega];show ob (ey 1 (some ⟨b,o,none⟩) code.length c (dH (aO tm) none) (dH (aO tm) (some y)) none) (λv=>aN v s)=_;unfold ey;rw[qa hb hl hv.1];have hc:Nat.beq c 0=false:=by
  cases hc:Nat.beq c 0 with
  |false=>rfl
  |true=>have:=nR hc;have:=hv.1;omega
 show aN (.slice (bo (Nat.beq c 0) (some ⟨b,o,none⟩) (some ⟨b,o,none⟩)) (u.toNat-0) (c-0)) s=_;rw[hc,cW,As ag];rfl
theorem tR.lt (h:tR Γ a code):∀b∈aj a,b<Γ.s0.next:=h.r0.lt
end
variable {br p d:Nat}{Q:Value->Prop}
section
variable {x y:Operand}{t t2:TypeId}
theorem WO.aly {m n:Int}(hx:Ev l x (iv m))(hy:Ev l y (iv n))(hm:0<=m/\m<4611686018427387904)(hn:0<=n/\n<4611686018427387904)(h:∀i,K (iv ((m.toNat^^^ n.toNat:Nat):Int)) L i i Z Z):WO E X Γ l (.binOp .xor t x y t2) L K:=
 WO.xor (m:=m.toNat) (n:=n.toNat) (by rw[yF hm.1];exact hx) (by rw[yF hn.1];exact hy) ag ag h
abbrev oB (br:Nat)(a:aM)(n c p:Nat):It:=.box br [.slice a n c,iv (p:Int)] 76 false
abbrev Iy (E:ig)(X:fR)(g:FuncId)(vs:a6)(s:St)(br:Nat)(a:aM)(code:az)(c p d:Nat)(Q:Value->Prop):Prop:=fM E X g vs s [oB br a code.length c p] (aj a) λR L=>∃p':Nat,p'<=p+d/\Q R/\L=[oB br a code.length c p']
theorem WO.Ry (hx:kA l xs vs)(hp:oZ [oB br a code.length c p] L R)(hh:tR Γ a code)(h:∀s,sZ s a code->(∀i∈aj a,i∉[oB br a code.length c p].flatMap It.a8)->Iy E X g vs s br a code c p d Q)(k:∀m m' p' r,p'<=p+d->Q r->jX L m->m<=m'->K r (oB br a code.length c p'::R) m m' (FtR (aj a) [oB br a code.length c p] m m') (FtW [oB br a code.length c p] m m')):WC E X Γ l g xs ts L K:=
 WO.call (Lm:=[oB br a code.length c p]) (R:=R) hx hp.cZ (λs hi=>(hh.row (hi.cZ hp.cZ|>.sub ⟨R,.refl _,nK _ _⟩)).2) (λs hi=>h s (hh.row (hi.cZ hp.cZ|>.sub ⟨R,.refl _,nK _ _⟩)).1 (tR.apart hh (hi.cZ hp.cZ))) (by rintro r' L' m m' ho hm ⟨p',h1,h2,rfl⟩;exact k m m' p' r' h1 h2 ho hm)
theorem LQ {rs:List ResultVar}{x:Ex}{p':Nat}{ws:a6}(hx:x= .normal\/x= .ret)(hr:qD E l L rs ws)(hL:cC [oB br a code.length c p'] L)(hp:p'<=p+d)(hv:Q (gL ws)):
  vh E rs (λR L=>∃p':Nat,p'<=p+d/\Q R/\L=[oB br a code.length c p']) x l L:=⟨hx,ws,_,hr,hL,p',hp,hv,rfl⟩
end
def ajx (n:Int)(R:Value):Prop:=∃k:Int,R=iv k/\0<=k/\(1<=n->k<n)
theorem Ab {x n:Int}(hx:0<=x)(hn:0<n):0<=x.tmod n/\x.tmod n<n:=⟨Int.tmod_nonneg _ hx,Int.tmod_lt_of_pos _ hn⟩
end Go.Pl
