/- Lemmas of the proof. No conditions. -/
import Derived.Test.YtjaeddbblleomaaGreatDoorAd4
set_option maxRecDepth 100000
set_option maxHeartbeats 4000000
set_option linter.unusedVariables false
set_option linter.unusedSimpArgs false
open Go.Proofs.Tryz
namespace Go.Lg
open Go Go.Ev
section
variable {E:dy}{X:dM}{Γ:gY}{l:Kn}{L L' R:bn}{K:KO}{x y o:Operand}{t t2:TypeId}{s:St}{a a':aH}{n c c' sz e i:Nat}{α:Type}{enc:c9 α sz}{p q:List α}{k:IntKind}
theorem WO.cutOEs {cs:aQ}[ht:TT E t e sz α enc](hx:Ev l x (.slice a n c))(ho:Ev l o (.int k (i:Int)))(hm:It.aJ (.slice a n c) e sz cs∈L)(hj:i<=n)
  (h:∀m a' c',CL sz a i (n-i) a'->K (.slice a' (n-i) c') L m m (λb=>b∈ai a) Z):WO E X Γ l (.slice t x (some o) none none) L K:=λtm s hl hi=>by
 have h1:∀b∈ai a,EF Γ s b:=λb hb=>hi.may hm (by
  cases a with
  |none=>simp[ai] at hb
  |some a=>simpa[It.aS,mN,ai] using hb)
 have hv:=yh.slv (hi.it _ hm) λb hb=>(h1 b hb).1
 obtain⟨a',c',s',h2,h3,h4,h5⟩:=BI (ht:=ht) (i:=i) (j:=n) (lo:=some o) (hi:=none) ⟨.inr ⟨o,k,rfl,ho⟩,.inl ⟨rfl,rfl⟩,af⟩ hl hv;have mg:∀call:dJ,EA E call (aI tm) s (.slice t x (some o) none none)=some (.slice a' (n-i) c',s'):=λcall=>by
  show j7 E s t (aI tm x) _ _ none=_;rw[hx.eval hl,h2]
 rcases h3 with rfl|⟨b,kX,rfl⟩
 .exact fS.pure mg ⟨L,_,Z,hi,kx.id,h _ _ _ h4⟩
 .exact fS.pure mg ⟨L,_,Z,hi.aR (h1 b kX),cW (h1 b kX).1 kX,by rw[cw];exact h _ _ _ h4⟩
theorem WO.cutO0n {cs:aQ}[ht:TT E t e sz α enc](hx:Ev l x (.slice a n c))(ho:Ev l o (.int k (i:Int)))(hm:It.aJ (.slice a n c) e sz cs∈L)(hj:i<=n)
  (h:∀m,K (.slice a i c) L m m (λb=>b∈ai a) Z):WO E X Γ l (.slice t x none (some o) none) L K:=λtm s hl hi=>by
 have h1:∀b∈ai a,EF Γ s b:=λb hb=>hi.may hm (by
  cases a with
  |none=>simp[ai] at hb
  |some a=>simpa[It.aS,mN,ai] using hb)
 refine' zaq
 .exact fS.pure mg ⟨L,_,Z,hi,kx.id,h _⟩
 .exact fS.pure mg ⟨L,_,Z,hi.aR (h1 b kX),cW (h1 b kX).1 kX,by rw[cw];exact h _⟩
theorem WO.clearA {n0:Nat}{d:α}[ht:TT E t e sz α enc][hd:TD E t sz α enc d](hx:Ev l x (.slice a' n c'))(hs:CL sz a i n a')(hu:yk (.aJ (.slice a n0 c) e sz (ah (sz:=sz) p)) (.aJ (.slice a n0 c) e sz (ah (sz:=sz) (p.take i++List.replicate n d++p.drop (i+n)))) L L')(hn:i+n<=p.length)
  (h:∀m,K (.tuple ⟨[]⟩) L' m m (λb=>b∈ai a) (λb=>b∈ai a)):WO E X Γ l (.call ⟨.builtin .clear,⟨[x]⟩,⟨[t]⟩⟩) L K:=λtm s hl hi=>by
 obtain⟨z,CO,_⟩:=ht.h;obtain⟨TY,ii,z1,Jq,tG,YM,Js,ZM,ZN,hi7⟩:=CO.h;obtain⟨e',z',tk,hdz⟩:=hd.h;obtain⟨hu1',ii',z1',hi1',hi2',hi3',hi4',_⟩:=tk.h;have hee:e'=e:=by
  have:=hu1'.symm.trans TY
  injection this with this
  injection this
 subst hee;rw[Jq] at hi1';cases hi1';rw[YM] at hi3';cases hi3';have hzd:bW z1=c9.cells (sz:=sz) d:=by rw[hdz,<-hi4']
 obtain⟨R,p1,p2⟩:=hu.cR;have hm:It.aJ (.slice a n0 c) e' sz (ah (sz:=sz) p)∈L:=p1.mem_iff.2 (by simp);have nH:∀call:dJ,EA E call (aI tm) s (.call ⟨.builtin .clear,⟨[x]⟩,⟨[t]⟩⟩)=zB E s [t] (.slice a' n c'):=λcall=>by
  show rJ E s .clear [t] (aI tm x)=_;rw[hx.eval hl];rfl
 rcases vC n with xy|xy
 .subst xy;have e1:p.take i++List.replicate 0 d++p.drop (i+0)=p:=by simp
  have e2:L.Perm L':=by rw[e1] at p2;exact p1.trans p2.symm
  have tU:zB E s [t] (.slice a' 0 c')=some (.tuple ⟨[]⟩,s):=by
   cases a' with
   |none=>
    show Ev.elemOf E (iR [t] 0) (λ_=>aG (Value.tuple ⟨[]⟩) s)=_;unfold Ev.elemOf;show ob (some t) _=_;rw[cq,TY];rfl
   |some a'=>
    obtain⟨b,o',r⟩:=a';show Ev.elemOf E (iR [t] 0) (λe=>bo (Nat.beq 0 0) (aG (Value.tuple ⟨[]⟩) s) _)=_;unfold Ev.elemOf;show ob (some t) _=_;rw[cq,TY];rfl
  exact fS.pure (λcall=>(nH call).trans tU) ⟨L',(λi=>i∈ai a),(λi=>i∈ai a),hi.cR e2,kx.id,h _⟩
 .rcases hi.it _ hm with⟨h3,h4⟩|⟨b,n',k',w,h3,h4,h5,h6⟩
  .exfalso;have ri:=bc (sz:=sz) p;rw[h4] at ri;have h7:0<p.length*sz:=Nat.mul_pos af af;simp at ri;omega
  .cases h3
   have ha':a'=some ⟨b,0+i*sz,none⟩:=by
    rcases hs.h with h|⟨h,_⟩
    .exact h
    .omega
   subst ha';have dA:=(hi.may hm (b:=b) (by simp[It.aS,mN]));have hr:=hi.aR dA;have ri:=bc (sz:=sz) p;have cX:i*sz+n*sz<=p.length*sz:=by rw[<-mq];exact JB _ hn
   have hrep:lF (bW z1) n=ah (sz:=sz) (List.replicate n d):=by rw[hzd,CH]
   have dK:fO (0+i*sz) (lF (bW z1) n) (ah (sz:=sz) p)=some (ah (sz:=sz) (p.take i++List.replicate n d++p.drop (i+n))):=by
    rw[hrep,ni,wR _ _ _ (by rw[bc,rC,ri];exact cX),mP,mP,<-pw,<-rY,bc,rC,mq]
   have Bg:jj (bW z1)=true:=by rw[hzd];exact(l9 _).2 (enc.fl d)
   have hp2:(p.take i++List.replicate n d++p.drop (i+n)).length=p.length:=by rw[bR,bR,dg,rC,gp];omega
   refine fS.pure (v:=.tuple ⟨[]⟩) (s':=(s.aR b).put b (some (.cells (ah (sz:=sz) (p.take i++List.replicate n d++p.drop (i+n))) e' w))) (λcall=>(nH call).trans ?_) ⟨L',(λi=>i∈ai (some ⟨b,0,none⟩)),(λi=>i∈ai (some ⟨b,0,none⟩)),hr.put hu rfl rfl ?_,(kx.trans (cW dA.1 (by simp[ai])) (jS (by simpa using dA.1) (by simp[ai]) (by simp[ai]))),by rw[dY,cw];exact h _⟩
   .unfold zB Ev.elemOf;show ob (some t) _=_;rw[cq,TY];show bo (Nat.beq n 0) _ _=_;rw[Vj xy];show eb true _=_;rw[eA];unfold St.row St.look;rw[h4,cq];show ob (size E e') _=_;have Qm:size E e'=some sz:=by unfold size;rw[Jq];simp[tG]
    have hze:zero E e'=some z1:=by unfold zero;rw[Jq];simp[YM]
    rw[Qm,cq,hze,cq,dm,show(bW z1).length=sz by rw[Js];exact ZM,lz,gR ZN,Bg];show ob (fO (0+i*sz) (lF (bW z1) n) (ah (sz:=sz) p)) _=_;rw[dK];rfl
   .refine .inr ⟨b,_,_,w,rfl,by show T.get (St.heap _) b=_;simp,by rw[bc,hp2,<-ri];exact h5,h6⟩
end
section
variable {E:dy}{X:dM}{Γ:gY}{l:Kn}{L L' R:bn}{K:KO}{x y o:Operand}{t t2:TypeId}{s:St}{b e i:Nat}{enc:c9 UInt8 1}{z u:List UInt8}{k:IntKind}
theorem WO.cutB [ht:TT E t e 1 UInt8 enc](hx:Ev l x (.slice (some ⟨b,0,none⟩) z.length eL))(ho:Ev l o (.int k (i:Int)))(hm:It.box b (ah z) e false∈L)(hj:i<z.length)
  (h:∀m,K (.slice (some ⟨b,i,none⟩) (z.length-i) (eL+i)) L m m (λc=>c=b) Z):WO E X Γ l (.slice t x (some o) none none) L K:=λtm s hl hi=>by
 obtain⟨zz,hr,_⟩:=ht.h;obtain⟨hu,ii,z1,Jq,tG,YM,Js,ZM,ZN,hi7⟩:=hr.h;have iI:size E e=some 1:=by unfold size;rw[Jq];simp[tG]
 have h1:=hi.may hm (b:=b) (by simp[It.aS]);have hg:s.heap.get b=some (.cells (ah z) e false):=hi.it _ hm;have hlim:Vt l z.length (some o) none i z.length:=⟨.inr ⟨o,k,rfl,ho⟩,.inl ⟨rfl,rfl⟩,af⟩;refine fS.pure (v:=.slice (some ⟨b,i,none⟩) (z.length-i) (eL+i)) (s':=s.aR b) (λcall=>?_) ⟨L,(λc=>c=b),Z,hi.aR h1,cW h1.1 rfl,by rw[cw];exact h _⟩;show j7 E s t (aI tm x) (dz (aI tm) (some o)) (dz (aI tm) none) none=_;rw[hx.eval hl];unfold j7;rw[hu];show eb (HP (some ⟨b,0,none⟩)) (ob (size E e) λsz=>bo (Nat.ble eL eL) (bo (nA (dz (aI tm) (some o)) (dz (aI tm) none) none) (nB (some ⟨b,0,none⟩) eL s) (ik e sz (some ⟨b,0,none⟩) z.length eL (dz (aI tm) (some o)) (dz (aI tm) none) none s)) _)=_;rw[iI];show ik e 1 (some ⟨b,0,none⟩) z.length eL (dz (aI tm) (some o)) (dz (aI tm) none) none s=_;unfold ik;show s.row b (λc' e' w s=>eb (bo w true (Nat.beq 1 1)&&Nat.beq e' e&&Nat.beq 0 (Nat.mul (Nat.sub eL eL) 1)&&Nat.ble (Nat.add 0 (Nat.mul z.length 1)) (eh c')) (bounds z.length z.length (dz (aI tm) (some o)) (dz (aI tm) none) none λl h _=>_))=_;unfold St.row St.look;rw[hg];simp only[cq];rw[show Nat.mul (Nat.sub eL eL) 1=0 by show(eL-eL)*1=0;omega,dm,bc,lz,gR (show Nat.add 0 (Nat.mul z.length 1)<=z.length*1 by show 0+z.length*1<=_;omega)];rw[lz];show bounds z.length z.length _ _ none _=_;rw[py hlim hl (cy _)];show bo (Nat.beq i 0||Nat.ble (Nat.succ i) z.length) (aG (Value.slice (some ⟨b,0+i*1,none⟩) (z.length-i) (eL+i)) (s.aR b)) _=_;rw[gR (show Nat.succ i<=z.length from hj),Bool.or_true,zx,ni];rfl
theorem WO.copyB {c:Nat}[ht:TT E t e 1 UInt8 enc](he:∀c,c9.cells c=[bv c])(hx:Ev l x (.slice (some ⟨b,i,none⟩) (z.length-i) c))(hy:Ev l y (sv u))(hu:yk (.box b (ah z) e false) (.box b (ah (z.take i++u++z.drop (i+u.length))) e false) L L')(hj:i+u.length<=z.length)
  (h:∀m,K (iv (u.length:Int)) L' m m (λc=>c=b) (λc=>c=b)):WO E X Γ l (.call ⟨.builtin .copy,⟨[x,y]⟩,⟨[t,t2]⟩⟩) L K:=λtm s hl hi=>by
 obtain⟨zz,hr,_⟩:=ht.h;obtain⟨TY,ii,z1,Jq,tG,YM,Js,ZM,ZN,hi7⟩:=hr.h;have iI:size E e=some 1:=by unfold size;rw[Jq];simp[tG]
 obtain⟨R,p1,p2⟩:=hu.cR;have hm:It.box b (ah z) e false∈L:=p1.mem_iff.2 (by simp);have h1:=hi.may hm (b:=b) (by simp[It.aS]);have hg:s.heap.get b=some (.cells (ah z) e false):=hi.it _ hm;have hrd:=hi.aR h1;have dK:fO i (strCells u) (ah z)=some (ah (z.take i++u++z.drop (i+u.length))):=by
  rw[pg u he,wR _ _ _ (by rw[bc,bc];omega),mP,mP,<-pw,<-rY,bc];simp
 have hlu:(strCells u).length=u.length:=by rw[pg u he,bc,zx]
 refine fS.pure (v:=iv (u.length:Int)) (s':=(s.aR b).put b (some (.cells (ah (z.take i++u++z.drop (i+u.length))) e false))) (λcall=>?_) ⟨L',(λc=>c=b),(λc=>c=b),hrd.put hu rfl rfl (by show T.get (St.heap _) b=_;simp),(kx.trans (cW h1.1 rfl) (jS (by simpa using h1.1) rfl rfl)),by rw[dY,cw];exact h _⟩;show copyV E s [t,t2] (aI tm x) (aI tm y)=_;rw[hx.eval hl,hy.eval hl];show Ev.elemOf E (iR [t,t2] 0) (λe=>ob (size E e) λsz=>JS s sz (sv u) λk new s=>zA sz b i (z.length-i) k new s)=_;unfold Ev.elemOf;show ob (some t) _=_;rw[cq,TY];show ob (size E e) _=_;rw[iI];show eb (Nat.beq 1 1) (zA 1 b i (z.length-i) (eh u) (strCells u) s)=_;rw[dm];show zA 1 b i (z.length-i) u.length (strCells u) s=_;unfold zA;have Bg:jj (strCells u)=true:=by rw[pg u he];exact(l9 _).2 (zN _)
 have Rg:Cc u.length (z.length-i)=u.length:=by
  show bo (Nat.ble u.length (z.length-i)) u.length (z.length-i)=_;rw[gR af];rfl
 have htk:iD (Nat.mul u.length 1) (strCells u)=some (strCells u):=by
  have:=rZ (cs:=strCells u) (o:=0) (m:=u.length) (c:=strCells u) (by rw[B1];exact q9 af) hlu;rw[show Nat.mul u.length 1=u.length from zx _];exact this
 rw[Bg,eA,Rg,htk,cq];unfold St.row St.look;rw[hg];simp only[cq];rw[dK];rfl
end
end Go.Lg
namespace Go.Pl
open Go Go.Ev Go.Lg Go.Proofs
variable {st:ak}{s:ay}
theorem dZ.of {t:bX}(h:fg st t=true):dZ t:=by
 unfold fg at h;simp only[cv,cl,fR] at h;obtain⟨⟨⟨h1,h2⟩,h3⟩,_⟩:=h;exact⟨h3,h1,by have:=Pg.fu t.many;omega⟩
def Bo (st:ak)(s:ay):Bool:=decide (s=[])||match eO s with
 |none=>false
 |some n=>fg st n.aN
theorem DQ (st:ak)(t:bX):nY st t=(fg st t&&(hU st t).all (Bo st)):=rfl
theorem LM (h:decide (s=[])=true):Bo st s=true:=by unfold Bo;rw[h];rfl
theorem SS (h:decide (s=[])=false)(hn:eO s=none):Bo st s=false:=by unfold Bo;rw[h,hn];rfl
theorem Ha {n:Nde}(h:decide (s=[])=false)(hn:eO s=some n):Bo st s=fg st n.aN:=by unfold Bo;rw[h,hn];rfl
theorem KU (s:St)(v:SA)(st:ak)(h:du 100000 st)(t:bX)(hr:cJ s v st):bO 100 [fF v st,tv t] s (im v) (.bool (nY st t)):=by
 have tk:=Rd.DE hr;have tO:=Rd.off hr;have tT:=Rd.BO hr;cases fZ:fg st t with
 |false=>
  have hn:(!fg st t)=true:=by rw[fZ];rfl
  rw[DQ,fZ,JK];refine aO f100 ?_;(repeat' (first|refine' aX|refine' NU|refine' ar|fail))
  (refine' av);rfl
 |true=>
  have hn:(!fg st t)=false:=by rw[fZ];rfl
  have ht:=dZ.of fZ;obtain⟨hl,dA⟩:=kR h ht;have hm:=ht.mn;rw[DQ,fZ,xE];refine aO f100 ?_;(repeat' (first|refine' aX|refine' NU|refine' zc58|refine' ar|fail))
  generalize hU st t=w at *
  refine W.bH (λk l L=>∃(i bs bt:Nat),Le [(2,aP bs),(3,aP bt),(5,.slice gA w.length gB),(6,iv i)] l/\cr [.aJ (.slice gA w.length gB) 9 1 (ah w),.box bs (rz v st) 58 false,.box bt (gU t) 62 false] L/\k=w.length-i/\i<=w.length/\w.all (Bo st)=(w.drop i).all (Bo st))
   (λl L=>w.all (Bo st)=true) w.length ⟨0,_,_,bd,aq,af,af,rfl⟩ ?_ ?_
  .rintro k l L ⟨i,bs,bt,ju,hL,rfl,h1,h2⟩;refine W.le ?_ ju hL;clear ju hL;by_cases hi:i<w.length
   .have Qs:=dA _ (aF hi c9.lW);rw[drop_cons hi,List.all_cons] at h2;cases Xe:eO (w.getD i c9.lW) with
    |none=>
     have hng:∀s,bO 104 [sv (w.getD i c9.lW)] s [] (uQ none):=λs=>by
      have:=tn s _ (show(w.getD i c9.lW).length<=100000 by omega);rwa [Xe] at this
     (repeat' (first|refine' aX|((with_reducible apply WO.bG);exact aD;(first|exact λs=>hng s);intro _ _ _ _)|refine' ar|fail))
     all_goals try exact pb
     .refine⟨_,?_,i+1,_,_,bd,aq,rfl,af,by rw[h2,LM hc];rfl⟩;omega
     .have hn:w.all (Bo st)=false:=by rw[h2,SS hc Xe];rfl
      rw[hn];(refine' av);rfl
    |some n=>
     have hng:∀s,bO 104 [sv (w.getD i c9.lW)] s [] (uQ (some n)):=λs=>by
      have:=tn s _ (show(w.getD i c9.lW).length<=100000 by omega);rwa [Xe] at this
     (repeat' (first|refine' aX|((with_reducible apply WO.bG);exact aD;(first|exact λs=>hng s);intro _ _ _ _)|refine' NU|refine' ar|fail))
     all_goals try exact pb
     .refine⟨_,?_,i+1,_,_,bd,aq,rfl,af,by rw[h2,LM hc];rfl⟩;omega
     .have jU:fg st n.aN=false:=jU;have hn:w.all (Bo st)=false:=by rw[h2,Ha (by assumption) Xe,jU];rfl
      rw[hn];(refine' av);rfl
     .have jU:fg st n.aN=true:=jU;refine⟨_,?_,i+1,_,_,bd,aq,rfl,af,by rw[h2,Ha (by assumption) Xe,jU];rfl⟩;omega
   .have fG:i=w.length:=by omega
    subst fG;rw[ig] at h2;(refine' cO)
    all_goals first|(exfalso;omega;done)|exact h2
  .rintro l L h1;refine aj ?_;refine W.le ?_ (Le.nil _) (cr.nil _);(refine' cO)
   (refine' av)
   exact gb Value.bool h1.symm
end Go.Pl
namespace Go.Pl
open Go Go.Ev Go.Lg Go.Proofs
structure jW (n:Nde):Prop where
 tr:dZ n.aN
 sz:0<=n.size/\n.size<=10000
theorem jW.of {n:Nde}(h:ew n=true):jW n:=by
 obtain⟨_,h1,_,h2,h3,h4,_⟩:=Pg.kO h;exact⟨⟨h4,h2,by have:=Pg.fu n.aN.many;omega⟩,af⟩
theorem jW.no:jW bu:=⟨⟨by decide,by decide,by decide⟩,by decide⟩
theorem DR (many:Int):∀(L:List ay)(k:Nat)(out z:ay),oP many k L out=some z->(∀s∈L,s.length<=3000)->z.length<=out.length+L.length*3000
 |[],k,out,z,h,_=>by cases h;simp
 |s::L,k,out,z,h,hs=>by
  rw[oP] at h;split at h
  .cases h
  .have:=DR many L (k+1) _ z h (λx hx=>hs x (by simp[hx]));have:=hs s (by simp);rw[bR] at *
   rw[dh];omega
theorem Xf {st:ak}(h:du 100000 st){t:bX}(ht:dZ t):((nZ st t).getD []).length<=50000:=by
 obtain⟨h1,h2⟩:=kR h ht;have hm:=ht.mn;cases hb:nZ st t with
 |none=>simp
 |some z=>
  have:=DR t.many _ 0 [] z hb h2;rw[h1] at this;simp at this⊢;omega
theorem lK (s:St)(v:SA)(st:ak)(h:du 100000 st)(n:Nde)(hr:cJ s v st):ke aU aW 152 [fF v st,nv n] s (im v) 186 ((bJ st n).getD []) (bJ st n).isSome:=by
 have tk:=Rd.DE hr;have tO:=Rd.off hr;have tT:=Rd.BO hr;by_cases hc:(!ew n||decide (n.kind≠2)||!fg st n.aN)=true
 .have he:bJ st n=none:=by unfold bJ;rw[if_pos hc]
  rw[he];refine aO f152 ?_;(repeat' (first|refine' aX|refine' NR|refine' NU|refine' ar|fail))
  all_goals first|((refine' fq)<;>rfl)|(exfalso;simp_all;done)
 .have u9:ew n=true/\n.kind=2/\fg st n.aN=true:=by simpa[and_assoc] using hc
  obtain⟨k1,k2,k3⟩:=u9;have g1:(!ew n)=false:=by rw[k1];rfl
  have g2:(!decide (n.kind=2))=false:=by simp[k2]
  have g3:(!fg st n.aN)=false:=by rw[k3];rfl
  have ht:=dZ.of k3;have tW:=(jW.of k1).sz;have hns2:=(Pg.kO k1).2.1;have Ou:=Xf h ht;have he:bJ st n=match nZ st n.aN with
    |none=>none
    |some s=>if(s.length:Int)≠n.size then none else iw s:=by unfold bJ;rw[if_neg hc];rfl
  refine aO f152 ?_;(repeat' (first|refine' aX|refine' NR|refine' NU|((with_reducible apply WO.lY);exact aD;(first|exact λs hr=>LH s _ _ (by assumption) _ (by assumption) hr|exact λs hr=>LH s _ _ (by assumption) ⟨⟨_,_,_,_,_⟩,_,_⟩ (by assumption) hr);exact ez;intro _ _ _ _)|((with_reducible apply WO.ym);exact aD;(first|exact λs=>Fa s _ af);intro _ _ a_EntriesGet c_EntriesGet _ _)|refine' ar|fail))
  .obtain⟨z,hz⟩:=kB.1 tR;rw[hz] at he jU;rw[he];simp only;rw[if_pos (show(z.length:Int)≠n.size from jU)];(refine' fq)<;>rfl
  .obtain⟨z,hz⟩:=kB.1 tR;rw[hz] at he jU;rw[he];simp only;rw[if_neg (λhx:(z.length:Int)≠n.size=>hx jU)];(refine' fq)<;>rw[hz]<;>rfl
  .have hz:nZ st n.aN=none:=by cases hb:nZ st n.aN<;>simp_all
   rw[hz] at he;rw[he];(refine' fq)<;>rfl
theorem C6 (s:St)(v:SA)(st:ak)(h:du 100000 st)(n:Nde)(hn:jW n)(hr:cJ s v st):bO 60 [fF v st,nv n] s (im v) (sv (bA st n)):=by
 have tk:=Rd.DE hr;have tO:=Rd.off hr;have tT:=Rd.BO hr;have ht:=hn.tr;have iI:=hn.sz;obtain⟨hl,dA⟩:=kR h ht;have hm:=ht.mn;refine aO f60 ?_;(refine' Wv)
 unfold bA;generalize hU st n.aN=w at *
 refine W.bH (λk l L=>∃(i bt:Nat)(z:ay),Le [(3,aP bt),(6,.slice gA w.length gB),(5,sv z),(7,iv i)] l/\cr [.aJ (.slice gA w.length gB) 9 1 (ah w),.box bt (wS n) 109 false] L/\k=w.length-i/\i<=w.length/\z.length<=i*3012/\pQ n.size 0 w []=pQ n.size i (w.drop i) z)
  (λl L=>Le [(5,sv (pQ n.size 0 w []))] l/\cr [] L) w.length ⟨0,_,[],bd,aq,af,af,by simp,rfl⟩ ?_ ?_
 .rintro k l L ⟨i,bt,z,ju,hL,rfl,h1,h2,h3⟩;refine W.le ?_ ju hL;clear ju hL;by_cases hi:i<w.length
  .have Qs:=dA _ (aF hi c9.lW);rw[drop_cons hi,pQ] at h3;have hlo:gi n.size i<=12/\ -10000<=gi n.size i:=by unfold gi;omega
   have hzl:(hZ (gi n.size i-((w.getD i c9.lW).length:Int))).length<=12:=by unfold hZ;rw[rC];omega
   (repeat' (first|refine' aX|refine' zc86|refine' KQ|refine' ar|fail))
   .refine⟨_,?_,i+1,_,_,bd,aq,rfl,af,?_,h3⟩
    .omega
    .simp only[bR];omega
   .exfalso;omega
  .have fG:i=w.length:=by omega
   subst fG;rw[ig] at h3;have h3:pQ n.size 0 w []=z:=h3;(refine' cO)
   all_goals first|(exfalso;omega;done)|(rw[h3];exact⟨bd,aq⟩)
 .rintro l L ⟨ju,hL⟩;refine aj ?_;refine W.le ?_ ju hL;(refine' cO)
  (refine' av);rfl
theorem AX (s:St)(v:SA)(st:ak)(h:du 100000 st)(t:bX)(ht:dZ t)(hr:cJ s v st):fa aU aW 59 [fF v st,tv t] s (im v) 109 (fm st t):=by
 have tk:=Rd.DE hr;have tO:=Rd.off hr;have tT:=Rd.BO hr;obtain⟨hl,dA⟩:=kR h ht;have hm:=ht.mn;refine aO f59 ?_;(refine' Wv)
 unfold fm;generalize hU st t=w at *
 refine W.bH (λk l L=>∃(i:Nat)(a2:aH)(c2:Nat)(q:List Nde),Le [(6,.slice gA w.length gB),(5,.slice a2 q.length c2),(7,iv i)] l/\cr [.aJ (.slice a2 q.length c2) 109 10 (ah q),.aJ (.slice gA w.length gB) 9 1 (ah w)] L/\k=w.length-i/\i<=w.length/\q=(w.take i).map λs=>(eO s).getD bu)
  (λl L=>∃(a2:aH)(c2:Nat),Le [(5,.slice a2 (w.map λs=>(eO s).getD bu).length c2)] l/\cr [.aJ (.slice a2 (w.map λs=>(eO s).getD bu).length c2) 109 10 (ah (w.map λs=>(eO s).getD bu))] L) w.length ⟨0,_,_,[],bd,aq,af,af,rfl⟩ ?_ ?_
 .rintro k l L ⟨i,a2,c2,q,ju,hL,rfl,h1,h2⟩;refine W.le ?_ ju hL;clear ju hL;have hql:q.length<=16:=by rw[h2];simp;omega
  by_cases hi:i<w.length
  .have Qs:=dA _ (aF hi c9.lW);(repeat' (first|refine' aX|((with_reducible apply WO.bG);exact aD;(first|exact λs=>tn s _ af);intro _ _ _ _)|refine' ar|fail))
   .refine⟨_,?_,i+1,_,_,q++[(eO (w.getD i c9.lW)).getD bu],bd,aq,rfl,af,?_⟩
    .omega
    .rw[h2,fC w c9.lW hi];simp
   .exfalso;omega
  .have fG:i=w.length:=by omega
   subst fG;rw[gS] at h2;subst h2;(refine' cO)
   all_goals first|(exfalso;omega;done)|exact⟨_,_,bd,aq⟩
 .rintro l L ⟨a2,c2,ju,hL⟩;refine aj ?_;refine W.le ?_ ju hL;(refine' cO)
  (refine' lB);rfl
theorem Ac {st:ak}{p:iL}{n:Int}:((below st p n).getD []).length<=4:=by
 cases hb:below st p n with
 |none=>simp
 |some w=>have:=(Pg.iA hb).1;simp;omega
theorem DS (s:St)(v:SA)(st:ak)(h:du 100000 st)(t:bX)(hr:cJ s v st):fa aU aW 222 [fF v st,tv t] s (im v) 60 (fH st t):=by
 have tk:=Rd.DE hr;have tO:=Rd.off hr;have tT:=Rd.BO hr;by_cases h0:t.depth=0
 .have hi:fH st t=[]:=by unfold fH;rw[if_pos (.inl h0)]
  rw[hi];refine aO f222 ?_;(refine' Bj)
  all_goals first|(exfalso;simp_all;done)|((refine' lB);rfl)
 .cases hh:aC t.cC with
  |true=>
   have hi:fH st t=[]:=by unfold fH;rw[if_pos (.inr hh)]
   rw[hi];refine aO f222 ?_;(refine' Bj)
   all_goals first|(exfalso;simp_all;done)|((refine' lB);rfl)
  |false=>
   have hi:fH st t=t.cC::if t.depth=2 then((below st t.cC 2).getD []).filter (λp=>!aC p) else []:=by
    unfold fH;rw[if_neg];rintro(h|h)
    .exact h0 h
    .rw[hh] at h;cases h
   rw[hi];by_cases h2:t.depth=2
   .rw[if_pos h2];have Ou:=Ac (st:=st) (p:=t.cC) (n:=2);refine aO f222 ?_;(repeat' (first|refine' aX|refine' Gt|refine' Z3|refine' ar|fail))
    all_goals first|(exfalso;simp_all;done)|skip
    generalize(below st t.cC 2).getD []=w at *
    refine W.bH (λk l L=>∃(i:Nat)(a2:aH)(c2:Nat)(q:cV),Le [(6,.slice Gw w.length Gx),(5,.slice a2 q.length c2),(8,iv i)] l/\cr [.aJ (.slice a2 q.length c2) 60 5 (ah q),.aJ (.slice Gw w.length Gx) 60 5 (ah w)] L/\k=w.length-i/\i<=w.length/\q.length<=i+1/\q=t.cC::(w.take i).filter λp=>!aC p)
     (λl L=>∃(a2:aH)(c2:Nat),Le [(5,.slice a2 (t.cC::w.filter λp=>!aC p).length c2)] l/\cr [.aJ (.slice a2 (t.cC::w.filter λp=>!aC p).length c2) 60 5 (ah (t.cC::w.filter λp=>!aC p))] L) w.length ⟨0,_,_,[]++[t.cC],bd,aq,af,af,by simp,rfl⟩ ?_ ?_
    .rintro k l L ⟨i,a2,c2,q,ju,hL,rfl,h3,h4,h5⟩;refine W.le ?_ ju hL;clear ju hL;by_cases hi:i<w.length
     .have e:=fC w c9.lW hi;(refine' Bj)
      .refine⟨_,?_,i+1,_,_,q++[w.getD i c9.lW],bd,aq,rfl,af,?_,?_⟩
       .omega
       .simp;omega
       .rw[h5,e,pI,tz,if_pos (by rw[jU];rfl)];rfl
      .refine⟨_,?_,i+1,_,_,q,bd,aq,rfl,af,af,?_⟩
       .omega
       .rw[h5,e,pI,tz,if_neg (by rw[jU];simp)];simp
      .exfalso;omega
     .have fG:i=w.length:=by omega
      subst fG;rw[gS] at h5;subst h5;(refine' Bj)
      all_goals first|(exfalso;omega;done)|exact⟨_,_,bd,aq⟩
    .rintro l L ⟨a2,c2,ju,hL⟩;refine aj ?_;refine W.le ?_ ju hL;(refine' cO)
     (refine' lB);rfl
   .rw[if_neg h2];refine aO f222 ?_;(refine' Bj)
    all_goals first|(exfalso;simp_all;done)|((refine' lB);rfl)
theorem LN (s:St)(v:SA)(st:ak)(h:du 100000 st)(t:bX)(depth level:Int)(hr:cJ s v st):fa aU aW 223 [fF v st,tv t,iv depth,iv level] s (im v) 60 (iE st t depth level):=by
 have tk:=Rd.DE hr;have tO:=Rd.off hr;have tT:=Rd.BO hr;unfold iE;refine aO f223 ?_;(repeat' (first|refine' aX|refine' zc40|refine' Z3|refine' ar|fail))
 .rw[if_pos (by assumption)];(refine' lB);rfl
 .rw[if_neg (by simp_all),if_pos (by assumption)];(refine' lB);rfl
 .have hn:below st t.cC depth=none:=by cases hb:below st t.cC depth<;>simp_all
  rw[if_neg (by simp_all),if_neg (by assumption),hn];(refine' lB);rfl
 .obtain⟨w,hw⟩:=kB.1 jU;rw[if_neg (by simp_all),if_neg (by assumption),hw];(refine' lB);rfl
theorem Xg (s:St)(v:SA)(st:ak)(h:du 100000 st)(t:bX)(o:cV)(ho:pP 200 st [t.cC] []=some o)(hr:cJ s v st):fa aU aW 183 [fF v st,tv t] s (im v) 60 o:=by
 have tk:=Rd.DE hr;have tO:=Rd.off hr;have tT:=Rd.BO hr;refine aO f183 ?_;(repeat(first|refine' wU|refine' ar|fail))
 refine W.bH (λk l L=>∃(f bs:Nat)(q r:cV)(a c a2 c2:_),Le [(2,aP bs),(5,.slice a q.length c),(6,.slice a2 r.length c2)] l/\cr [.aJ (.slice a q.length c) 60 5 (ah q),.aJ (.slice a2 r.length c2) 60 5 (ah r),.box bs (rz v st) 58 false] L/\k=f/\f<=200/\q.length<=200-f/\r.length<=1+4*(200-f)/\pP f st r q=some o)
  (λl L=>∃(a:_)(c:_),Le [(5,.slice a o.length c)] l/\cr [.aJ (.slice a o.length c) 60 5 (ah o)] L) 200 ⟨200,_,[],[t.cC],_,_,_,_,bd,aq,rfl,af,by simp,by simp,ho⟩ ?_ ?_
 .rintro k l L ⟨f,bs,q,r,a,c,a2,c2,ju,hL,rfl,h1,h2,h3,h4⟩;refine W.le ?_ ju hL;clear ju hL;obtain⟨f,rfl⟩:∃g,k=g+1:=by
   cases k with
   |zero=>cases h4
   |succ g=>exact⟨g,rfl⟩
  cases r with
  |nil=>
   have h4:q=o:=by injection h4
   subst h4;(refine' cO)
   all_goals first|(exfalso;simp_all;done)|exact⟨_,_,bd,aq⟩
  |cons p r=>
   rw[pP] at h4;rw[dh] at h3;have Ou:=Ac (st:=st) (p:=p) (n:=p.level);cases hh:aC p with
   |true=>
    rw[hh] at h4;have h4:pP f st r q=some o:=h4;(refine' Bj)
    .refine⟨_,?_,f,_,q,_,_,_,_,_,bd,aq,rfl,af,af,?_,h4⟩
     .omega
     .show r.length<=_;omega
    .exfalso;simp_all
   |false=>
    rw[hh] at h4;have h4:pP f st (if 0<p.level then(below st p p.level).getD []++r else r) (q++[p])=some o:=h4;(repeat' (first|refine' aX|refine' Gt|refine' Z3|refine' ar|fail))
    .have jU:0<p.level:=jU;rw[if_pos jU] at h4;refine⟨_,?_,f,_,_,_,_,_,_,_,bd,aq,rfl,af,?_,?_,h4⟩
     .omega
     .simp;omega
     .simp at Ou⊢;omega
    .have jU:p.level<=0:=jU;rw[if_neg af] at h4;refine⟨_,?_,f,_,_,_,_,_,_,_,bd,aq,rfl,af,?_,?_,h4⟩
     .omega
     .simp;omega
     .show r.length<=_;omega
    .exfalso;simp_all
 .rintro l L ⟨a,c,ju,hL⟩;refine aj ?_;refine W.le ?_ ju hL;(refine' cO)
  (refine' lB);rfl
section
variable {E:dy}{X:dM}{Γ:gY}{l:Kn}{L L2 R:bn}{K:KO}{f:FuncId}{xs:List Operand}{ts:Array TypeId}{vs:aQ}{r:Value}{A:List Nat}{v:SA}{st:ak}{s:St}{Lm L0:bn}
theorem WO.callL (hx:ky l xs vs)(h:∀s,fI E X f vs s Lm [] λr' L'=>r'=r/\L'=L0)(hp:oz Lm L R)(k:∀m m',kb L m->m<=m'->K r (L0++R) m m' (λi=>i∈([]:List Nat)\/i∈Lm.flatMap It.aS\/(m<=i/\i<m')) (λi=>i∈Lm.flatMap It.aS\/(m<=i/\i<m'))):WO E X Γ l (.call ⟨.value (.func f),⟨xs⟩,ts⟩) L K:=
 WO.call (Lm:=Lm) (R:=R) hx hp.cR (λs hi b hb=>by cases hb) (λs _=>h s) (by rintro r' L' m m' ho hm ⟨rfl,rfl⟩;exact k m m' ho hm)
structure yT (s:St)(v:SA)(st:ak):Prop where
 a:cJ s v st
 g:bM s v.g st.cG.length 5 (ah st.cG)
 d:bM s v.d st.eg.length 5 (ah st.eg)
structure ZY (Γ:gY)(L:bn)(v:SA)(st:ak):Prop where
 a:qQ Γ L v st
 g:jR Γ L v.g st.cG.length 5 (ah st.cG)
 d:jR Γ L v.d st.eg.length 5 (ah st.eg)
abbrev Ff (v:SA):List Nat:=im v++(ai v.g++ai v.d)
theorem ZY.row (h:ZY Γ L v st)(hi:Inv Γ s L):yT s v st/\∀b∈Ff v,EF Γ s b:=by
 refine⟨⟨(h.a.row hi).1,(h.g.row hi).1,(h.d.row hi).1⟩,λb hb=>?_⟩;rcases fJ.1 hb with hb|hb
 .exact(h.a.row hi).2 b hb
 .rcases fJ.1 hb with hb|hb
  .exact(h.g.row hi).2 b hb
  .exact(h.d.row hi).2 b hb
abbrev LO (E:dy)(X:dM)(f:FuncId)(vs:aQ)(s:St)(A:List Nat)(cQ:ak)(mk:Value->Value):Prop:=fI E X f vs s [] A λr L=>∃v':SA,r=mk (fF v' cQ)/\L=eM v' cQ
theorem WO.Wd {cQ:ak}{mk:Value->Value}(hx:ky l xs vs)(h:∀s,yT s v st->LO E X f vs s (Ff v) cQ mk)(hh:ZY Γ L v st)(k:∀m m' v',kb L m->m<=m'->K (mk (fF v' cQ)) (eM v' cQ++L) m m' (λi=>i∈Ff v\/i∈([]:bn).flatMap It.aS\/(m<=i/\i<m')) (λi=>i∈([]:bn).flatMap It.aS\/(m<=i/\i<m'))):WO E X Γ l (.call ⟨.value (.func f),⟨xs⟩,ts⟩) L K:=
 WO.call (Lm:=[]) (R:=L) hx (.refl _) (λs hi=>(hh.row hi).2) (λs hi=>h s (hh.row hi).1) (by rintro r' L' m m' ho hm ⟨v',rfl,rfl⟩;exact k m m' v' ho hm)
theorem WO.callN0 {cQ:ak}{mk:Value->Value}(hx:ky l xs vs)(h:∀s,LO E X f vs s [] cQ mk)(k:∀m m' v',kb L m->m<=m'->K (mk (fF v' cQ)) (eM v' cQ++L) m m' (λi=>i∈([]:List Nat)\/i∈([]:bn).flatMap It.aS\/(m<=i/\i<m')) (λi=>i∈([]:bn).flatMap It.aS\/(m<=i/\i<m'))):WO E X Γ l (.call ⟨.value (.func f),⟨xs⟩,ts⟩) L K:=
 WO.call (Lm:=[]) (R:=L) hx (.refl _) (λs hi b hb=>by cases hb) (λs _=>h s) (by rintro r' L' m m' ho hm ⟨v',rfl,rfl⟩;exact k m m' v' ho hm)
theorem jR.apart {a:aH}{n sz:Nat}{cs:aQ}(hh:jR Γ R a n sz cs)(hi:Inv Γ s (Lm++R)):∀b∈ai a,b∉Lm.flatMap It.aS:=by
 have Bh:=hi.nd;rw[B3,qB] at Bh;have hown:∀{x:It},x∈R->∀b∈x.aS,b∉Lm.flatMap It.aS:=λhx b hb hm=>Bh.2.2 b hm b (oW.2 ⟨_,hx,hb⟩) rfl
 intro b hb;cases hh with
 |rd h=>
  intro hm;obtain⟨x,hx,hxb⟩:=oW.1 hm;have h1:=(hi.lt x (di _ hx) b hxb).2;have h2:=Rd.lt h b hb;rcases h1 with h1|h1
  .omega
  .exact h.M b hb h1
 |aJ h=>exact hown h b (by
   cases a with
   |none=>simp[ai] at hb
   |some a=>simpa[It.aS,mN,ai] using hb)
 |sub h hr kX=>
  rename_i c e n0 a0 cs0;exact hown h b (by
   have:=kX b hb;cases a0 with
   |none=>simp[ai] at this
   |some a=>simpa[It.aS,mN,ai] using this)
 |box h ha hn=>
  subst ha;exact hown h b (by simpa[It.aS,ai] using hb)
theorem WO.callMR {cQ:ak}{ok:Bool}{mk:Value->Value}{a:aH}{n sz:Nat}{cs:aQ}(hx:ky l xs vs)(h:∀s,bM s a n sz cs->(∀b∈ai a,b∉(eM v st).flatMap It.aS)->eP E X f vs s (ai a) v st cQ ok mk)(hp:oz (eM v st) L R)(hh:jR Γ R a n sz cs)(k:∀m m' v',kb L m->m<=m'->(ok=false->v'=v)->K (mk (fF v' cQ)) (eM v' cQ++R) m m' (λi=>i∈ai a\/i∈(eM v st).flatMap It.aS\/(m<=i/\i<m')) (λi=>i∈(eM v st).flatMap It.aS\/(m<=i/\i<m'))):WO E X Γ l (.call ⟨.value (.func f),⟨xs⟩,ts⟩) L K:=
 WO.call (Lm:=eM v st) (R:=R) hx hp.cR (λs hi=>(hh.row (hi.cR hp.cR|>.sub ⟨R,.refl _,np _ _⟩)).2) (λs hi=>h s (hh.row (hi.cR hp.cR|>.sub ⟨R,.refl _,np _ _⟩)).1 (jR.apart hh (hi.cR hp.cR))) (by rintro r L' m m' ho hm ⟨v',hv,rfl,rfl⟩;exact k m m' v' ho hm hv)
theorem retN {rs:List ResultVar}{x:Ex}{v':SA}{cQ:ak}{mk:Value->Value}{ws:aQ}(hx:x= .normal\/x= .ret)(hr:pV E l L rs ws)(hL:cr (eM v' cQ) L)(hv:gF ws=mk (fF v' cQ)):
  ux E rs (λr L=>∃v':SA,r=mk (fF v' cQ)/\L=eM v' cQ) x l L:=⟨hx,ws,_,hr,hL,v',hv,rfl⟩
theorem retL {rs:List ResultVar}{x:Ex}{ws:aQ}(hx:x= .normal\/x= .ret)(hr:pV E l L rs ws)(hL:cr L0 L)(hv:gF ws=r):ux E rs (λr' L'=>r'=r/\L'=L0) x l L:=⟨hx,ws,_,hr,hL,hv,rfl⟩
end
theorem LP:∀(new old B:aQ),old.length=new.length->Go.Ev.pc new (old++B)=some (new++B)
 |[],[],B,_=>rfl
 |[],_::_,B,h=>by cases h
 |x::new,[],B,h=>by cases h
 |x::new,y::old,B,h=>by
  show ob (Go.Ev.pc new (old++B)) (λr=>some (x::r))=_;rw[LP new old B (by simpa using h)];rfl
theorem Hb:∀(A new old B:aQ),old.length=new.length->fO A.length new (A++(old++B))=some (A++(new++B))
 |[],new,old,B,h=>LP new old B h
 |x::A,new,old,B,h=>by
  show ob (fO A.length new (A++(old++B))) (λr=>some (x::r))=_;rw[Hb A new old B h];rfl
theorem Xh {α:Type}{sz:Nat}{enc:c9 α sz}(p:List α){i:Nat}(q:α)(hi:i<p.length):fO (i*sz) (c9.cells (sz:=sz) q) (ah (sz:=sz) p)=some (ah (sz:=sz) (p.set i q)):=by
 have h1:p=p.take i++(p.getD i (c9.lW (sz:=sz))::p.drop (i+1)):=by
  rw[aY,bk hi];simp
 have h2:p.set i q=p.take i++q::p.drop (i+1):=by rw[List.set_eq_take_append_cons_drop,if_pos hi]
 have hA:(ah (sz:=sz) (p.take i)).length=i*sz:=by rw[bc,dg,Ba (rE hi)]
 rw[h2]
 conv=>lhs;rw[h1]
 rw[qP,qP,dG,dG,<-hA];exact Hb _ _ _ _ (by rw[c9.len,c9.len])
theorem Xi {l:aQ}(h:∀v∈l,flat v=true):jj l=true:=by
 induction l with
 |nil=>rfl
 |cons x l ih=>
  show bo (flat x) (jj l) false=true;rw[h x (by simp),ih (λy hy=>h y (by simp[hy]))];rfl
theorem WO.storeEA {E:dy}{X:dM}{Γ:gY}{l:Kn}{L L':bn}{K:KO}{x y:Operand}{t:TypeId}{a:aH}{n sz:Nat}{α:Type}{enc:c9 α sz}{p:List α}{q:α}{i c e:Nat}[ht:iG E t sz](hx:Ev l x (da a i sz 0))(hy:Ev l y (.agg ⟨c9.cells (sz:=sz) q⟩))
  (hu:yk (.aJ (.slice a n c) e sz (ah (sz:=sz) p)) (.aJ (.slice a n c) e sz (ah (sz:=sz) (p.set i q))) L L')(hi:i<p.length)(k:∀n,K (.tuple ⟨[]⟩) L' n n (λi=>i∈ai a) (λi=>i∈ai a)):WO E X Γ l (.store t x y) L K:=λtm s h1 h2=>by
 obtain⟨R,p1,p2⟩:=hu.cR;have hm:It.aJ (.slice a n c) e sz (ah (sz:=sz) p)∈L:=p1.mem_iff.2 (by simp);rcases h2.it _ hm with⟨h3,h4⟩|⟨b,n',k',w,h3,h4,h5,h6⟩
 .cases h3
  have:=bc (sz:=sz) p;rw[h4] at this;have hp:=enc.pos;have:p.length*sz=0:=by simpa using this.symm
  rcases Nat.mul_eq_zero.1 this with h|h<;>omega
 .cases h3
  have dA:=(h2.may hm (b:=b) (by simp[It.aS,mN]));have hr:=h2.aR dA;have dK:=Xh (enc:=enc) p q hi;refine fS.pure (v:=.tuple ⟨[]⟩) (s':=(s.aR b).put b (some (.cells (ah (sz:=sz) (p.set i q)) e w))) (λcall=>?_) ⟨L',(λi=>i∈ai (jF b)),(λi=>i∈ai (jF b)),hr.put hu rfl rfl ?_,(kx.trans (cW dA.1 (by simp[ai])) (jS (by simpa using dA.1) (by simp[ai]) (by simp[ai]))),by rw[dY,cw];exact k _⟩
  .show(Ez (aI tm x) λb o=>mI E s t b o (aI tm y))=_;rw[hx.eval h1,hy.eval h1];show mI E s t b (0+(i*sz+0)) _=_;unfold mI St.row St.look;rw[h4];simp only[cq,ht.h,ni,wo];show eb (Nat.beq (eh (c9.cells (sz:=sz) q)) sz) (eb (jj (c9.cells (sz:=sz) q)) (ob (fO (i*sz) (c9.cells (sz:=sz) q) (ah (sz:=sz) p)) _))=_;rw[dK,dm,c9.len,lz,Xi (c9.fl (sz:=sz) q)];rfl
  .exact .inr ⟨b,_,_,w,rfl,by show T.get (St.heap _) b=_;simp,by rw[bc] at h5⊢;simpa using h5,h6⟩
theorem WO.ZZ {E:dy}{X:dM}{Γ:gY}{l:Kn}{L R:bn}{K:KO}{x y:Operand}{t t2:TypeId}{a a2:aH}{n sz:Nat}{α:Type}{enc:c9 α sz}{e c c2:Nat}{q:List α}[ht:TT E t e sz α enc][ht2:TT E t2 e sz α enc](hx:Ev l x (.slice a ([]:List α).length c))(hy:Ev l y (.slice a2 n c2))(hr:NF (.aJ (.slice a ([]:List α).length c) e sz (ah (sz:=sz) ([]:List α))) L R)(hs:jR Γ L a2 n sz (ah (sz:=sz) q))(hq:q.length=n)(hn:n<=1000000)
  (k:∀b b' a' c',kb L b->b<=b'->(∀i∈ai a',i∈ai a\/i=b)->K (.slice a' n c') (.aJ (.slice a' n c') e sz (ah (sz:=sz) q)::R) b b' (λi=>i∈ai a2\/i∈ai a\/i=b) (λi=>i∈ai a\/i=b)):WO E X Γ l (.call ⟨.builtin .append,⟨[x,y]⟩,⟨[t,t2]⟩⟩) L K:=by
 subst hq;exact WO.PT (p:=([]:List α)) (q:=q) hx hy hr hs (by simpa using hn) k
theorem WO.P0 {E:dy}{X:dM}{Γ:gY}{l:Kn}{L L':bn}{K:KO}{x y:Operand}{t:TypeId}{a:aH}{n sz:Nat}{α:Type}{enc:c9 α sz}{p:List α}{q:α}{i c e:Nat}[ht:iG E t sz](hx:Ev l x (da a i sz 0))
  (hu:yk (.aJ (.slice a n c) e sz (ah (sz:=sz) p)) (.aJ (.slice a n c) e sz (ah (sz:=sz) (p.set i q))) L L')(hy:Ev l y (.agg ⟨c9.cells (sz:=sz) q⟩))(hi:i<p.length)(k:∀n,K (.tuple ⟨[]⟩) L' n n (λi=>i∈ai a) (λi=>i∈ai a)):WO E X Γ l (.store t x y) L K:=WO.storeEA hx hy hu hi k
theorem WO.peql {X:dM}{Γ:gY}{l:Kn}{L:bn}{K:KO}{x y:Operand}{t2:TypeId}{p q:iL}(hx:Ev l x (.agg ⟨rk p⟩))(hy:Ev l y (.agg ⟨rk q⟩))(k:∀n,K (.bool (decide (p=q))) L n n Z Z):WO aU X Γ l (.binOp .eql 60 x y t2) L K:=by
 refine WO.aeql hx hy rfl (wX _ _ _ _ _ _ _ _ _ _) λn=>?_
 have:=k n;obtain⟨a,b,c,d,e⟩:=p;obtain⟨a',b',c',d',e'⟩:=q;simpa[and_assoc] using this
theorem WO.pneq {X:dM}{Γ:gY}{l:Kn}{L:bn}{K:KO}{x y:Operand}{t2:TypeId}{p q:iL}(hx:Ev l x (.agg ⟨rk p⟩))(hy:Ev l y (.agg ⟨rk q⟩))(k:∀n,K (.bool !(decide (p=q))) L n n Z Z):WO aU X Γ l (.binOp .neq 60 x y t2) L K:=by
 refine WO.aneq hx hy rfl (wX _ _ _ _ _ _ _ _ _ _) λn=>?_
 have:=k n;obtain⟨a,b,c,d,e⟩:=p;obtain⟨a',b',c',d',e'⟩:=q;simpa[and_assoc] using this
section
variable {E:dy}{X:dM}{Γ:gY}{l:Kn}{L L2 R:bn}{K:KO}{f:FuncId}{xs:List Operand}{ts:Array TypeId}{vs:aQ}{v:SA}{st:ak}{s:St}
theorem WO.callMV {cQ:ak}{ok:Bool}{mk:Value->Value}{a:aH}{n c e sz:Nat}{cs:aQ}(hx:ky l xs vs)(h:∀s,bM s a n sz cs->(∀b∈ai a,b∉(eM v st).flatMap It.aS)->E0 s a n c e sz->eP E X f vs s (ai a) v st cQ ok mk)(hp:oz (eM v st) L R)(hh:It.aJ (.slice a n c) e sz cs∈R)(k:∀m m' v',kb L m->m<=m'->(ok=false->v'=v)->K (mk (fF v' cQ)) (eM v' cQ++R) m m' (λi=>i∈ai a\/i∈(eM v st).flatMap It.aS\/(m<=i/\i<m')) (λi=>i∈(eM v st).flatMap It.aS\/(m<=i/\i<m'))):WO E X Γ l (.call ⟨.value (.func f),⟨xs⟩,ts⟩) L K:=
 WO.call (Lm:=eM v st) (R:=R) hx hp.cR (λs hi=>((jR.aJ hh).row (hi.cR hp.cR|>.sub ⟨R,.refl _,np _ _⟩)).2)
   (λs hi=>by
    have tG:=hi.cR hp.cR|>.sub ⟨R,.refl _,np _ _⟩;have h1:=(jR.aJ hh).row tG;exact h s h1.1 (jR.apart (.aJ hh) (hi.cR hp.cR)) (yh.slv (tG.it _ hh) λb hb=>(h1.2 b hb).1))
   (by rintro r L' m m' ho hm ⟨v',hv,rfl,rfl⟩;exact k m m' v' ho hm hv)
end
theorem invInit {s:St}{Lm:bn}{A:List Nat}(h1:∀x∈Lm,x.ok s)(h2:∀x∈Lm,∀b∈x.aS,b<s.next)(h3:(Lm.flatMap It.aS).Nodup):Inv ⟨s,Lm.flatMap It.aS,A⟩ s Lm:=
 ⟨λ_ _ _=>rfl,cy _,h1,λx hx b hb=>⟨h2 x hx b hb,.inr (oW.2 ⟨x,hx,hb⟩)⟩,h3,λb hb=>.inl hb,λb hb=>.inl hb,λb hb=>.inl hb,λb hb=>.inl hb⟩
theorem LQ {α:Type}{sz:Nat}{enc:c9 α sz}{fid g e:Nat}{fn:Func}{dec:aQ->Option (List α)}{cells:α->aQ}{sort:List α->List α}{apart:List α->Bool}(hdec:∀l:List α,dec (ah (sz:=sz) l)=some l)(Iz:∀l:List α,l.flatMap cells=ah (sz:=sz) l)(Kj:aU.fn.get fid=some fn)
  (hk:∀args s k,xT aW fid args s k=Ev.Ko g sz dec cells sort apart args s)(cX:∀l,(sort l).length=l.length)(s:St)(a:aH)(c n:Nat)(p:List α)(h1:1<=n)(h2:n<=p.length)(h3:p.length<=100000)(Jr:apart (p.take n)=true):
  AJ fid [.slice a n c,.func (.func g) ⟨[]⟩ ⟨[]⟩] s [.aJ (.slice a p.length c) e sz (ah (sz:=sz) p)] [] λR L=>R= .tuple ⟨[]⟩/\L=[.aJ (.slice a p.length c) e sz (ah (sz:=sz) (sort (p.take n)++p.drop n))]:=λi1 i2 i3=>by
 have hI:=invInit (A:=[]) i1 i2 i3;rcases hI.it _ jr with⟨h4,_⟩|⟨b,n',k',w,h4,h5,h6,h7⟩
 .exfalso;have:=(Value.slice.inj h4).2.1;omega
 .cases h4
  have dA:=hI.may jr (b:=b) (by simp[It.aS,mN]);have hr:=hI.aR dA;have ri:=bc (sz:=sz) p;have hle:n*sz<=p.length*sz:=JB _ h2;have tN:(ah (sz:=sz) p).take 0++(sort (p.take n)).flatMap cells++(ah (sz:=sz) p).drop (0+n*sz)=ah (sz:=sz) (sort (p.take n)++p.drop n):=by
   rw[Iz,mP,<-rY,List.take_zero,oa,ni]
  refine rW.hook Kj (s':=(s.aR b).put b (some (.cells (ah (sz:=sz) (sort (p.take n)++p.drop n)) e w))) (v:=.tuple ⟨[]⟩) (λk=>(hk _ _ _).trans ?_) ⟨_,hr.put (x':=.aJ (.slice (jF b) p.length c) e sz (ah (sz:=sz) (sort (p.take n)++p.drop n))) yk.here rfl rfl (Or.inr ⟨b,p.length,_,w,rfl,by show T.get (St.heap _) b=_;simp,?_,h7⟩),rfl,rfl⟩
  .show eb (Nat.beq g g&&Nat.ble 1 n&&Nat.ble n 1000000) (s.row b λc e w s=>eb (Nat.ble (0+n*sz) c.length)<| ob (dec ((c.drop 0).take (n*sz))) λl=>eb (apart l&&Nat.beq l.length n)<| aG (Value.tuple ⟨[]⟩) (s.put b (some (.cells (c.take 0++(sort l).flatMap cells++c.drop (0+n*sz)) e w))))=_;rw[lz,gR h1,gR (show n<=1000000 by omega)];show(s.row b λc e w s=>_)=_;unfold St.row St.look;rw[h5];simp only[cq];rw[gR (show 0+n*sz<=(ah (sz:=sz) p).length by rw[ri,ni];exact hle),B1,pw,hdec];show eb (apart (p.take n)&&Nat.beq (p.take n).length n) _=_;rw[Jr,show(p.take n).length=n by rw[dg];omega,lz];show aG _ _=_;rw[tN];rfl
  .rw[bc]
   congr 1
   rw[bR,cX,dg,gp];omega
theorem LS (x:Fnd):∀l,(Ev.yd x l).length=l.length+1
 |[]=>rfl
 |y::l=>by
  unfold Ev.yd;split
  .rfl
  .rw[dh,LS x l,dh]
theorem vt:∀l,(Ev.iF l).length=l.length
 |[]=>rfl
 |x::l=>by
  show(Ev.yd x (Ev.iF l)).length=_;rw[LS,vt l,dh]
theorem LU (x:bU):∀l,(Ev.ye x l).length=l.length+1
 |[]=>rfl
 |y::l=>by
  unfold Ev.ye;split
  .rfl
  .rw[dh,LU x l,dh]
theorem vu:∀l,(Ev.ja l).length=l.length
 |[]=>rfl
 |x::l=>by
  show(Ev.ye x (Ev.ja l)).length=_;rw[LU,vu l,dh]
theorem LW:∀l:dx,Ev.RJ (ah l)=some l
 |[]=>rfl
 |x::l=>by
  rw[dG];show(Ev.RJ (ah l)).map _=_;rw[LW l];rfl
theorem LX:∀l:eV,Ev.RL (ah l)=some l
 |[]=>rfl
 |x::l=>by
  rw[dG];show(Ev.RL (ah l)).map _=_;rw[LX l];rfl
theorem Xj (s:St)(a:aH)(c n:Nat)(p:dx)(h1:1<=n)(h2:n<=p.length)(h3:p.length<=100000)(Jr:Ev.wK (p.take n)=true):AJ 121 [.slice a n c,.func (.func 122) ⟨[]⟩ ⟨[]⟩] s [.aJ (.slice a p.length c) 70 2 (ah p)] [] λR L=>R= .tuple ⟨[]⟩/\L=[.aJ (.slice a p.length c) 70 2 (ah (Ev.iF (p.take n)++p.drop n))]:=
 LQ (fn:=f121) LW (λl=>rfl) cU (λargs s k=>rfl) vt s a c n p h1 h2 h3 Jr
theorem Xk (s:St)(a:aH)(c n:Nat)(p:eV)(h1:1<=n)(h2:n<=p.length)(h3:p.length<=100000)(Jr:Ev.wL (p.take n)=true):AJ 123 [.slice a n c,.func (.func 124) ⟨[]⟩ ⟨[]⟩] s [.aJ (.slice a p.length c) 37 3 (ah p)] [] λR L=>R= .tuple ⟨[]⟩/\L=[.aJ (.slice a p.length c) 37 3 (ah (Ev.ja (p.take n)++p.drop n))]:=
 LQ (fn:=f123) LX (λl=>rfl) cU (λargs s k=>rfl) vu s a c n p h1 h2 h3 Jr
abbrev vv (b:Nat)(a:aH)(n c:Nat)(p:dx)(a':aH)(n' c':Nat)(q:eV):bn:=[.box b [.slice a n c,.slice a' n' c'] 26 false,.aJ (.slice a p.length c) 70 2 (ah p),.aJ (.slice a' q.length c') 37 3 (ah q)]
section
variable {E:dy}{X:dM}{Γ:gY}{l:Kn}{L R:bn}{K:KO}{g:FuncId}{xs:List Operand}{ts:Array TypeId}{vs:aQ}{r:Value}{s:St}{x y:It}
theorem WO.call1 (hx:ky l xs vs)(h:∀s,fI E X g vs s [x] [] λR L=>R=r/\L=[y])(hp:oz [x] L R)(k:∀m m',kb L m->m<=m'->K r (y::R) m m' (λi=>i∈([]:List Nat)\/i∈[x].flatMap It.aS\/(m<=i/\i<m')) (λi=>i∈[x].flatMap It.aS\/(m<=i/\i<m'))):WO E X Γ l (.call ⟨.value (.func g),⟨xs⟩,ts⟩) L K:=
 WO.call (Lm:=[x]) (R:=R) (A:=[]) hx hp.cR (λs hi b hb=>by cases hb) (λs hi=>h s) (by rintro r' L' m m' ho hm ⟨rfl,rfl⟩;exact k m m' ho hm)
end
theorem LY (s:St)(b:Nat)(a:aH)(n c:Nat)(p:dx)(a':aH)(n' c':Nat)(q:eV)(h1:1<=n)(h2:n<=p.length)(h3:p.length<=100000)(Jr:Ev.wK (p.take n)=true)(h1':1<=n')(MZ:n'<=q.length)(RW:q.length<=100000)(hap':Ev.wL (q.take n')=true):
  AJ 81 [aP b] s (vv b a n c p a' n' c' q) [] λR L=>R= .tuple ⟨[]⟩/\L=vv b a n c (Ev.iF (p.take n)++p.drop n) a' n' c' (Ev.ja (q.take n')++q.drop n'):=by
 have e1:(Ev.iF (p.take n)++p.drop n).length=p.length:=by rw[bR,vt,dg,gp];omega
 have e2:(Ev.ja (q.take n')++q.drop n').length=q.length:=by rw[bR,vu,dg,gp];omega
 unfold vv;rw[e1,e2];refine aO f81 ?_;(repeat' (first|refine' aX|((with_reducible apply WO.call1);exact aD;(intro s;exact Xj s _ _ _ _ af af af (by assumption));exact eu;intro _ _ _ _)|((with_reducible apply WO.call1);exact aD;(intro s;exact Xk s _ _ _ _ af af af (by assumption));exact eu;intro _ _ _ _)|refine' ar|fail))
 all_goals exact⟨bB,_,_,bj,aq,rfl,rfl⟩
section
variable {E:dy}{X:dM}{Γ:gY}{l:Kn}{L R:bn}{K:KO}{g:FuncId}{xs:List Operand}{ts:Array TypeId}{vs:aQ}{r:Value}{s:St}{a a2:aH}{n n2 sz sz2:Nat}{cs cs2:aQ}
theorem WO.VV (hx:ky l xs vs)(h:∀s,bM s a n sz cs->bM s a2 n2 sz2 cs2->pW E X g vs s (ai a++ai a2) r)(h1:jR Γ L a n sz cs)(h2:jR Γ L a2 n2 sz2 cs2)(k:∀m m',kb L m->m<=m'->K r L m m' (λi=>i∈ai a++ai a2\/i∈([]:bn).flatMap It.aS\/(m<=i/\i<m')) (λi=>i∈([]:bn).flatMap It.aS\/(m<=i/\i<m'))):WO E X Γ l (.call ⟨.value (.func g),⟨xs⟩,ts⟩) L K:=
 WO.tH hx (λs hi=>⟨λi hb=>by
   rcases fJ.1 hb with hb|hb
   .exact(h1.row hi).2 i hb
   .exact(h2.row hi).2 i hb,h s (h1.row hi).1 (h2.row hi).1⟩) k
end
theorem qX {α:Type}(P:α->Bool)(l:List α)(d:α){j:Nat}(hj:j<l.length):(l.take (j+1)).filter P=(l.take j).filter P++if P (l.getD j d) then [l.getD j d] else []:=by
 rw[vQ,pI,aY,bk hj]
 congr 1
 show([l[j]]:List α).filter P=if P l[j]=true then [l[j]] else []
 rw[tz,List.filter_nil]
theorem DT (s:St)(b3:Nat)(o:Op)(x:Fnd)(hr:bM s (jF b3) 1 5 (oR o)):bO 76 [.agg ⟨c9.cells x⟩,aP b3] s (ai (jF b3)) (.bool (decide (x.ag=o.ag))):=by
 have M3:=Rd.of (A:=ai (jF b3)) hr λ_ hb=>hb
 refine aO f76 ?_;(repeat' (first|refine' aX|refine' Z7|refine' ar|fail))
 all_goals(refine' av)
 all_goals rfl
theorem DU (s:St)(b3:Nat)(o:Int)(x:bU)(hr:bM s (jF b3) 1 1 [iv o]):bO 79 [.agg ⟨c9.cells x⟩,aP b3] s (ai (jF b3)) (.bool (decide (x.id=o))):=by
 have M3:=Rd.of (A:=ai (jF b3)) hr λ_ hb=>hb
 refine aO f79 ?_;(repeat' (first|refine' aX|refine' Z7|refine' ar|fail))
 all_goals(refine' av)
 all_goals rfl
theorem idx1_ok (s:St)(a:aH)(c:Nat)(p:dx)(hp:p.length<=1000)(b3:Nat)(o:Op)(hr:bM s a p.length 2 (ah p))(hb:bM s (jF b3) 1 5 (oR o)):bO 118 [.slice a p.length c,.func (.func 76) ⟨[]⟩ ⟨[aP b3]⟩] s (ai a++ai (jF b3)) (iv (oI (p.findIdx? λx=>decide (x.ag=o.ag)))):=by
 refine' za8
 have tU:∀(s:St)(x:Fnd),bM s (jF b3) 1 5 (oR o)->bO 76 [.agg ⟨c9.cells x⟩,aP b3] s (ai (jF b3)) (.bool (decide (x.ag=o.ag))):=λs x hr=>DT s b3 o x hr
 refine aO f118 ?_;(refine' cO)
 refine W.bH (λm l L=>∃(i:Nat),Le [(0,.slice a p.length c),(1,.func (.func 76) ⟨[]⟩ ⟨[aP b3]⟩),(7,iv (p.length:Int)),(8,iv (i:Int))] l/\cr [] L/\m=p.length-i/\i<=p.length/\∀j,j<i->(λx:Fnd=>decide (x.ag=o.ag)) (p.getD j c9.lW)≠true)
  (λl L=>Le [] l/\cr [] L/\(p.findIdx? λx=>decide (x.ag=o.ag))=none) _ ⟨0,bd,aq,rfl,af,λj hj=>by omega⟩ ?_ ?_
 .rintro m l L ⟨i,hl,hL,rfl,h1,h2⟩;refine W.le ?_ hl hL;clear hl hL;by_cases hi:i<p.length
  ·(refine' aam)
   all_goals try refine cI
   .have e:(p.findIdx? λx=>decide (x.ag=o.ag))=some i:=mj (d:=c9.lW (α:=Fnd)) hi (by rw[cl];assumption) h2;(refine' av)
    rw[e];rfl
   .refine⟨_,af,i+1,bd,aq,rfl,af,λj hj=>?_⟩;by_cases v7:j=i
    .subst v7;rw[ne_eq,cl];assumption
    .exact h2 j af
  .have e:(p.findIdx? λx=>decide (x.ag=o.ag))=none:=yO c9.lW λj hj=>h2 j af
   (refine' cO)
   all_goals try refine cI
   all_goals exact⟨bd,aq,e⟩
 .rintro l L ⟨hl,hL,h2⟩;refine aj ?_;refine W.le ?_ hl hL;clear hl hL;rw[h2];(refine' cO)
  all_goals(refine' av)
  all_goals rfl
theorem aab (s:St)(a:aH)(c:Nat)(p:dx)(hp:p.length<=1000)(b3:Nat)(o:Op)(hb:bM s (jF b3) 1 5 (oR o))(hm:b3∉[It.aJ (.slice a p.length c) 70 2 (ah p)].flatMap It.aS):
  AJ 75 [.slice a p.length c,.func (.func 76) ⟨[]⟩ ⟨[aP b3]⟩] s [.aJ (.slice a p.length c) 70 2 (ah p)] (ai (jF b3)) λR L=>∃p':dx,p'.length=p.length/\p'.take (p.filter λx=>!decide (x.ag=o.ag)).length=(p.filter λx=>!decide (x.ag=o.ag))/\R= .slice a (p.filter λx=>!decide (x.ag=o.ag)).length c/\L=[.aJ (.slice a p.length c) 70 2 (ah p')]:=by
 have M3:Rd ⟨s,[It.aJ (.slice a p.length c) 70 2 (ah p)].flatMap It.aS,ai (jF b3)⟩ (jF b3) 1 5 (oR o):=⟨hb,λ_ hb=>hb,λi hi=>by rw[show i=b3 by simpa[ai] using hi];exact hm⟩;have tU:∀(s:St)(x:Fnd),bM s (jF b3) 1 5 (oR o)->bO 76 [.agg ⟨c9.cells x⟩,aP b3] s (ai (jF b3)) (.bool (decide (x.ag=o.ag))):=λs x hr=>DT s b3 o x hr
 have IV:∀s,bM s a p.length 2 (ah p)->bM s (jF b3) 1 5 (oR o)->bO 118 [.slice a p.length c,.func (.func 76) ⟨[]⟩ ⟨[aP b3]⟩] s (ai a++ai (jF b3)) (iv (oI (p.findIdx? λx=>decide (x.ag=o.ag)))):=λs h1 h2=>idx1_ok s a c p hp b3 o h1 h2
 cases hf:p.findIdx? λx=>decide (x.ag=o.ag) with
 |none=>
  rw[hf] at IV;have Se:∀s,bM s a p.length 2 (ah p)->bM s (jF b3) 1 5 (oR o)->bO 118 [.slice a p.length c,.func (.func 76) ⟨[]⟩ ⟨[aP b3]⟩] s (ai a++ai (jF b3)) (iv (-1)):=IV;have SU:(p.filter λx=>!decide (x.ag=o.ag))=p:=B7.2 λx hx=>by
   have:=Ap.1 hf x hx;rw[this];rfl
  rw[SU];refine aO f75 ?_;(repeat' (first|refine' aX|refine' aaa|refine' ar|fail))
  all_goals try refine cI
  all_goals exact⟨bB,_,_,bj,aq,p,rfl,gS,rfl,rfl⟩
 |some i0=>
  rw[hf] at IV;have Se:∀s,bM s a p.length 2 (ah p)->bM s (jF b3) 1 5 (oR o)->bO 118 [.slice a p.length c,.func (.func 76) ⟨[]⟩ ⟨[aP b3]⟩] s (ai a++ai (jF b3)) (iv (i0:Int)):=IV;obtain⟨g1,g2,g3⟩:=nq.1 hf;have hz:(p.take (i0+1)).filter (λx=>!decide (x.ag=o.ag))=p.take i0:=by
   rw[qX _ p c9.lW g1,aY,bk g1];have:(!decide (p[i0].ag=o.ag))=false:=by simpa using g2
   have e2:(p.take i0).filter (λx=>!decide (x.ag=o.ag))=p.take i0:=B7.2 λx hx=>by
    obtain⟨j,hj,rfl⟩:=l5 hx;rw[dg] at hj;rw[List.getElem_take];have:=g3 j af;simpa using this
   rw[e2];simp only[pH];rw[if_neg (by rw[this];exact jL),iH]
  refine aO f75 ?_;(repeat' (first|refine' aX|refine' aaa|refine' ar|fail))
  all_goals try refine cI
  refine W.bH (λm l L=>∃(w:dx)(i j:Nat),Le [(0,.slice a p.length c),(1,.func (.func 76) ⟨[]⟩ ⟨[aP b3]⟩),(5,iv (i:Int)),(6,iv (j:Int))] l/\cr [.aJ (.slice a p.length c) 70 2 (ah w)] L/\m=p.length-j/\w.length=p.length/\i<j/\j<=p.length/\w.take i=(p.take j).filter (λx=>!decide (x.ag=o.ag))/\w.drop j=p.drop j)
   (λl L=>∃(w:dx)(i:Nat),Le [(0,.slice a p.length c),(5,iv (i:Int))] l/\cr [.aJ (.slice a p.length c) 70 2 (ah w)] L/\w.length=p.length/\i<=p.length/\w.take i=p.filter (λx=>!decide (x.ag=o.ag))) _ ⟨p,i0,i0+1,bd,aq,rfl,rfl,af,af,hz.symm,rfl⟩ ?_ ?_
  .rintro m l L ⟨w,i,j,hl,hL,rfl,h1,h2,h3,h4,h5⟩;refine W.le ?_ hl hL;clear hl hL;by_cases hj:j<p.length
   .have hwj:w.getD j c9.lW=p.getD j c9.lW:=by
     have:=gb (λl=>l.getD 0 c9.lW) h5;simpa[aY,xF] using this
    have oO:=qX (λx:Fnd=>!decide (x.ag=o.ag)) p c9.lW hj;(refine' aam)
    all_goals try refine cI
    .refine⟨_,af,w.set i (w.getD j c9.lW),i+1,j+1,bd,aq,rfl,by rw[gZ];exact h1,af,af,?_,?_⟩
     .rw[oO,<-h4,<-hwj,if_pos (by rw[iO (by assumption)];rfl)];rw[vQ,List.getElem?_set_self af,List.take_set_of_le (cy _)];rfl
     .rw[List.drop_set_of_lt af,<-lZ,h5,lZ]
    .refine⟨_,af,w,i,j+1,bd,aq,rfl,h1,af,af,?_,by rw[<-lZ,h5,lZ]⟩;rw[oO,<-h4,<-hwj,if_neg (by rw[dO (by assumption)];exact jL),iH]
   .have YF:j=p.length:=by omega
    rw[YF,gS] at h4;(refine' cO)
    all_goals try refine cI
    all_goals exact⟨w,i,bd,aq,h1,af,h4⟩
  .rintro l L ⟨w,i,hl,hL,h1,h2,h4⟩;refine aj ?_;refine W.le ?_ hl hL;clear hl hL;have YL:(p.filter λx=>!decide (x.ag=o.ag)).length=i:=by rw[<-h4,dg];omega
   rw[YL];(refine' zb93)
   all_goals try refine cI
   all_goals exact⟨bB,_,_,bj,aq,w.take i++List.replicate (p.length-i) (⟨[],0⟩)++w.drop (i+(p.length-i)),by rw[bR,bR,dg,rC,gp];omega,by rw[kA,BZ (by rw[dg];omega),M5,Nat.min_self,h4],rfl,rfl⟩
theorem idx2_ok (s:St)(a:aH)(c:Nat)(p:eV)(hp:p.length<=1000)(b3:Nat)(o:Int)(hr:bM s a p.length 3 (ah p))(hb:bM s (jF b3) 1 1 ([iv o])):bO 119 [.slice a p.length c,.func (.func 79) ⟨[]⟩ ⟨[aP b3]⟩] s (ai a++ai (jF b3)) (iv (oI (p.findIdx? λx=>decide (x.id=o)))):=by
 refine' za8
 have tU:∀(s:St)(x:bU),bM s (jF b3) 1 1 ([iv o])->bO 79 [.agg ⟨c9.cells x⟩,aP b3] s (ai (jF b3)) (.bool (decide (x.id=o))):=λs x hr=>DU s b3 o x hr
 refine aO f119 ?_;(refine' cO)
 refine W.bH (λm l L=>∃(i:Nat),Le [(0,.slice a p.length c),(1,.func (.func 79) ⟨[]⟩ ⟨[aP b3]⟩),(7,iv (p.length:Int)),(8,iv (i:Int))] l/\cr [] L/\m=p.length-i/\i<=p.length/\∀j,j<i->(λx:bU=>decide (x.id=o)) (p.getD j c9.lW)≠true)
  (λl L=>Le [] l/\cr [] L/\(p.findIdx? λx=>decide (x.id=o))=none) _ ⟨0,bd,aq,rfl,af,λj hj=>by omega⟩ ?_ ?_
 .rintro m l L ⟨i,hl,hL,rfl,h1,h2⟩;refine W.le ?_ hl hL;clear hl hL;by_cases hi:i<p.length
  ·(refine' aam)
   all_goals try refine cI
   .have e:(p.findIdx? λx=>decide (x.id=o))=some i:=mj (d:=c9.lW (α:=bU)) hi (by rw[cl];assumption) h2;(refine' av)
    rw[e];rfl
   .refine⟨_,af,i+1,bd,aq,rfl,af,λj hj=>?_⟩;by_cases v7:j=i
    .subst v7;rw[ne_eq,cl];assumption
    .exact h2 j af
  .have e:(p.findIdx? λx=>decide (x.id=o))=none:=yO c9.lW λj hj=>h2 j af
   (refine' cO)
   all_goals try refine cI
   all_goals exact⟨bd,aq,e⟩
 .rintro l L ⟨hl,hL,h2⟩;refine aj ?_;refine W.le ?_ hl hL;clear hl hL;rw[h2];(refine' cO)
  all_goals(refine' av)
  all_goals rfl
theorem aac (s:St)(a:aH)(c:Nat)(p:eV)(hp:p.length<=1000)(b3:Nat)(o:Int)(hb:bM s (jF b3) 1 1 ([iv o]))(hm:b3∉[It.aJ (.slice a p.length c) 37 3 (ah p)].flatMap It.aS):
  AJ 78 [.slice a p.length c,.func (.func 79) ⟨[]⟩ ⟨[aP b3]⟩] s [.aJ (.slice a p.length c) 37 3 (ah p)] (ai (jF b3)) λR L=>∃p':eV,p'.length=p.length/\p'.take (p.filter λx=>!decide (x.id=o)).length=(p.filter λx=>!decide (x.id=o))/\R= .slice a (p.filter λx=>!decide (x.id=o)).length c/\L=[.aJ (.slice a p.length c) 37 3 (ah p')]:=by
 have M3:Rd ⟨s,[It.aJ (.slice a p.length c) 37 3 (ah p)].flatMap It.aS,ai (jF b3)⟩ (jF b3) 1 1 ([iv o]):=⟨hb,λ_ hb=>hb,λi hi=>by rw[show i=b3 by simpa[ai] using hi];exact hm⟩;have tU:∀(s:St)(x:bU),bM s (jF b3) 1 1 ([iv o])->bO 79 [.agg ⟨c9.cells x⟩,aP b3] s (ai (jF b3)) (.bool (decide (x.id=o))):=λs x hr=>DU s b3 o x hr
 have IV:∀s,bM s a p.length 3 (ah p)->bM s (jF b3) 1 1 ([iv o])->bO 119 [.slice a p.length c,.func (.func 79) ⟨[]⟩ ⟨[aP b3]⟩] s (ai a++ai (jF b3)) (iv (oI (p.findIdx? λx=>decide (x.id=o)))):=λs h1 h2=>idx2_ok s a c p hp b3 o h1 h2
 cases hf:p.findIdx? λx=>decide (x.id=o) with
 |none=>
  rw[hf] at IV;have Se:∀s,bM s a p.length 3 (ah p)->bM s (jF b3) 1 1 ([iv o])->bO 119 [.slice a p.length c,.func (.func 79) ⟨[]⟩ ⟨[aP b3]⟩] s (ai a++ai (jF b3)) (iv (-1)):=IV;have SU:(p.filter λx=>!decide (x.id=o))=p:=B7.2 λx hx=>by
   have:=Ap.1 hf x hx;rw[this];rfl
  rw[SU];refine aO f78 ?_;(repeat' (first|refine' aX|refine' aaa|refine' ar|fail))
  all_goals try refine cI
  all_goals exact⟨bB,_,_,bj,aq,p,rfl,gS,rfl,rfl⟩
 |some i0=>
  rw[hf] at IV;have Se:∀s,bM s a p.length 3 (ah p)->bM s (jF b3) 1 1 ([iv o])->bO 119 [.slice a p.length c,.func (.func 79) ⟨[]⟩ ⟨[aP b3]⟩] s (ai a++ai (jF b3)) (iv (i0:Int)):=IV;obtain⟨g1,g2,g3⟩:=nq.1 hf;have hz:(p.take (i0+1)).filter (λx=>!decide (x.id=o))=p.take i0:=by
   rw[qX _ p c9.lW g1,aY,bk g1];have:(!decide (p[i0].id=o))=false:=by simpa using g2
   have e2:(p.take i0).filter (λx=>!decide (x.id=o))=p.take i0:=B7.2 λx hx=>by
    obtain⟨j,hj,rfl⟩:=l5 hx;rw[dg] at hj;rw[List.getElem_take];have:=g3 j af;simpa using this
   rw[e2];simp only[pH];rw[if_neg (by rw[this];exact jL),iH]
  refine aO f78 ?_;(repeat' (first|refine' aX|refine' aaa|refine' ar|fail))
  all_goals try refine cI
  refine W.bH (λm l L=>∃(w:eV)(i j:Nat),Le [(0,.slice a p.length c),(1,.func (.func 79) ⟨[]⟩ ⟨[aP b3]⟩),(5,iv (i:Int)),(6,iv (j:Int))] l/\cr [.aJ (.slice a p.length c) 37 3 (ah w)] L/\m=p.length-j/\w.length=p.length/\i<j/\j<=p.length/\w.take i=(p.take j).filter (λx=>!decide (x.id=o))/\w.drop j=p.drop j)
   (λl L=>∃(w:eV)(i:Nat),Le [(0,.slice a p.length c),(5,iv (i:Int))] l/\cr [.aJ (.slice a p.length c) 37 3 (ah w)] L/\w.length=p.length/\i<=p.length/\w.take i=p.filter (λx=>!decide (x.id=o))) _ ⟨p,i0,i0+1,bd,aq,rfl,rfl,af,af,hz.symm,rfl⟩ ?_ ?_
  .rintro m l L ⟨w,i,j,hl,hL,rfl,h1,h2,h3,h4,h5⟩;refine W.le ?_ hl hL;clear hl hL;by_cases hj:j<p.length
   .have hwj:w.getD j c9.lW=p.getD j c9.lW:=by
     have:=gb (λl=>l.getD 0 c9.lW) h5;simpa[aY,xF] using this
    have oO:=qX (λx:bU=>!decide (x.id=o)) p c9.lW hj;(refine' aam)
    all_goals try refine cI
    .refine⟨_,af,w.set i (w.getD j c9.lW),i+1,j+1,bd,aq,rfl,by rw[gZ];exact h1,af,af,?_,?_⟩
     .rw[oO,<-h4,<-hwj,if_pos (by rw[iO (by assumption)];rfl)];rw[vQ,List.getElem?_set_self af,List.take_set_of_le (cy _)];rfl
     .rw[List.drop_set_of_lt af,<-lZ,h5,lZ]
    .refine⟨_,af,w,i,j+1,bd,aq,rfl,h1,af,af,?_,by rw[<-lZ,h5,lZ]⟩;rw[oO,<-h4,<-hwj,if_neg (by rw[dO (by assumption)];exact jL),iH]
   .have YF:j=p.length:=by omega
    rw[YF,gS] at h4;(refine' cO)
    all_goals try refine cI
    all_goals exact⟨w,i,bd,aq,h1,af,h4⟩
  .rintro l L ⟨w,i,hl,hL,h1,h2,h4⟩;refine aj ?_;refine W.le ?_ hl hL;clear hl hL;have YL:(p.filter λx=>!decide (x.id=o)).length=i:=by rw[<-h4,dg];omega
   rw[YL];(refine' zb93)
   all_goals try refine cI
   all_goals exact⟨bB,_,_,bj,aq,w.take i++List.replicate (p.length-i) (⟨0,false,[]⟩)++w.drop (i+(p.length-i)),by rw[bR,bR,dg,rC,gp];omega,by rw[kA,BZ (by rw[dg];omega),M5,Nat.min_self,h4],rfl,rfl⟩
def DV (x z:ay):Bool:=decide (z.length<=x.length)&&decide (x.take z.length=z)
theorem SV (s:St)(x z:ay)(hx:x.length<=100000)(hz:z.length<=100000):bO 165 [sv x,sv z] s [] (.bool (DV x z)):=by
 unfold DV;refine aO f165 ?_;(refine' cO)
 all_goals try refine cI
 all_goals(refine' av)
 all_goals simp only[gF]
 all_goals first|rfl|(refine gb Value.bool ?_;first|(rw[dO (by omega:z.length<=x.length),xE])|(rw[iO (by omega:¬z.length<=x.length),JK]))
theorem SX (s:St)(x z:ay)(hx:x.length<=100000)(hz:z.length<=100000):bO 120 [sv x,sv z] s [] (if DV x z=true then .tuple ⟨[sv (x.drop z.length),.bool true]⟩ else .tuple ⟨[sv x,.bool false]⟩):=by
 have T1:∀s,bO 165 [sv x,sv z] s [] (.bool (DV x z)):=λs=>SV s x z hx hz
 cases h:DV x z with
 |true=>
  rw[h] at T1;rw[if_pos rfl];have hl:z.length<=x.length:=by unfold DV at h;simp at h;exact h.1
  refine aO f120 ?_;(repeat' (first|refine' aX|((with_reducible apply WO.bG);exact aD;(first|exact λs=>T1 s);intro _ _ _ _)|refine' ar|fail))
  all_goals try refine cI
  all_goals(refine' av)
  all_goals rfl
 |false=>
  rw[h] at T1;rw[if_neg jL];refine aO f120 ?_;(repeat' (first|refine' aX|((with_reducible apply WO.bG);exact aD;(first|exact λs=>T1 s);intro _ _ _ _)|refine' ar|fail))
  all_goals try refine cI
  all_goals(refine' av)
  all_goals rfl
theorem IW (s:St)(x z:ay)(hx:x.length<=100000)(hz:z.length<=100000):bO 80 [sv x,sv z] s [] (if DV x z=true then .tuple ⟨[sv (x.drop z.length),.bool true]⟩ else .tuple ⟨[sv x,.bool false]⟩):=by
 have T0:=λs=>SX s x z hx hz
 cases h:DV x z with
 |true=>
  rw[if_pos rfl];have T0:∀s,bO 120 [sv x,sv z] s [] (.tuple ⟨[sv (x.drop z.length),.bool true]⟩):=λs=>by have:=T0 s;rwa [if_pos h] at this
  refine' zaX
 |false=>
  rw[if_neg jL];have T0:∀s,bO 120 [sv x,sv z] s [] (.tuple ⟨[sv x,.bool false]⟩):=λs=>by have:=T0 s;rwa [if_neg (by rw[h];exact jL)] at this
  refine' zaX
theorem DW:∀n,(Ev.yf [0] n).length=n
 |0=>rfl
 |n+1=>by
  show([0]++Ev.yf [0] n).length=_;rw[bR,DW n];simp;omega
theorem Hc (s:St)(m:Int)(hm:0<=m/\m<=100000):bO 74 [sv [0],iv m] s [] (sv (Ev.yf [0] m.toNat)):=by
 obtain⟨n,rfl⟩:=xI hm.1;refine Qt (fn:=f74) cU λk=>?_
 show eb (Nat.ble (1*n) 1000000&&Nat.ble n 1000000) (aG (sv (Ev.yf [0] n)) s)=_;rw[gR af,gR af];rfl
theorem LZ {α:Type}{sz:Nat}[c9 α sz]{j:Nat}(hj:j<sz)(v:Value)(q:α):∀(p:List α)(i:Nat),i<p.length->c9.cells (sz:=sz) q=(c9.cells (sz:=sz) (p.getD i (c9.lW (sz:=sz)))).set j v->(ah (sz:=sz) p).set (i*sz+j) v=ah (sz:=sz) (p.set i q)
 |[],_,h,_=>by simp at h
 |x::p,0,_,hq=>by
  rw[List.set_cons_zero,dG,dG,hq,HO,ni,List.set_append,if_pos (by rw[c9.len];exact hj)];rfl
 |x::p,i+1,h,hq=>by
  rw[List.set_cons_succ,dG,dG,List.set_append,if_neg (by rw[c9.len,mq];omega),c9.len,<-LZ hj v q p i (by simpa using h) hq]
  congr 2
  rw[mq];omega
theorem WO.yU {E:dy}{X:dM}{Γ:gY}{l:Kn}{L L':bn}{K:KO}{x y:Operand}{t:TypeId}{a:aH}{n sz:Nat}{v:Value}{α:Type}{enc:c9 α sz}{p:List α}{q:α}{i j c e:Nat}[ht:iG E t 1](hq:c9.cells (sz:=sz) q=(c9.cells (sz:=sz) (p.getD i (c9.lW (sz:=sz)))).set j v)(Bg:flat v=true)(hj:j<sz)
  (hx:Ev l x (da a i sz j))(hy:Ev l y v)(hu:yk (.aJ (.slice a n c) e sz (ah (sz:=sz) p)) (.aJ (.slice a n c) e sz (ah (sz:=sz) (p.set i q))) L L')(hi:i<p.length)(k:∀n,K (.tuple ⟨[]⟩) L' n n (λi=>i∈ai a) (λi=>i∈ai a)):WO E X Γ l (.store t x y) L K:=λtm s h1 h2=>by
 obtain⟨R,p1,p2⟩:=hu.cR;have hm:It.aJ (.slice a n c) e sz (ah (sz:=sz) p)∈L:=p1.mem_iff.2 (by simp);rcases h2.it _ hm with⟨h3,h4⟩|⟨b,n',k',w,h3,h4,h5,h6⟩
 .cases h3
  have:=bc (sz:=sz) p;rw[h4] at this;have h7:0<p.length*sz:=Nat.mul_pos af af;simp at this;omega
 .cases h3
  have dA:=(h2.may hm (b:=b) (by simp[It.aS,mN]));have hr:=h2.aR dA;have YL:i*sz+j<(ah (sz:=sz) p).length:=by
   rw[bc];have:(i+1)*sz<=p.length*sz:=JB _ hi;rw[mq] at this;omega
  have dK:fO (0+(i*sz+j)) [v] (ah (sz:=sz) p)=some (ah (sz:=sz) (p.set i q)):=by
   rw[ni,zO v _ _ YL,LZ hj v q p i hi hq]
  refine fS.pure (v:=.tuple ⟨[]⟩) (s':=(s.aR b).put b (some (.cells (ah (sz:=sz) (p.set i q)) e w))) (λcall=>?_) ⟨L',(λi=>i∈ai (jF b)),(λi=>i∈ai (jF b)),hr.put hu rfl rfl ?_,(kx.trans (cW dA.1 (by simp[ai])) (jS (by simpa using dA.1) (by simp[ai]) (by simp[ai]))),by rw[dY,cw];exact k _⟩
  .show(Ez (aI tm x) λb o=>mI E s t b o (aI tm y))=_;rw[hx.eval h1,hy.eval h1];show mI E s t b (0+(i*sz+j)) v=_;unfold mI St.row St.look;rw[h4];simp only[cq,ht.h,AG Bg,dK];have:jj [v]=true:=by show bo (flat v) true false=true;rw[Bg];rfl
   rw[this];rfl
  .exact .inr ⟨b,_,_,w,rfl,by show T.get (St.heap _) b=_;simp,by rw[bc] at h5⊢;simpa using h5,h6⟩
section
variable {E:dy}{X:dM}{Γ:gY}{l:Kn}{L L':bn}{K:KO}{x y:Operand}{t:TypeId}{a:aH}{n i c e:Nat}{p:dx}{w:eV}{z:ay}{m:Int}{b:Bool}
theorem WO.stPath [iG E t 1](hx:Ev l x (da a i 2 (0+0)))(hy:Ev l y (sv z))(hu:yk (.aJ (.slice a n c) e 2 (ah p)) (.aJ (.slice a n c) e 2 (ah (p.set i ⟨z,(p.getD i c9.lW).id⟩))) L L')(hi:i<p.length)(k:∀n,K (.tuple ⟨[]⟩) L' n n (λi=>i∈ai a) (λi=>i∈ai a)):WO E X Γ l (.store t x y) L K:=WO.yU (q:=(⟨z,(p.getD i c9.lW).id⟩:Fnd)) rfl rfl af hx hy hu hi k
theorem WO.stId [iG E t 1](hx:Ev l x (da a i 2 (0+1)))(hy:Ev l y (iv m))(hu:yk (.aJ (.slice a n c) e 2 (ah p)) (.aJ (.slice a n c) e 2 (ah (p.set i ⟨(p.getD i c9.lW).ag,m⟩))) L L')(hi:i<p.length)(k:∀n,K (.tuple ⟨[]⟩) L' n n (λi=>i∈ai a) (λi=>i∈ai a)):WO E X Γ l (.store t x y) L K:=WO.yU (q:=(⟨(p.getD i c9.lW).ag,m⟩:Fnd)) rfl rfl af hx hy hu hi k
theorem WO.stTid [iG E t 1](hx:Ev l x (da a i 3 (0+0)))(hy:Ev l y (iv m))(hu:yk (.aJ (.slice a n c) e 3 (ah w)) (.aJ (.slice a n c) e 3 (ah (w.set i ⟨m,(w.getD i c9.lW).aM,(w.getD i c9.lW).bh⟩))) L L')(hi:i<w.length)(k:∀n,K (.tuple ⟨[]⟩) L' n n (λi=>i∈ai a) (λi=>i∈ai a)):WO E X Γ l (.store t x y) L K:=WO.yU (q:=(⟨m,(w.getD i c9.lW).aM,(w.getD i c9.lW).bh⟩:bU)) rfl rfl af hx hy hu hi k
theorem WO.stTfo [iG E t 1](hx:Ev l x (da a i 3 (0+1)))(hy:Ev l y (.bool b))(hu:yk (.aJ (.slice a n c) e 3 (ah w)) (.aJ (.slice a n c) e 3 (ah (w.set i ⟨(w.getD i c9.lW).id,b,(w.getD i c9.lW).bh⟩))) L L')(hi:i<w.length)(k:∀n,K (.tuple ⟨[]⟩) L' n n (λi=>i∈ai a) (λi=>i∈ai a)):WO E X Γ l (.store t x y) L K:=WO.yU (q:=(⟨(w.getD i c9.lW).id,b,(w.getD i c9.lW).bh⟩:bU)) rfl rfl af hx hy hu hi k
theorem WO.stTtx [iG E t 1](hx:Ev l x (da a i 3 (0+2)))(hy:Ev l y (sv z))(hu:yk (.aJ (.slice a n c) e 3 (ah w)) (.aJ (.slice a n c) e 3 (ah (w.set i ⟨(w.getD i c9.lW).id,(w.getD i c9.lW).aM,z⟩))) L L')(hi:i<w.length)(k:∀n,K (.tuple ⟨[]⟩) L' n n (λi=>i∈ai a) (λi=>i∈ai a)):WO E X Γ l (.store t x y) L K:=WO.yU (q:=(⟨(w.getD i c9.lW).id,(w.getD i c9.lW).aM,z⟩:bU)) rfl rfl af hx hy hu hi k
end
end Go.Pl
