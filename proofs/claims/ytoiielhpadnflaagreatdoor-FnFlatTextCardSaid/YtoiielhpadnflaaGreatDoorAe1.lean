/- Lemmas of the proof. No conditions. -/
import Derived.Test.YtoiielhpadnflaaGreatDoorAd5
set_option maxRecDepth 100000
set_option maxHeartbeats 4000000
set_option linter.unusedVariables false
set_option linter.unusedSimpArgs false
open Go.Proofs.Tryz
namespace Go
variable{P:Prop}
theorem zaa (h:P:=by
 have Ck:=sN f.ad i (aw (f.ad.getD i aq.ah).ag).1;have Cl:=sO f.ad i (f.ad.getD i aq.ah).id;rw[<-g2.nJ] at Ck;rw[<-g2.li] at Cl;have R0:((i:Int)-1).toNat=i-1:=by omega
 have E4:=lR ht;have sU:∀s b,iW s b a c f.ad a' c' f.ae->bL 22 [bk b,iv (f.ad.getD i aq.ah).id] s (rD b a a') (dh a' t 3 0):=λs b hr=>by
  have:=fV s b a c f.ad a' c' f.ae hs af (f.ad.getD i aq.ah).id hr;rw[ht] at this;exact this
 all_goals(rcases _ with h;exact h)):P:=h
theorem zac (h:P:=by
 obtain⟨hf,hr,hs,hi,g2⟩:=h;intro Q hQ;unfold P8 J3 J4;refine W.uG rfl rfl ?_;have pL:=iw.n hr;have sj:=iw.t hr;have qM:=hf.tl;have pJ:=hf.nl;have hx:=(hf.nm _ (aL hi aq.ah)).1;have FL:=hx.1;have lS:=fX (f.ad.getD i aq.ah).ag;have Pe:∀ch∈(aw (f.ad.getD i aq.ah).ag).2,ch.toNat<128:=λch dP=>hx.2.1 ch (fW _ ch dP)
 all_goals(rcases _ with h;exact h)):P:=h
theorem zad (h:P:=by
 have CJ:=ic (f.ad.getD ((i:Int)-1).toNat aq.ah).ag (f.ad.getD i aq.ah).ag;rw[c1] at CJ;clear hr hf hs g2;refine' sH;all_goals try refine Oc
 all_goals(rcases _ with h;exact h)):P:=h
theorem zae (h:P:=by
 all_goals try refine cI
 all_goals(refine qU (v':=v) cy bY au ?_ (λhc=>(by cases hc));rfl)
 all_goals(rcases _ with h;exact h)):P:=h
theorem zaf (h:P:=by
 rw[vu] at hB;repeat' (first|refine' aZ|refine' Od|refine' adi|refine' av|fail)
 all_goals try refine cI
 all_goals first
  |(refine⟨_,af,i+1,_,bp,au,rfl,af,λj hj=>?_⟩;rcases QC.1 hj with h|h;exact g2 j h;subst h;rw[hB];clear rC JZ g2 hf hr pL sj hB hx h3 Te h2;generalize f.ae.getD j aq.ah=x at *;(try simp only[show((j:Int)-1).toNat=j-1 by omega] at *);generalize f.ae.getD (j-1) aq.ah=y at *;simp[*]<;>(intros;first|omega|(exfalso;omega));done)
  |(have hz:f.kA=false:=JZ (by(rw[hB];clear rC JZ g2 hf hr pL sj hB hx h3 Te h2;generalize f.ae.getD i aq.ah=x at *;(try simp only[show((i:Int)-1).toNat=i-1 by omega] at *);generalize f.ae.getD (i-1) aq.ah=y at *;simp[*]<;>(intros;first|omega|(exfalso;omega)|(exfalso;have hq:x.a8.length=0:=(by have h5:x.a8=[]:=aP;rw[h5];rfl);omega));done))
    rw[hz];refine' ax;rfl)
 all_goals(rcases _ with h;exact h)):P:=h
theorem zah (h:P:=by
 refine W.bK (λm l L=>∃(i:Nat),Le [(0,.slice a p.length c),(1,.slice a2 q.length c2),(12,iv (p.length:Int)),(13,iv (i:Int))] l/\cx [] L/\m=p.length-i/\i<=p.length/\∀j:Nat,j<i->p.getD j aq.ah=q.getD j aq.ah)
  (λl L=>Le [] l/\cx [] L/\∀j:Nat,j<p.length->p.getD j aq.ah=q.getD j aq.ah) _ ⟨0,bp,au,rfl,af,λj h=>by omega⟩ ?_ ?_
 all_goals(rcases _ with h;exact h)):P:=h
theorem zan (h:P:=by
 have kL:zH f.ad f.ae (i+1) ⟨(er A.li (f.ad.getD i aq.ah).id ((dr A.li (f.ad.getD i aq.ah).id).getD 0+1)),(er A.nJ (aw (f.ad.getD i aq.ah).ag).1 ((dr A.nJ (aw (f.ad.getD i aq.ah).ag).1).getD 0+1)),(er A.fo (f.ad.getD i aq.ah).ag (f.ae.getD t aq.ah).aN)⟩:=by
  by_cases hn:YL f.ad f.ae i
  .obtain⟨A2,h1,h2⟩:=jz.1 hn;rw[e] at h1;cases h1;exact h2
  .rw[jz.2 hn] at e;cases e
 all_goals(rcases _ with h;exact h)):P:=h
theorem zao (h:P:=by
 have CJ:=ic (f.ad.getD ((i:Int)-1).toNat aq.ah).ag (f.ad.getD i aq.ah).ag;clear hr hf hs g2;refine' sH;all_goals try refine Oc
 all_goals(rcases _ with h;exact h)):P:=h
theorem zap (h:P:=by
 have e:kV o=(let two:=decide (o.kind=6)||decide (o.kind=7)
   let at2:=decide (o.kind=3)||decide (o.kind=4)
   if !fM o.kind 1 7||!aT o.ag||(two&&!aT o.to)||(!two&&decide (o.to≠[])) then false
   else if(decide (o.kind≠3)&&decide (o.a8≠[]))||decide (24<o.a8.length) then false
   else decide (o.at_=0)||(at2&&fM o.at_ 0 192)):=rfl
 all_goals(rcases _ with h;exact h)):P:=h
theorem zaq (h:P:=by
 have mZ:∀dH a c s,bM s a wX.length 2 (ai wX)->(∀j∈aj a,j∉(kh b dH f1).flatMap It.cr)->FC 151 [bk b,iv at_,.slice a wX.length c] s (kh b dH f1) (aj a) λR L=>∃v':SA,R= .tuple ⟨[]⟩/\L=kh b v' (Fs.bh f1 at_ wX):=λdH a c s hr hm=>
  oB s b dH f1 (Ct.mono af) at_ pD a c wX af lS.2 hr hm
 generalize Fs.bh f1 at_ wX=f2 at *
 all_goals(rcases _ with h;exact h)):P:=h
theorem zar (h:P:=by
 all_goals exact⟨by(first|exact .inl rfl|exact .inr rfl),_,[.aQ (eM) 9 1 (ai ([]:List aC))],bY,au,none,0,rfl,rfl⟩
 all_goals(rcases _ with h;exact h)):P:=h
theorem zas (h:P:=by
 obtain⟨⟨eI,t2,cq⟩,code⟩:=r;simp only at jM og;by_cases Nf:code=0
 all_goals(rcases _ with h;exact h)):P:=h
theorem zau (h:P:=by
 have kL:zH f.ad f.ae (i+1) ⟨(er A.li (f.ad.getD i aq.ah).id ((dr A.li (f.ad.getD i aq.ah).id).getD 0+1)),A.nJ,(er A.fo (f.ad.getD i aq.ah).ag (f.ae.getD t aq.ah).aN)⟩:=by
  by_cases hn:YL f.ad f.ae i
  .obtain⟨A2,h1,h2⟩:=jz.1 hn;rw[e] at h1;cases h1;exact h2
  .rw[jz.2 hn] at e;cases e
 all_goals(rcases _ with h;exact h)):P:=h
theorem zav (h:P:=by
 all_goals exact⟨_,af,i+1,bp,au,rfl,af,λj hj=>by
  by_cases sT:j=i
  .rw[sT];exact hb
  .exact h2 j af⟩
 all_goals(rcases _ with h;exact h)):P:=h
theorem zaw (h:P:=by
 exact⟨_,af,i+1,b1,b5,b6,b7,⟨(er A.li (f.ad.getD i aq.ah).id ((dr A.li (f.ad.getD i aq.ah).id).getD 0+1)),(er A.nJ (aw (f.ad.getD i aq.ah).ag).1 ((dr A.nJ (aw (f.ad.getD i aq.ah).ag).1).getD 0+1)),(er A.fo (f.ad.getD i aq.ah).ag (f.ae.getD t aq.ah).aN)⟩,hl,hL,rfl,af,kL,g3⟩
 all_goals(rcases _ with h;exact h)):P:=h
theorem zay (h:P:=by
 all_goals try refine cI
 all_goals refine mY (v':=v) cy bY au rfl
 all_goals(rcases _ with h;exact h)):P:=h
theorem zaA (h:P:=by
 have hd:=Rd.of hr (A:=aj a++aj a2) λb hb=>cA _ hb
 have OP:=Rd.of mG (A:=aj a++aj a2) λb hb=>dt _ hb
 by_cases hl:p.length=q.length
 all_goals(rcases _ with h;exact h)):P:=h
theorem zaC (h:P:=by
 all_goals first|(exfalso;simp_all;done)|skip
 all_goals refine' ax
 all_goals(rcases _ with h;exact h)):P:=h
theorem zaD (h:P:=by
 all_goals try refine cI
 all_goals refine mY (v':=jq) cy bY au rfl
 all_goals(rcases _ with h;exact h)):P:=h
theorem zaG (h:P:=by
 exact⟨_,af,i+1,b1,b5,b6,b7,⟨(er A.li (f.ad.getD i aq.ah).id ((dr A.li (f.ad.getD i aq.ah).id).getD 0+1)),A.nJ,(er A.fo (f.ad.getD i aq.ah).ag (f.ae.getD t aq.ah).aN)⟩,hl,hL,rfl,af,kL,g3⟩
 all_goals(rcases _ with h;exact h)):P:=h
theorem zaK (h:P:=by
 have jM:gW st t o=(eI,t2,0):=jM;rw[jM];refine aX f61 ?_;dsimp only[eK];refine' HJ;all_goals try refine cI
 all_goals(refine qU (v':=w9) cy bY au ?_ (λhc=>(by cases hc));rfl)
 all_goals(rcases _ with h;exact h)):P:=h
theorem zaM (h:P:=by
 have e:decide (p=q)=false:=ec λh=>hb (by rw[h])
 rw[e];all_goals refine' ax
 all_goals rfl
 all_goals(rcases _ with h;exact h)):P:=h
theorem zaV (h:P:=by
 refine aX f124 ?_;repeat' (first|refine' aZ|refine' ae5|refine' ae6|refine' av|fail)
 all_goals try refine cI
 all_goals refine' ax
 all_goals rfl
 all_goals(rcases _ with h;exact h)):P:=h
theorem zaW (h:P:=by
 (repeat' (first|refine' aZ|refine' uD|((with_reducible apply WO.aW);exact aD;(exact hnn);intros)|refine' av|fail));all_goals try refine cI
 all_goals(rcases _ with h;exact h)):P:=h
theorem zaX (h:P:=by
 simp only;generalize Fs.put ⟨eI,t,!ok⟩ k n2=f2 at *
 have ha2:0<=o.at_/\o.at_<=192:=by omega
 have h32:¬192<o.at_+(o.a8.length:Int):=by omega
 all_goals(rcases _ with h;exact h)):P:=h
theorem za1 (h:P:=by
 all_goals try refine cI
 all_goals exact⟨_,af,i+1,y.drop (j+1),c,w.set i (y.take j),bp,au,rfl,af,by rw[h2];exact g3,g4,by rw[eP];omega⟩
 all_goals(rcases _ with h;exact h)):P:=h
theorem za3 (h:P:=by
 refine aX f81 ?_;repeat' (first|refine' aZ|refine' abj|refine' av|fail)
 all_goals try refine cI
 all_goals refine' ax
 all_goals rfl
 all_goals(rcases _ with h;exact h)):P:=h
theorem za7 (h:P:=by
 intro o hb ho;rw[Ah] at hb⊢;simp only[if_true] at hb⊢;rcases hw:jj n kind E f ⟨dQ x.ag e.name,e.id⟩ o with⟨o2,b2⟩
 all_goals(rcases _ with h;exact h)):P:=h
theorem zbb (h:P:=by
 all_goals try refine cI
 exact⟨_,af,i+1,o2,ok2,_,_,_,_,bp,au,rfl,af,λhh=>by have:=ur hh;dsimp only at this;omega,g3⟩
 all_goals(rcases _ with h;exact h)):P:=h
theorem zbc (h:P:=by
 have:=lJ s b v ⟨st,t,false⟩ u6 ht at_ af hr;rwa [jw] at this
 all_goals(rcases _ with h;exact h)):P:=h
theorem zbd (h:P:=by
 have pD:at_≠k:=λhc=>by
  have:Pg.bG G at_=[]:=by rw[hc];exact Dc
  rw[Pg.dR p3] at this;rw[this] at p6;simp at p6
 all_goals(rcases _ with h;exact h)):P:=h
theorem zbk (h:P:=by
 have OP:Rd ⟨s,([]:dy).flatMap It.cr,aj a++aj a'⟩ a' q.length 3 (ai q):=Rd.of h2 λ_ hb=>dt _ hb
 all_goals(rcases _ with h;exact h)):P:=h
end Go
namespace Go.Pl
open Go Go.Ev Go.Lg Go.Proofs
instance:W3 bf 122 0 0:=aaZ cj
theorem ub (s:St)(b:Nat)(v:SA)(f:Fs)(h:dv 100000 f.st)(ht:dZ f.t)(z:aC)(hz:z.length<=90000)(hp:aT z=true)(hr:lI s b v f):bL 156 [bk b,sv z] s (ua b v) (.tuple ⟨[iv (f.bP z).1,iv (f.bP z).2]⟩):=by
 have Og:=EW.bx hr;have tO:=EW.rw hr;have uB:=EW.rf hr;have uF:=EW.la hr;obtain⟨z6,aiK⟩:=CH hp;have h4:=M7 hp;have AB:=RT f.st (λi=>(ji f.st f.t i).getD bA) (aI z).dropLast 0 af;have qM:(((aI z).length:Int)-1).toNat=(aI z).length-1:=by omega
 have sS:f.bP z=if aI z=[] then(0,3) else if oR (λi=>bN f.st ((ji f.st f.t i).getD bA)) (aI z).dropLast 0<0 then(0,2) else if(f.node (oR (λi=>bN f.st ((ji f.st f.t i).getD bA)) (aI z).dropLast 0)).kind≠2 then(0,4) else(oR (λi=>bN f.st ((ji f.st f.t i).getD bA)) (aI z).dropLast 0,0):=rfl
 by_cases hn:aI z=[]
 .rw[sS,if_pos hn];have Vn:(aI z).length=0:=by rw[hn];rfl
  refine aX f156 ?_;repeat' (first|refine' aZ|refine' TJ|refine' av|fail)
  all_goals try exact pE
  refine' ax;rfl
 .rw[sS,if_neg hn];have Vn:0<(aI z).length:=nO.2 hn;generalize hE:oR (λi=>bN f.st ((ji f.st f.t i).getD bA)) (aI z).dropLast 0=w at *
  have Oe:∀a c s,cS s v f.st->bM s a (List.take (((aI z).length:Int)-1).toNat (aI z)).length 1 (ai (List.take (((aI z).length:Int)-1).toNat (aI z)))->bL 201 [fI v f.st,tv f.t,.slice a (List.take (((aI z).length:Int)-1).toNat (aI z)).length c] s (iH v++aj a) (iv w):=λa c s hr h2=>by
   have:=EX s v f.st h f.t ht a c (List.take (((aI z).length:Int)-1).toNat (aI z)) (by rw[cO];omega) hr h2;rw[show List.take (((aI z).length:Int)-1).toNat (aI z)=(aI z).dropLast by rw[qM,List.dropLast_eq_take],hE] at this
   rwa [show List.take (((aI z).length:Int)-1).toNat (aI z)=(aI z).dropLast by rw[qM,List.dropLast_eq_take]]
  refine aX f156 ?_;(repeat' (first|refine' aZ|refine' TJ|((with_reducible apply WO.RS);exact aD;exact λs hr h2=>Oe _ _ s hr h2;exact ez;exact cD;intros)|refine' X1|refine' av|fail));all_goals try exact pE
  ·(refine' ax)
   rw[if_pos aP];rfl
  ·(refine' ax)
   rw[if_neg af,if_pos aP];rfl
  ·(refine' ax)
   rw[if_neg af,if_neg (by simpa using j5)];rfl
variable {E:iq}{X:fY}{Γ:qN}{l:Kn}{L R:dy}{K:KO}{g:FuncId}{xs:List Operand}{ts:Array TypeId}{vs:aY}{v:SA}{f f':Fs}{b:Nat}{r:Value}
theorem YV (st:ar)(t:cB)(k:Int):j6 ((ji st t k).getD bA):=by
 unfold ji;split
 .exact j6.no
 .cases h:eL (Dx st t k.toNat) with
  |none=>exact j6.no
  |some n=>exact j6.of (Pg.xJ h).1
theorem BU:∀(w:List aC)(k n:Nat)(st:ar)(t:cB),(∀s∈w,s.length<=3000)->k+w.length<=16->dv n st->dZ t->dv (n+30*w.length) (lA w k st t).1/\dZ (lA w k st t).2.1
 |[],k,n,st,t,_,_,h,ht=>⟨h,ht⟩
 |s::w,k,n,st,t,hs,hk,h,ht=>by
  rw[cU] at hk;have bU:=nG (k:=k) (z:=s) h ht af (hs s ay);rw[lA,cU];rcases hp:nK st t k s with⟨eI,t2,ok⟩
  rw[hp] at bU;cases ok with
  |true=>
   have:=BU w (k+1) (n+30) eI t2 (λx hx=>hs x (by simp[hx])) af bU.1 bU.2.1;exact⟨this.1.mono af,this.2⟩
  |false=>exact⟨bU.1.mono af,ht⟩
theorem BV {n:Nat}{st:ar}{t:cB}{z:aC}(h:dv n st)(ht:dZ t):dv (n+600) (ky st t z).1/\dZ (ky st t z).2.1:=by
 unfold ky;simp only;split
 .exact⟨h.mono af,ht⟩
 .have bU:=BU (dw (z.length+1) z) 0 n st t (λs hs=>by have:=x8 _ _ s hs;omega) af h ht;rcases hp:lA (dw (z.length+1) z) 0 st t with⟨eI,t2,ok⟩
  rw[hp] at bU;cases ok with
  |false=>exact⟨bU.1.mono af,bU.2⟩
  |true=>
   have h3:=zE (many:=((dw (z.length+1) z).length:Int)) bU.1 bU.2 af;exact⟨h3.1.mono af,h3.2.1⟩
structure sK (n:Nat)(f:Fs):Prop where
 st:dv n f.st
 t:dZ f.t
theorem sK.mono {n m:Nat}{f:Fs}(h:sK n f)(hm:n<=m):sK m f:=⟨h.st.mono hm,h.t⟩
theorem sK.put {n:Nat}{f:Fs}(h:sK n f){k:Int}(hk:k.toNat<16)(x:iE):sK (n+30) (f.put k x):=by
 unfold Fs.put;split
 .exact h.mono af
 .have:=nG (k:=k.toNat) (z:=gf x) h.st h.t hk (by have:=x9 x;omega);unfold nb;exact⟨this.1,this.2.1⟩
theorem sK.bh {n:Nat}{f:Fs}(h:sK n f){k:Int}(hk:k.toNat<16)(l:List bg):sK (n+630) (f.bh k l):=by
 unfold Fs.bh;split
 .exact h.mono af
 .have:=BV (z:=bj l) h.st (YV f.st f.t k).tr;exact sK.put (f:=⟨_,f.t,_⟩) ⟨this.1,h.t⟩ hk _
theorem EY (s:St)(b:Nat)(v:SA)(f:Fs)(h:dv 100000 f.st)(ht:dZ f.t)(z:aC)(hz:z.length<=90000)(hp:aT z=true)(hr:lI s b v f):bL 147 [bk b,sv z] s (ua b v) (.tuple ⟨[iv (f.cu z).1,iv (f.cu z).2]⟩):=by
 have Og:=EW.bx hr;have tO:=EW.rw hr;have uB:=EW.rf hr;have uF:=EW.la hr;have he:f.cu z=if 0<(f.bP z).2 then(0,(f.bP z).2) else if 0<=f.db z then(0,3) else((f.bP z).1,0):=rfl
 generalize f.cu z=r at *
 refine aX f147 ?_;(repeat' (first|refine' aZ|((with_reducible apply WO.JO);exact aD;exact uv;exact λs hr=>ub s _ _ _ aP aP _ af aP hr;intros)|((with_reducible apply WO.JO);exact aD;exact uv;exact λs hr=>qc s _ _ _ aP aP _ af aP hr;intros)|refine' av|fail));all_goals refine' ax
 all_goals(first|(rw[if_pos af] at he;rw[he];rfl)|(rw[if_neg af,if_pos af] at he;rw[he];rfl)|(rw[if_neg af,if_neg af] at he;rw[he];rfl))
theorem WO.AO (hx:jY l xs vs)(h:∀v s,mO E X g vs s b v f f' r)(hp:nM (kh b v f) L R)(k:∀m m' v',iY L m->m<=m'->K r (kh b v' f'++R) m m' (mV [] (kh b v f) m m') (mW (kh b v f) m m')):WC E X Γ l g xs ts L K:=WO.aiS hx (h v) hp k
theorem WO.wc (hx:jY l xs vs)(h:∀s,lI s b v f->l7 E X g vs s (ua b v) r)(hh:L9 Γ L b v f)(k:∀m m',iY L m->m<=m'->K r L m m' (mV (ua b v) [] m m') (mW [] m m')):WC E X Γ l g xs ts L K:=WO.JO hx hh h k
theorem WO.Mq {α:Type}{sz:Nat}{enc:aq α sz}{e:TypeId}{p:List α}(hx:jY l xs vs)(h:∀s,lI s b v f->eu E X g vs s (ua b v) e p)(hh:L9 Γ L b v f)(k:∀m m' a c,iY L m->m<=m'->K (.slice a p.length c) (.aQ (.slice a p.length c) e sz (ai (sz:=sz) p)::L) m m' (mV (ua b v) [] m m') (mW [] m m')):WC E X Γ l g xs ts L K:=WO.RR hx hh h k
theorem WO.X4 {a:aS}{n sz:Nat}{cs:aY}(hx:jY l xs vs)(h:∀v s,bM s a n sz cs->(∀i∈aj a,i∉(kh b v f).flatMap It.cr)->fA E X g vs s (kh b v f) (aj a) λR L=>∃v':SA,R=r/\L=kh b v' f')(hp:nM (kh b v f) L R)(hh:kr Γ R a n sz cs)(k:∀m m' v',iY L m->m<=m'->K r (kh b v' f'++R) m m' (mV (aj a) (kh b v f) m m') (mW (kh b v f) m m')):WC E X Γ l g xs ts L K:=
 WO.call (Lm:=kh b v f) (R:=R) hx hp.cT (λs hi=>(hh.row (hi.cT hp.cT|>.sub ⟨R,.refl _,nN _ _⟩)).2) (λs hi=>h v s (hh.row (hi.cT hp.cT|>.sub ⟨R,.refl _,nN _ _⟩)).1 (kr.apart hh (hi.cT hp.cT))) (by rintro r' L' m m' ho hm ⟨v',rfl,rfl⟩;exact k m m' v' ho hm)
theorem WO.afe {a:aS}{n c Q0 e':Nat}{cs:aY}{α:Type}{sz:Nat}{enc:aq α sz}{e:TypeId}{p:List α}(hx:jY l xs vs)(hm:It.aQ (.slice a n c) e' Q0 cs∈L)(h:∀s,bM s a n Q0 cs->w6 s a n c e' Q0->eu E X g vs s (aj a) e p)(k:∀m m' a' c',iY L m->m<=m'->K (.slice a' p.length c') (.aQ (.slice a' p.length c') e sz (ai (sz:=sz) p)::L) m m' (mV (aj a) [] m m') (mW [] m m')):WC E X Γ l g xs ts L K:=
 WO.Lw hx (λs hi=>by
   have h1:=(kr.aQ (Γ:=Γ) hm).row hi;exact⟨h1.2,h s h1.1 (mu.slv (hi.it _ hm) λb hb=>(h1.2 b hb).1)⟩) k
theorem oB (s:St)(b:Nat)(v:SA)(f:Fs)(h:sK 60000 f)(k:Nat)(hk:k<16)(a:aS)(c:Nat)(p:List bg)(hp:p.length<=20)(hn:∀e∈p,e.name.length<=1000/\0<=e.id/\e.id<=1000)(hr:bM s a p.length 2 (ai p))(hm:∀i∈aj a,i∉(kh b v f).flatMap It.cr):
  FC 151 [bk b,iv k,.slice a p.length c] s (kh b v f) (aj a) λR L=>∃v':SA,R= .tuple ⟨[]⟩/\L=kh b v' (f.bh k p):=by
 have hd:Rd ⟨s,(kh b v f).flatMap It.cr,aj a⟩ a p.length 2 (ai p):=⟨hr,λb hb=>hb,hm⟩;have jz:=h.st.mono (show 60000<=100000 by omega);have ht:=h.t;have hn3:∀e∈p,e.name.length<=3000/\0<=e.id/\e.id<=1000000000:=λe he=>by have:=hn e he;omega
 have FA:=YV f.st f.t k;have cX:(bj p).length<=50000:=by
  have:∀(l:List bg),(∀e∈l,e.name.length<=1000/\0<=e.id/\e.id<=1000)->(bj l).length<=l.length*1100:=by
   intro l;induction l with
   |nil=>intro _;simp[bj]
   |cons x l ih=>
    intro hl;(have h1:=ih λe he=>hl e (by simp[he]));have h2:=hl x ay;have h3:(dec x.id).length<=10:=gN x.id af;have:bj (x::l)=(x.name++61::(dec x.id++[59]))++bj l:=rfl;rw[this,bn,bn,cU,bn,cU];simp only[cU,kC];omega
  have:=this p hn;omega
 have hw:f.bh k p=if f.cq then f else match ky f.st (f.node k).a6 (bj p) with
  |(st,t,ok)=>Fs.put ⟨st,f.t,!ok⟩ k {f.node k with a6:=t,size:=(bj p).length}:=rfl
 have bU:=BV (z:=bj p) h.st FA.tr;rcases Ud:ky f.st (f.node k).a6 (bj p) with⟨eI,t2,ok⟩
 rw[show ky f.st ((ji f.st f.t k).getD bA).a6 (bj p)=_ from Ud] at bU;have aiT:∀(dH:SA) s,eO bf bw 200 [fI dH f.st,tv (f.node k).a6,sv (bj p)] s [] dH f.st eI true (Ch t2 ok):=λdH s=>by
  have:=YH s dH f.st (h.st.mono af) (f.node k).a6 FA.tr (bj p) cX;rw[Ud] at this;exact this
 have dD:∀(dH:SA) s,mO bf bw 150 [bk b,iv k,nv {f.node k with a6:=t2,size:=(bj p).length}] s b dH ⟨eI,f.t,!ok⟩ (Fs.put ⟨eI,f.t,!ok⟩ k {f.node k with a6:=t2,size:=(bj p).length}) (.tuple ⟨[]⟩):=λdH s=>
  sJ s b dH ⟨eI,f.t,!ok⟩ (bU.1.mono af) ht k hk _
 rw[Ud] at hw;simp only at hw;generalize Fs.put ⟨eI,f.t,!ok⟩ k {f.node k with a6:=t2,size:=(bj p).length}=f2 at *
 refine aX f151 ?_;dsimp only[kh,eK];cases hf:f.cq with
 |true=>
  rw[hf] at hw;rw[hw,if_pos rfl];refine' cM;refine mY (v':=v) cy bY au rfl
 |false=>
  rw[hf] at hw;rw[hw,if_neg bT];(repeat' (first|refine' aZ|refine' X1|refine' ahY|((with_reducible apply WO.nE);exact aD;exact λs=>aiT _ s;exact dU;intro _ _ aiU _ _ aiV)|refine' HH|refine' av|fail));all_goals try exact pE
  all_goals refine mY (v':=pN) cy bY au rfl
theorem YW {l:List bg}(h:bC l=true):l.length<=12/\∀e∈l,e.name.length<=1000/\0<=e.id/\e.id<=1000:=by
 unfold bC at h;simp only[bI,fT,bR,fM] at h;refine⟨h.2,λe he=>?_⟩;have h1:=h.1.1 e he;have h2:e.name.length<=4:=by
  have:=h1.1;unfold aV at this;simp only[bI,bR,fM] at this;omega
 omega
theorem vC (f:Fs)(k:Int):(f.bG k).length<=12/\∀e∈f.bG k,e.name.length<=1000/\0<=e.id/\e.id<=1000:=by
 unfold Fs.bG;cases h:bN f.st (f.node k) with
 |none=>simp
 |some l=>
  refine' zaj;exact YW gd
theorem zJ {l:List bg}{x:bg}{n:Nat}(h:l.length<=n/\∀e∈l,e.name.length<=1000/\0<=e.id/\e.id<=1000)(hx:x.name.length<=1000/\0<=x.id/\x.id<=1000):(gx l x).length<=n+1/\∀e∈gx l x,e.name.length<=1000/\0<=e.id/\e.id<=1000:=by
 refine⟨by rw[Pg.LU];omega,λe he=>?_⟩;rcases Pg.nB.1 he with rfl|he
 .exact hx
 .exact h.2 e he
theorem Um {l:List bg}{i:Nat}{n:Nat}(h:l.length<=n/\∀e∈l,e.name.length<=1000/\0<=e.id/\e.id<=1000):(ek l i).length<=n/\∀e∈ek l i,e.name.length<=1000/\0<=e.id/\e.id<=1000:=
 ⟨gu (Pg.jm l i).length_le h.1,λe he=>h.2 e ((Pg.jm l i).subset he)⟩
variable {st:ar}{a an:aS}{p q:List bE}{csn:aY}
abbrev j4 (a:aS)(c:Nat)(p:List bE):It:=.aQ (.slice a p.length c) 52 2 (ai p)
abbrev EZ (E:iq)(X:fY)(f:FuncId)(vs:aY)(s:St)(v:SA)(an:aS)(a:aS)(c:Nat)(p q:List bE)(ok:Bool):Prop:=fA E X f vs s [j4 a c p] (iH v++aj an) λR L=>∃a' c',R= .tuple ⟨[.slice a' q.length c',.bool ok]⟩/\L=[.aQ (.slice a' q.length c') 52 2 (ai q)]
section
variable {c nn:Nat}{ok:Bool}
theorem WO.X2 (hx:jY l xs vs)(h:∀s,cS s v st->bM s an nn 10 csn->(∀i∈iH v++aj an,i∉[j4 a c p].flatMap It.cr)->EZ E X g vs s v an a c p q ok)(hp:nM [j4 a c p] L R)(hh:ru Γ R v st)(hn:kr Γ R an nn 10 csn)
  (k:∀m m' a' c',iY L m->m<=m'->K (.tuple ⟨[.slice a' q.length c',.bool ok]⟩) (.aQ (.slice a' q.length c') 52 2 (ai q)::R) m m' (mV (iH v++aj an) [j4 a c p] m m') (mW [j4 a c p] m m')):WC E X Γ l g xs ts L K:=by
 have jf:∀{s},Inv Γ s L->Inv Γ s R:=λhi=>hi.cT hp.cT|>.sub ⟨R,.refl _,nN _ _⟩
 refine WO.call (Lm:=[j4 a c p]) (R:=R) (A:=iH v++aj an) hx hp.cT (λs hi b hb=>?_) (λs hi=>h s (hh.row (jf hi)).1 (hn.row (jf hi)).1 λi tp=>?_) (by rintro r L' m m' ho hm ⟨a',c',rfl,rfl⟩;exact k m m' a' c' ho hm)
 .rcases eW.1 hb with hb|hb
  .exact(hh.row (jf hi)).2 b hb
  .exact(hn.row (jf hi)).2 b hb
 .have hip:=hi.cT hp.cT;rcases eW.1 tp with hb|hb
  .rcases eW.1 hb with hb|hb
   .exact kr.apart hh.r hip i hb
   .rcases eW.1 hb with hb|hb
    .exact kr.apart hh.f hip i hb
    .exact kr.apart hh.l hip i hb
  .exact kr.apart hn hip i hb
theorem YX {rs:List ResultVar}{x:Ex}{a':aS}{c':Nat}(hx:x= .normal\/x= .ret)(hr:qO E l L rs [.slice a' q.length c',.bool ok])(hL:cx [.aQ (.slice a' q.length c') 52 2 (ai q)] L):
  wK E rs (λR L=>∃a' c',R= .tuple ⟨[.slice a' q.length c',.bool ok]⟩/\L=[.aQ (.slice a' q.length c') 52 2 (ai q)]) x l L:=⟨hx,_,_,hr,hL,a',c',rfl,rfl⟩
end
theorem afy {st:ar}{n:iE}{l:List bg}(h:bN st n=some l):l.length<=12/\∀e∈l,e.name.length<=4:=by refine' zaj;unfold bC at gd;simp only[bI,fT,bR,fM] at gd;refine⟨gd.2,λe he=>?_⟩;have:=(gd.1.1 e he).1;unfold aV at this;simp only[bI,bR] at this;omega
theorem yc {n:Nat}{kind:Nat->Int}{E:Nat->Option (List bg)}{f:Nat}{x:bE}(l:List bg)(o:List bE):l.foldl (λr e=>if r.2 then jj n kind E f ⟨dQ x.ag e.name,e.id⟩ r.1 else r) (o,false)=(o,false):=by
 induction l with
 |nil=>rfl
 |cons e l ih=>rw[Ah];exact ih
theorem E0 {n:Nat}{kind:Nat->Int}{E:Nat->Option (List bg)}:∀(f:Nat)(x:bE)(out:List bE),(jj n kind E f x out).2=true->out.length<(jj n kind E f x out).1.length/\(jj n kind E f x out).1.length<=144
 |0,x,out,h=>by cases h
 |f+1,x,out,h=>by
  rw[jj] at h⊢;try simp only at h⊢
  split at h
  .cases h
  .rename_i hc;rw[if_neg hc];have hl:(out++[x]).length<=144:=by
    simp only[mh,bR,not_or] at hc;omega
   (have ur:out.length<(out++[x]).length:=by rw[bn];simp);split at h
   .rename_i h1;rw[if_pos h1];exact⟨ur,hl⟩
   .rename_i h1;rw[if_neg h1];cases he:E x.id.toNat with
    |none=>rw[he] at h;cases h
    |some l=>
     rw[he] at h;simp only at h⊢;have YY:∀(l:List bg)(o:List bE),(l.foldl (λr e=>if r.2 then jj n kind E f ⟨dQ x.ag e.name,e.id⟩ r.1 else r) (o,true)).2=true->o.length<=144->o.length<=(l.foldl (λr e=>if r.2 then jj n kind E f ⟨dQ x.ag e.name,e.id⟩ r.1 else r) (o,true)).1.length/\(l.foldl (λr e=>if r.2 then jj n kind E f ⟨dQ x.ag e.name,e.id⟩ r.1 else r) (o,true)).1.length<=144:=by
      intro l;induction l with
      |nil=>intro o _ ho;exact⟨cC _,ho⟩
      |cons e l ih=>
       refine' za7
       rw[hw] at hb;cases b2 with
       |false=>rw[yc] at hb;cases hb
       |true=>
        have h3:=E0 f ⟨dQ x.ag e.name,e.id⟩ o (by rw[hw]);rw[hw] at h3;have h4:=ih o2 hb h3.2;exact⟨by have:=h3.1;have:=h4.1;simp only at *;omega,h4.2⟩
     have h5:=YY l _ h hl;exact⟨af,h5.2⟩
theorem PW (st:ar)(h:dv 100000 st)(ns:List iE)(FA:ns.length<=16)(v:SA)(an:aS)(cn:Nat):∀(f:Nat)(x:bE)(out:List bE)(a:aS)(c:Nat)(s:St),out.length<=144->146<=f+out.length->x.ag.length+5*f<=1000->
  cS s v st->bM s an ns.length 10 (ai ns)->(∀i∈iH v++aj an,i∉[j4 a c out].flatMap It.cr)->EZ bf bw 108 [fI v st,.slice an ns.length cn,.agg ⟨[sv x.ag,iv x.id]⟩,.slice a out.length c] s v an a c out (walk st ns f x out).1 (walk st ns f x out).2:=by
 intro f;induction f with
 |zero=>intro x out a c s h1 h2;omega
 |succ f ih=>
  intro x out a c s h1 h2 h3 hr hn hm;have tO:Rd ⟨s,[j4 a c out].flatMap It.cr,iH v++aj an⟩ v.r 64 1 (ai st.ej):=⟨hr.r,λb hb=>cA _ (HS hb),λb hb=>hm b (cA _ (HS hb))⟩;have uB:Rd ⟨s,[j4 a c out].flatMap It.cr,iH v++aj an⟩ v.f 64 1 (ai st.bd):=⟨hr.f,λb hb=>cA _ (HT hb),λb hb=>hm b (cA _ (HT hb))⟩;have uF:Rd ⟨s,[j4 a c out].flatMap It.cr,iH v++aj an⟩ v.l 64 1 (ai st.dm):=⟨hr.l,λb hb=>cA _ (HU hb),λb hb=>hm b (cA _ (HU hb))⟩;have pL:Rd ⟨s,[j4 a c out].flatMap It.cr,iH v++aj an⟩ an ns.length 10 (ai ns):=⟨hn,λb hb=>dt _ hb,λb hb=>hm b (dt _ hb)⟩;have hw:walk st ns (f+1) x out=if 144<(out++[x]).length||!fM x.id 0 (ns.length-1)||decide ((ns.getD x.id.toNat bA).kind=0) then(out++[x],false) else
   if(ns.getD x.id.toNat bA).kind=1 then(out++[x],true) else
   match bN st (ns.getD x.id.toNat bA) with
   |none=>(out++[x],false)
   |some l=>l.foldl (λr e=>if r.2 then jj ns.length (λi=>(ns.getD i bA).kind) (λi=>bN st (ns.getD i bA)) f ⟨dQ x.ag e.name,e.id⟩ r.1 else r) (out++[x],true):=rfl
  generalize walk st ns (f+1) x out=Y at *
  rw[bn,Bn] at hw;have cX:(out++[x]).length=out.length+1:=by rw[bn];rfl
  have alO:(bA:iE)=aq.ah (α:=iE):=rfl;rw[alO] at hw;by_cases hC:144<out.length+1\/¬(0<=x.id/\x.id<=(ns.length:Int)-1)\/(ns.getD x.id.toNat aq.ah).kind=0
  .rw[if_pos (by simp only[fM,mh,bR,rU,Ab,mQ];omega)] at hw;subst hw;refine aX f108 ?_;dsimp only[j4];refine' zb2
   (all_goals try exact pE);all_goals exact YX cy bY au
  .have hC1:out.length+1<=144:=by omega
   (have hC2:0<=x.id/\x.id<=(ns.length:Int)-1:=by omega);(have hC3:(ns.getD x.id.toNat aq.ah).kind≠0:=λh=>hC (.inr (.inr h)));rw[if_neg (by simp only[fM,mh,bR,rU,Ab,mQ];omega)] at hw;clear hC;by_cases hK:(ns.getD x.id.toNat aq.ah).kind=1
   .rw[if_pos hK] at hw;subst hw;refine aX f108 ?_;dsimp only[j4];refine' zb2
    (all_goals first|(exfalso;omega;done)|contradiction|(exfalso;simp only[Ab,mQ] at uw;omega)|skip);all_goals exact YX cy bY au
   .rw[if_neg hK] at hw;obtain⟨es,okb,tw,hW,Ar,hb4⟩:∃(es:List bg)(okb:Bool),(∀s,cS s v st->jF bf bw 166 [fI v st,nv (ns.getD x.id.toNat aq.ah)] s (iH v) 198 es okb)/\
                         Y=es.foldl (λr e=>if r.2 then jj ns.length (λi=>(ns.getD i aq.ah).kind) (λi=>bN st (ns.getD i aq.ah)) f ⟨dQ x.ag e.name,e.id⟩ r.1 else r) (out++[x],okb)/\es.length<=12/\∀e∈es,e.name.length<=4:=by
     refine⟨(bN st (ns.getD x.id.toNat aq.ah)).getD [],(bN st (ns.getD x.id.toNat aq.ah)).isSome,λs hr=>l9 s v st h _ hr,?_,?_⟩
     .rw[hw];cases bN st (ns.getD x.id.toNat aq.ah)<;>rfl
     .cases he:bN st (ns.getD x.id.toNat aq.ah) with
      |none=>simp
      |some l=>exact afy he
    clear hw;(have hwk:∀x' o,jj ns.length (λi=>(ns.getD i aq.ah).kind) (λi=>bN st (ns.getD i aq.ah)) f x' o=walk st ns f x' o:=λ_ _=>rfl);(have hle:∀x' o,(walk st ns f x' o).2=true->o.length<(walk st ns f x' o).1.length/\(walk st ns f x' o).1.length<=144:=λx' o=>E0 f x' o);(have hF0:∀(l:List bg)(o:List bE),l.foldl (λr e=>if r.2 then jj ns.length (λi=>(ns.getD i aq.ah).kind) (λi=>bN st (ns.getD i aq.ah)) f ⟨dQ x.ag e.name,e.id⟩ r.1 else r) (o,false)=(o,false):=λl o=>yc l o);have yu:∀(e:bg)(o:List bE),(λ(r:List bE×Bool) (e:bg)=>if r.2 then jj ns.length (λi=>(ns.getD i aq.ah).kind) (λi=>bN st (ns.getD i aq.ah)) f ⟨dQ x.ag e.name,e.id⟩ r.1 else r) (o,true) e=walk st ns f ⟨dQ x.ag e.name,e.id⟩ o:=λ_ _=>rfl
    generalize(λ(r:List bE×Bool) (e:bg)=>if r.2 then jj ns.length (λi=>(ns.getD i aq.ah).kind) (λi=>bN st (ns.getD i aq.ah)) f ⟨dQ x.ag e.name,e.id⟩ r.1 else r)=F at *
    refine aX f108 ?_;dsimp only[j4];(repeat' (first|refine' aZ|refine' Od|((with_reducible apply WO.tS);exact aD;exact λs hr=>tw s hr;exact ez;intro _ _ rP rQ _ _)|refine' av|fail));all_goals first|(exfalso;omega;done)|contradiction|(exfalso;simp only[Ab,mQ] at uw;omega)|skip
    refine W.bK (λk l L=>∃(i:Nat)(o:List bE)(ok:Bool)(a3:aS)(c3 b4 b6:Nat),Le [(1,.slice an ns.length cn),(3,.slice a3 o.length c3),(4,bk b4),(6,bk b6),(10,.slice rP es.length rQ),(11,.bool ok),(12,iv (i:Int))] l/\cx [.aQ (.slice a3 o.length c3) 52 2 (ai o),.box b4 (rS v st) 71 false,.box b6 [sv x.ag,iv x.id] 52 false,.aQ (.slice rP es.length rQ) 198 2 (ai es)] L/\k=es.length-i/\i<=es.length/\(ok=true->o.length<=144/\out.length+1<=o.length)/\Y=(es.drop i).foldl F (o,ok))
     (λl L=>∃(o:List bE)(ok:Bool)(a3:aS)(c3:Nat),Le [(3,.slice a3 o.length c3),(11,.bool ok)] l/\cx [.aQ (.slice a3 o.length c3) 52 2 (ai o)] L/\Y=(o,ok)) _ ⟨0,out++[x],okb,_,_,_,_,bp,au,rfl,af,λ_=>by omega,hW⟩ ?_ ?_
    .rintro k l L ⟨i,o,ok,a3,c3,b4,b6,hl,hL,rfl,g1,g2,g3⟩;refine W.le ?_ hl hL;clear hl hL;by_cases hi:i<es.length
     .cases ok with
      |false=>
       refine' cM;(all_goals try refine cI);all_goals exact⟨o,false,a3,c3,bp,au,by rw[g3,hF0]⟩
      |true=>
       obtain⟨g4,g5⟩:=g2 rfl;have pJ:=hb4 _ (aL hi aq.ah);rw[drop_cons hi,Ah,yu] at g3;generalize hP:dQ x.ag (es.getD i aq.ah).name=P at *
       have hPl:P.length<=x.ag.length+5:=by
        rw[<-hP];unfold dQ;split<;>simp only[bn,cU]<;>omega
       have alw:∀a c s,cS s v st->bM s an ns.length 10 (ai ns)->(∀i∈iH v++aj an,i∉[j4 a c o].flatMap It.cr)->EZ bf bw 108 [fI v st,.slice an ns.length cn,.agg ⟨[sv P,iv (es.getD i aq.ah).id]⟩,.slice a o.length c] s v an a c o (walk st ns f ⟨P,(es.getD i aq.ah).id⟩ o).1 (walk st ns f ⟨P,(es.getD i aq.ah).id⟩ o).2:=λa c s hr hn hm=>ih ⟨P,(es.getD i aq.ah).id⟩ o a c s g4 af (by show P.length+5*f<=1000;omega) hr hn hm
       have ur:=hle ⟨P,(es.getD i aq.ah).id⟩ o;generalize walk st ns f ⟨P,(es.getD i aq.ah).id⟩ o=W2 at *
       obtain⟨o2,ok2⟩:=W2;by_cases HP:x.ag=[47]
       .have hP:[47]++(es.getD i aq.ah).name=P:=by rw[<-hP,HP];rfl
        subst hP;(repeat' (first|refine' aZ|refine' adb|refine' av|fail));(all_goals try refine cI);all_goals refine' zbb
       .have hP:(x.ag++[47])++(es.getD i aq.ah).name=P:=by rw[<-hP];unfold dQ;rw[if_neg HP,iL];rfl
        subst hP;(repeat' (first|refine' aZ|refine' adb|refine' av|fail));(all_goals try refine cI);all_goals refine' zbb
     .have fb:i=es.length:=by omega
      subst fb;rw[kG] at g3;refine' cM;(all_goals try refine cI);all_goals exact⟨o,ok,a3,c3,bp,au,g3⟩
    .rintro l L ⟨o,ok,a3,c3,hl,hL,g3⟩;refine ak ?_;refine W.le ?_ hl hL;refine' cM
     rw[g3];all_goals exact YX cy bY au
variable {i:Nat}
theorem Ie {n:Nat}{kind:Nat->Int}{E:Nat->Option (List bg)}:∀(f:Nat)(x:bE)(out:List bE),(jj n kind E f x out).2=true->(∀y∈out,0<=y.id/\y.id<=(n:Int)-1)->∀y∈(jj n kind E f x out).1,0<=y.id/\y.id<=(n:Int)-1
 |0,x,out,h,_=>by cases h
 |f+1,x,out,h,ho=>by
  rw[jj] at h⊢;try simp only at h⊢
  split at h
  .cases h
  .rename_i hc;rw[if_neg hc];have hx:0<=x.id/\x.id<=(n:Int)-1:=by
    simp only[fM,mh,bR,not_or,rU,Ab,mQ] at hc;omega
   have Bt:∀y∈out++[x],0<=y.id/\y.id<=(n:Int)-1:=λy hy=>by
    rcases eW.1 hy with hy|hy
    .exact ho y hy
    .rw[fJ] at hy;subst hy;exact hx
   split at h
   .rename_i h1;rw[if_pos h1];exact Bt
   .rename_i h1;rw[if_neg h1];cases he:E x.id.toNat with
    |none=>rw[he] at h;cases h
    |some l=>
     rw[he] at h;simp only at h⊢;have YY:∀(l:List bg)(o:List bE),(l.foldl (λr e=>if r.2 then jj n kind E f ⟨dQ x.ag e.name,e.id⟩ r.1 else r) (o,true)).2=true->(∀y∈o,0<=y.id/\y.id<=(n:Int)-1)->∀y∈(l.foldl (λr e=>if r.2 then jj n kind E f ⟨dQ x.ag e.name,e.id⟩ r.1 else r) (o,true)).1,0<=y.id/\y.id<=(n:Int)-1:=by
      intro l;induction l with
      |nil=>intro o _ ho;exact ho
      |cons e l ih=>
       refine' za7
       rw[hw] at hb;cases b2 with
       |false=>rw[yc] at hb;cases hb
       |true=>
        have h3:=Ie f ⟨dQ x.ag e.name,e.id⟩ o (by rw[hw]) ho;rw[hw] at h3;exact ih o2 hb h3
     exact YY l _ h Bt
theorem JX (out:List bE)(x:bE)(k:Nat):lB (out++[x]) k=lB out k+if x.id=(k:Int) then 1 else 0:=by unfold lB;rw[qW,bn];by_cases h:x.id=(k:Int)<;>simp[h]
theorem j3 {l:List Int}{i k:Nat}{v:Int}(hi:i<l.length):(l.set i v).getD k 0=if k=i then v else l.getD k 0:=by
 rw[a7,a7,List.getElem?_set];by_cases h:i=k
 .subst h;simp[hi]
 .rw[if_neg h,if_neg (λe=>h e.symm)]
theorem aiW {q:List bE}(hi:i<q.length):q.take (i+1)=q.take i++[q.getD i aq.ah]:=by rw[ui,a7,bc hi];rfl
theorem PX (out:List bE)(k:Nat):0<=lB out k/\lB out k<=out.length:=by unfold lB;have:=Bm (λx:bE=>decide (x.id=(k:Int))) out;omega
theorem Un (s:St)(v:SA)(st:ar)(h:dv 100000 st)(t:cB)(ht:dZ t)(hr:cS s v st):jF bf bw 65 [fI v st,tv t] s (iH v) 52 ((lZ st t).getD []) (lZ st t).isSome:=by
 have tO:=Rd.EJ hr;have uB:=Rd.off hr;have uF:=Rd.CI hr;have Cc:lZ st t=if !oG st t then none else if fu st t=[]\/((fu st t).headD bA).kind≠2 then none else match walk st (fu st t) 146 ⟨[47],0⟩ [] with
  |(_,false)=>none
  |(out,true)=>if lC st out 0 (fu st t) then some out else none:=rfl
 generalize lZ st t=Y at *
 by_cases hT:oG st t=true
 .rw[hT] at Cc;rw[if_neg bT] at Cc;have FA:∀s,cS s v st->eu bf bw 66 [fI v st,tv t] s (iH v) 122 (fu st t):=λs hr=>BP s v st h t ht hr
  have pJ:(fu st t).length<=16:=by
   unfold fu;rw[uI,(lh h ht).1];have:=ht.mn;omega
  generalize fu st t=ns at *
  have hTf:(!oG st t)=false:=by rw[hT];rfl
  have hhd:ns.headD bA=ns.getD 0 aq.ah:=by cases ns<;>rfl
  rw[hhd] at Cc;by_cases hN:ns.length=0\/(ns.getD 0 aq.ah).kind≠2
  .rw[if_pos (by
      rcases hN with h|h
      .exact .inl (mj h)
      .exact .inr h)] at Cc
   subst Cc;refine aX f65 ?_;(repeat' (first|refine' aZ|refine' Rw|refine' Rx|refine' av|fail));(all_goals try refine cI);all_goals exact Hd cy bY au rfl rfl
  .have hN1:0<ns.length:=by omega
   have hN2:(ns.getD 0 aq.ah).kind=2:=by
    by_cases h:(ns.getD 0 aq.ah).kind=2
    .exact h
    .exact absurd (.inr h) hN
   rw[if_neg (λh=>by
      rcases h with h|h
      .rw[h] at hN1;cases hN1
      .exact h hN2)] at Cc
   clear hN;have afz:∀an cn a c s,cS s v st->bM s an ns.length 10 (ai ns)->(∀i∈iH v++aj an,i∉[j4 a c []].flatMap It.cr)->EZ bf bw 108 [fI v st,.slice an ns.length cn,.agg ⟨[sv [47],cg]⟩,.slice a ([]:List bE).length c] s v an a c [] (walk st ns 146 ⟨[47],0⟩ []).1 (walk st ns 146 ⟨[47],0⟩ []).2:=λan cn a c s hr hn hm=>
    PW st h ns pJ v an cn 146 ⟨[47],0⟩ [] a c s ay ay ay hr hn hm
   have JF:=Ie (n:=ns.length) (kind:=λi=>(ns.getD i bA).kind) (E:=λi=>bN st (ns.getD i bA)) 146 ⟨[47],0⟩ [];have Uc:=E0 (n:=ns.length) (kind:=λi=>(ns.getD i bA).kind) (E:=λi=>bN st (ns.getD i bA)) 146 ⟨[47],0⟩ [];rw[show jj ns.length (λi=>(ns.getD i bA).kind) (λi=>bN st (ns.getD i bA)) 146 ⟨[47],0⟩ []=walk st ns 146 ⟨[47],0⟩ [] from rfl] at JF Uc;rcases hw:walk st ns 146 ⟨[47],0⟩ [] with⟨out,ok⟩
   rw[hw] at afz JF Uc Cc;have hwk:∀an cn a c s,cS s v st->bM s an ns.length 10 (ai ns)->(∀i∈iH v++aj an,i∉[j4 a c []].flatMap It.cr)->EZ bf bw 108 [fI v st,.slice an ns.length cn,.agg ⟨[sv [47],cg]⟩,.slice a ([]:List bE).length c] s v an a c [] out ok:=afz;clear afz hw;cases ok with
   |false=>
    have Cc:Y=none:=Cc;subst Cc;refine aX f65 ?_;(repeat' (first|refine' aZ|refine' Rw|refine' Rx|refine' ade|refine' av|fail));(all_goals try refine cI);all_goals exact Hd cy bY au rfl rfl
   |true=>
    (have Cc:Y=if lC st out 0 ns then some out else none:=Cc);have JF:=JF rfl ay;have Uc:=Uc rfl;dsimp only at JF Uc;refine aX f65 ?_;(repeat' (first|refine' aZ|refine' Rw|refine' Rx|refine' ade|refine' av|fail));all_goals try refine cI
    refine W.bK (λk l L=>∃(i:Nat)(m:List Int)(am:aS)(cm b2:Nat),Le [(2,bk b2),(6,.slice jx ns.length jy),(7,.slice jJ out.length jK),(9,.slice am m.length cm),(10,iv (i:Int))] l/\cx [.box b2 (rS v st) 71 false,.aQ (.slice jx ns.length jy) 122 10 (ai ns),.aQ (.slice jJ out.length jK) 52 2 (ai out),.aQ (.slice am m.length cm) 3 1 (ai m)] L/\k=out.length-i/\i<=out.length/\m.length=ns.length/\∀k,k<ns.length->m.getD k 0=lB (out.take i) k)
     (λl L=>∃(m:List Int)(am:aS)(cm b2:Nat),Le [(2,bk b2),(6,.slice jx ns.length jy),(7,.slice jJ out.length jK),(9,.slice am m.length cm)] l/\cx [.box b2 (rS v st) 71 false,.aQ (.slice jx ns.length jy) 122 10 (ai ns),.aQ (.slice jJ out.length jK) 52 2 (ai out),.aQ (.slice am m.length cm) 3 1 (ai m)] L/\m.length=ns.length/\∀k,k<ns.length->m.getD k 0=lB out k) _ ⟨0,List.replicate ns.length 0,_,_,_,bp,au,rfl,af,ay,λk hk=>by simp[lB,a7,hk]⟩ ?_ ?_
    .rintro k l L ⟨i,m,am,cm,b2,hl,hL,rfl,g1,g2,g3⟩;refine W.le ?_ hl hL;clear hl hL;by_cases hi:i<out.length
     .have hid:=JF _ (aL hi aq.ah);have g4:m.getD (out.getD i aq.ah).id.toNat aq.ah=_:=g3 (out.getD i aq.ah).id.toNat af;have g5:=PX (out.take i) (out.getD i aq.ah).id.toNat;rw[cO] at g5;refine' cM
      (all_goals try refine cI);refine⟨_,af,i+1,m.set (out.getD i aq.ah).id.toNat (m.getD (out.getD i aq.ah).id.toNat aq.ah+1),am,cm,b2,by(rw[gy];exact bp),by(rw[gy];exact au),rfl,af,by rw[gy];exact g2,λk hk=>?_⟩;rw[j3 af,aiW hi,JX,g4];by_cases hke:k=(out.getD i aq.ah).id.toNat
      .rw[if_pos hke,if_pos af,<-hke]
      .rw[if_neg hke,if_neg af,g3 k hk,Int.add_zero]
     .have fb:i=out.length:=by omega
      subst fb;rw[fU] at g3;refine' cM;(all_goals try refine cI);all_goals exact⟨m,_,_,_,bp,au,g2,g3⟩
    .rintro l L ⟨m,am,cm,b2,hl,hL,g2,g3⟩;refine ak ?_;refine W.le ?_ hl hL;clear hl hL;refine' cM
     refine W.bK (λk l L=>∃(i:Nat)(m:List Int)(am:aS)(cm b2:Nat),Le [(2,bk b2),(6,.slice jx ns.length jy),(7,.slice jJ out.length jK),(9,.slice am m.length cm),(11,iv (i:Int))] l/\cx [.box b2 (rS v st) 71 false,.aQ (.slice jx ns.length jy) 122 10 (ai ns),.aQ (.slice jJ out.length jK) 52 2 (ai out),.aQ (.slice am m.length cm) 3 1 (ai m)] L/\k=ns.length-i/\i<=ns.length/\m.length=ns.length/\(∀k,k<ns.length->m.getD k 0=lB out k)/\lC st out 0 ns=lC st out i (ns.drop i))
      (λl L=>Le [(7,.slice jJ out.length jK)] l/\cx [.aQ (.slice jJ out.length jK) 52 2 (ai out)] L/\lC st out 0 ns=true) _ ⟨0,m,_,_,_,bp,au,rfl,af,g2,g3,rfl⟩ ?_ ?_
     .rintro k l L ⟨i,m,am,cm,b2,hl,hL,rfl,g1,g2,g3,g4⟩;refine W.le ?_ hl hL;clear hl hL;by_cases hi:i<ns.length
      .rw[drop_cons hi,lC] at g4;have g5:m.getD i aq.ah=_:=g3 i hi;(repeat' (first|refine' aZ|((with_reducible apply WO.mw);exact aD;(first|exact λs hr=>MX s _ _ aP _ hr|exact λs hr=>MX s _ _ aP ⟨_,_,_,⟨⟨_,_,_,_,_⟩,_,_⟩⟩ hr);exact ez;intros)|refine' av|fail))
       all_goals try refine cI
       all_goals first
        |(refine⟨_,af,i+1,m,_,_,_,bp,au,rfl,af,g2,g3,?_⟩;rw[g4,<-g5];clear g5 g4 g3 Cc hN2 hhd;generalize ns.getD i aq.ah=n at *;generalize m.getD i aq.ah=mi at *;simp[*];done)
        |(have hz:lC st out 0 ns=false:=by(rw[g4,<-g5];clear g5 g4 g3 Cc hN2 hhd;generalize ns.getD i aq.ah=n at *;generalize m.getD i aq.ah=mi at *;simp[*];done)
          rw[hz,if_neg bT] at Cc;subst Cc;exact Hd cy bY au rfl rfl)
        |skip
       all_goals(contradiction;rfl)
      .have fb:i=ns.length:=by omega
       subst fb;rw[kG,lC] at g4;refine' cM;(all_goals try refine cI);all_goals exact⟨bp,au,g4⟩
     .rintro l L ⟨hl,hL,g4⟩;refine ak ?_;refine W.le ?_ hl hL;clear hl hL;rw[g4,if_pos rfl] at Cc;subst Cc;refine' cM
      exact Hd cy bY au rfl rfl
 .have hT:oG st t=false:=by simpa using hT
  have hTf:(!oG st t)=true:=by rw[hT];rfl
  rw[hT,if_pos bT] at Cc;subst Cc;refine aX f65 ?_;repeat' (first|refine' aZ|refine' Rw|refine' av|fail)
  all_goals try refine cI
  all_goals exact Hd cy bY au rfl rfl
abbrev pw (a:aS)(c:Nat)(q:gD):It:=.aQ (.slice a q.length c) 54 3 (ai q)
theorem abQ (st:ar)(t:cB):∀n∈fu st t,j6 n:=λn hn=>by
 unfold fu at hn;obtain⟨z,_,rfl⟩:=lp.1 hn;cases h:eL z with
 |none=>exact j6.no
 |some n=>exact j6.of (Pg.xJ h).1
theorem YZ (s:St)(v:SA)(st:ar)(h:dv 100000 st)(t:cB)(ht:dZ t)(f:Flat)(hf:Jh st t=some f)(hr:cS s v st):FC 28 [fI v st,tv t] s [] (iH v) λR L=>∃a c a' c',R= .tuple ⟨[.agg ⟨qb a c f.ad a' c' f.ae⟩,.bool true]⟩/\L=[j4 a c f.ad,pw a' c' f.ae]:=by
 have tO:=Rd.EJ hr;have uB:=Rd.off hr;have uF:=Rd.CI hr;have afA:∀s,cS s v st->jF bf bw 65 [fI v st,tv t] s (iH v) 52 ((lZ st t).getD []) (lZ st t).isSome:=λs hr=>Un s v st h t ht hr
 have FA:∀s,cS s v st->eu bf bw 66 [fI v st,tv t] s (iH v) 122 (fu st t):=λs hr=>BP s v st h t ht hr
 have pJ:(fu st t).length<=16:=by
  unfold fu;rw[uI,(lh h ht).1];have:=ht.mn;omega
 have Ct:=abQ st t;unfold Jh at hf;cases Cc:lZ st t with
 |none=>rw[Cc] at hf;cases hf
 |some all=>
  rw[Cc] at hf afA;cases hf
  have hal:∀s,cS s v st->jF bf bw 65 [fI v st,tv t] s (iH v) 52 all true:=afA;clear afA;generalize fu st t=ns at *
  refine aX f28 ?_;(repeat' (first|refine' aZ|((with_reducible apply WO.tS);exact aD;exact λs hr=>hal s hr;exact ez;intro _ _ wq wu _ _)|refine' Rx|refine' ac1|refine' av|fail));all_goals try refine cI
  refine W.bK (λk l L=>∃(i b2 b4 b8:Nat)(out:gD)(b:aS)(d:Nat),Le [(2,bk b2),(4,bk b4),(8,bk b8),(9,.slice jx ns.length jy),(10,iv (i:Int))] l/\cx [.box b2 (rS v st) 71 false,.box b4 (qb none 0 [] none 0 []) 26 false,.box b8 (qb wq wu all b d out) 26 false,.aQ (.slice jx ns.length jy) 122 10 (ai ns),.aQ (.slice wq all.length wu) 52 2 (ai all),pw b d out] L/\k=ns.length-i/\i<=ns.length/\out.length<=i/\gQ st 0 ns=out++gQ st i (ns.drop i))
   (λl L=>∃(b4 b8:Nat)(b:aS)(d:Nat),Le [(4,bk b4),(8,bk b8)] l/\cx [.box b4 (qb none 0 [] none 0 []) 26 false,.box b8 (qb wq wu all b d (gQ st 0 ns)) 26 false,.aQ (.slice wq all.length wu) 52 2 (ai all),pw b d (gQ st 0 ns)] L) _ ⟨0,_,_,_,[],_,_,bp,au,rfl,af,ay,rfl⟩ ?_ ?_
  .rintro k l L ⟨i,b2,b4,b8,out,b,d,hl,hL,rfl,g1,g2,g3⟩;refine W.le ?_ hl hL;clear hl hL;dsimp only[pw];by_cases hi:i<ns.length
   .have Z6:=Ct _ (aL hi aq.ah);rw[drop_cons hi,gQ] at g3;by_cases k2:(ns.getD i aq.ah).kind=2
    .rw[if_pos k2] at g3;repeat' (first|refine' aZ|refine' Rs|refine' zt|refine' av|fail)
     (all_goals try refine cI);refine⟨_,af,i+1,b2,b4,b8,out++[⟨i,true,[]⟩],_,_,bp,au,rfl,af,by rw[bn];simp;omega,?_⟩;rw[g3];simp
    .rw[if_neg k2] at g3;by_cases k1:(ns.getD i aq.ah).kind=1
     .rw[if_pos k1] at g3;repeat' (first|refine' aZ|refine' Rs|refine' zt|refine' av|fail)
      (all_goals try refine cI);refine⟨_,af,i+1,b2,b4,b8,out++[⟨i,false,bD st (ns.getD i aq.ah)⟩],_,_,bp,au,rfl,af,by rw[bn];simp;omega,?_⟩;rw[g3];simp
     .rw[if_neg k1] at g3;repeat' (first|refine' aZ|refine' Rs|refine' zt|refine' av|fail)
      (all_goals try refine cI);exact⟨_,af,i+1,b2,b4,b8,out,_,_,bp,au,rfl,af,af,by rw[g3];simp⟩
   .have fb:i=ns.length:=by omega
    subst fb;rw[kG,gQ,gJ] at g3;subst g3;refine' cM;(all_goals try refine cI);all_goals exact⟨_,_,_,_,bp,au⟩
  .rintro l L ⟨b4,b8,b,d,hl,hL⟩;refine ak ?_;refine W.le ?_ hl hL;clear hl hL;dsimp only[pw];refine' cM
   exact⟨cy,_,_,bY,au,_,_,_,_,rfl,rfl⟩
theorem aiX (i:Nat):(List.replicate 64 (0:Int)).getD i aq.ah=0:=by rw[a7,Vz];split<;>rfl
theorem aiY (i:Nat):(List.replicate 64 ([]:aC)).getD i aq.ah=[]:=by rw[a7,Vz];split<;>rfl
theorem M8 (s:St)(v:SA)(same:Bool)(hr:cS s v (bV same)):bL 141 [.agg ⟨[.slice v.f 64 v.fc,.slice v.l 64 v.lc]⟩] s (iH v) (.bool true):=by
 have uB:=Rd.off hr;have uF:=Rd.CI hr;have e1:(bV same).bd=List.replicate 64 0:=rfl;have e2:(bV same).dm=List.replicate 64 0:=rfl;rw[e1] at uB;rw[e2] at uF;have hl:(List.replicate 64 (0:Int)).length=64:=by simp
 refine aX f141 ?_;refine' cM;all_goals try refine cI
 refine W.bK (λk l L=>∃(i b1:Nat),Le [(1,bk b1),(3,iv (i:Int))] l/\cx [.box b1 [.slice v.f 64 v.fc,.slice v.l 64 v.lc] 68 false] L/\k=64-i/\i<=64) (λl L=>True) _ ⟨0,_,bp,au,rfl,af⟩ ?_ ?_
 .rintro k l L ⟨i,b1,lQ,hL,rfl,h1⟩;refine W.le ?_ lQ hL;clear lQ hL;have z1:=aiX i;generalize List.replicate 64 (0:Int)=q at *
  have p1:(!fM (q.getD i aq.ah) 0 900)=false:=by rw[z1];rfl
  have p2:(!fM (q.getD i aq.ah) 0 (q.getD i aq.ah))=false:=by rw[z1];rfl
  repeat' (first|refine' aZ|refine' Od|refine' zc3|refine' av|fail)
  all_goals try refine cI
  all_goals first|trivial|exact⟨_,af,i+1,_,bp,au,rfl,af⟩
 .rintro l L _;refine ak ?_;refine W.le ?_ (Le.nil _) (cx.nil _);refine' cM
  refine' ax;rfl
theorem M9 (s:St)(v:SA)(same:Bool)(hr:cS s v (bV same)):bL 95 [fI v (bV same)] s (iH v) (.bool true):=by
 have tO:=Rd.EJ hr;have uB:=Rd.off hr;have uF:=Rd.CI hr;have e0:(bV same).ej=List.replicate 64 []:=rfl;have e1:(bV same).bd=List.replicate 64 0:=rfl;have e2:(bV same).dm=List.replicate 64 0:=rfl;have e3:(bV same).fH=1:=rfl;have e4:(bV same).oQ=0:=rfl;have e5:(bV same).cP=[]:=rfl;have e6:(bV same).eg=[]:=rfl;rw[e0] at tO;rw[e1] at uB;rw[e2] at uF;unfold fI rS;rw[e3,e4,e5,e6];have hl:(List.replicate 64 (0:Int)).length=64:=by simp
 have Ku:(List.replicate 64 ([]:aC)).length=64:=by simp
 have p0:(!fM 1 1 900)=false:=rfl;have p3:(!fM 0 0 (1-1))=false:=rfl;have hsp:∀s,cS s v (bV same)->bL 141 [.agg ⟨[.slice v.f 64 v.fc,.slice v.l 64 v.lc]⟩] s (iH v) (.bool true):=λs hr=>M8 s v same hr
 refine aX f95 ?_;(repeat' (first|refine' aZ|((with_reducible apply WO.mw);exact aD;exact λs hr=>hsp s hr;exact ez;intros)|refine' Od|refine' av|fail));all_goals try refine cI
 refine W.bK (λk l L=>∃(i b1:Nat),Le [(1,bk b1),(3,iv (i:Int))] l/\cx [.box b1 [.slice v.r 64 v.rc,.slice v.f 64 v.fc,.slice v.l 64 v.lc,iv 1,.slice v.g ([]:c9).length v.gc,iv 0,.slice v.d ([]:c9).length v.dc,.bool same] 71 false] L/\k=64-i/\i<=64)
  (λl L=>∃(b1:Nat),Le [(1,bk b1)] l/\cx [.box b1 [.slice v.r 64 v.rc,.slice v.f 64 v.fc,.slice v.l 64 v.lc,iv 1,.slice v.g ([]:c9).length v.gc,iv 0,.slice v.d ([]:c9).length v.dc,.bool same] 71 false] L) _ ⟨0,_,bp,au,rfl,af⟩ ?_ ?_
 .rintro k l L ⟨i,b1,lQ,hL,rfl,h1⟩;refine W.le ?_ lQ hL;clear lQ hL;have z1:=aiX i;have z2:=aiY i;have z3:((List.replicate 64 ([]:aC)).getD i aq.ah).length=0:=by rw[z2];rfl
  generalize List.replicate 64 (0:Int)=q at *
  generalize List.replicate 64 ([]:aC)=qs at *
  have p1:(decide (qs.getD i aq.ah=[]) != decide (q.getD i aq.ah=0))=false:=by rw[z1,z2];rfl
  refine' cM;all_goals try refine cI
  .exact⟨_,af,i+1,_,bp,au,rfl,af⟩
  .exact⟨_,bp,au⟩
 .rintro l L ⟨b1,lQ,hL⟩;refine ak ?_;refine W.le ?_ lQ hL;clear lQ hL;refine' cM
  refine W.bK (λk l L=>∃(b1:Nat),Le [(1,bk b1),(5,cg)] l/\cx [.box b1 [.slice v.r 64 v.rc,.slice v.f 64 v.fc,.slice v.l 64 v.lc,iv 1,.slice v.g ([]:c9).length v.gc,iv 0,.slice v.d ([]:c9).length v.dc,.bool same] 71 false] L/\k=0)
   (λl L=>True) _ ⟨_,bp,au,rfl⟩ ?_ ?_
  .rintro k l L ⟨b1,lQ,hL,rfl⟩;refine W.le ?_ lQ hL;clear lQ hL;have vJ:(([]:c9).length:Int)=0:=rfl;refine' cM
   (all_goals try refine cI);all_goals trivial
  .rintro l L _;refine ak ?_;refine W.le ?_ (Le.nil _) (cx.nil _);refine' cM
   refine' ax;rfl
end Go.Pl
