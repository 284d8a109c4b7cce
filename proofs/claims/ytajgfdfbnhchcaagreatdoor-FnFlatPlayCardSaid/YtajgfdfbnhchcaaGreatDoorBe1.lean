/- Lemmas of the proof. No conditions. -/
import Derived.Test.YtajgfdfbnhchcaaGreatDoorBd4
set_option maxRecDepth 100000
set_option maxHeartbeats 4000000
set_option linter.unusedVariables false
set_option linter.unusedSimpArgs false
open Go.Proofs.Tryz
namespace Go
variable{P:Prop}
theorem zaa (h:P:=by
 have Cq:=s9 f.ad i (aw (f.ad.getD i ak.ah).af).1;have Cr:=ta f.ad i (f.ad.getD i ak.ah).id;rw[<-g2.nF] at Cq;rw[<-g2.li] at Cr;have Sh:((i:Int)-1).toNat=i-1:=by omega
 have Fu:=lU ht;have kC:∀s b,iX s b a c f.ad a' c' f.ae->bF 30 [bg b,iv (f.ad.getD i ak.ah).id] s (rb b a a') (dr a' t 3 0):=λs b hr=>by
  have:=fX s b a c f.ad a' c' f.ae hs ag (f.ad.getD i ak.ah).id hr;rw[ht] at this;exact this
 all_goals(rcases _ with h;exact h)):P:=h
theorem zac (h:P:=by
 obtain⟨hf,hr,hs,hi,g2⟩:=h;intro Q hQ;unfold Qu Kq Kr;refine W.uD rfl rfl ?_;have pk:=gb.n hr;have ru:=gb.t hr;have pO:=hf.tl;have nB:=hf.nl;have hx:=(hf.nm _ (aK hi ak.ah)).1;have Cy:=hx.1;have lV:=gd (f.ad.getD i ak.ah).af;have Qj:∀ch∈(aw (f.ad.getD i ak.ah).af).2,ch.toNat<128:=λch dS=>hx.2.1 ch (ga _ ch dS)
 all_goals(rcases _ with h;exact h)):P:=h
theorem zad (h:P:=by
 have CP:=gH (f.ad.getD ((i:Int)-1).toNat ak.ah).af (f.ad.getD i ak.ah).af;rw[c1] at CP;clear hr hf hs g2;refine' sM;all_goals try refine Ov
 all_goals(rcases _ with h;exact h)):P:=h
theorem zae (h:P:=by
 all_goals try refine cj
 all_goals(refine q8 (v':=v) bG bu ar ?_ (λhc=>(by cases hc));rfl)
 all_goals(rcases _ with h;exact h)):P:=h
theorem zaf (h:P:=by
 rw[uu] at hB;repeat' (first|refine' aW|refine' Ow|refine' XN|refine' av|fail)
 all_goals try refine cj
 all_goals first
  |(refine⟨_,ag,i+1,_,bj,ar,rfl,ag,λj hj=>?_⟩;rcases QU.1 hj with h|h;exact g2 j h;subst h;rw[hB];clear rM Ko g2 hf hr pk ru hB hx h3 Ts h2;generalize f.ae.getD j ak.ah=x at *;(try simp only[show((j:Int)-1).toNat=j-1 by omega] at *);generalize f.ae.getD (j-1) ak.ah=y at *;simp[*]<;>(intros;first|omega|(exfalso;omega));done)
  |(have hz:f.kJ=false:=Ko (by(rw[hB];clear rM Ko g2 hf hr pk ru hB hx h3 Ts h2;generalize f.ae.getD i ak.ah=x at *;(try simp only[show((i:Int)-1).toNat=i-1 by omega] at *);generalize f.ae.getD (i-1) ak.ah=y at *;simp[*]<;>(intros;first|omega|(exfalso;omega)|(exfalso;have hq:x.bq.length=0:=(by have h5:x.bq=[]:=aL;rw[h5];rfl);omega));done))
    rw[hz];refine' ax;rfl)
 all_goals(rcases _ with h;exact h)):P:=h
theorem zag (h:P:=by
 all_goals try refine cj
 all_goals exact⟨bG,_,_,bu,ar,_,_,_,_,rfl,rfl⟩
 all_goals(rcases _ with h;exact h)):P:=h
theorem zaj (h:P:=by
 have Li:=g2.1;have uG:Vx (Flat.gm out ⟨Flat.eO z y (f.ad.getD i ak.ah).af,(f.ad.getD i ak.ah).id⟩):=⟨by rw[pf];omega,λx hx=>by
  rcases Fx _ _ hx with rfl|hx
  .have:=N7 z y (f.ad.getD i ak.ah).af;show(Flat.eO z y (f.ad.getD i ak.ah).af).length<=5000;omega
  .exact g2.2 x hx⟩
 have Qc:(Flat.gm out ⟨Flat.eO z y (f.ad.getD i ak.ah).af,(f.ad.getD i ak.ah).id⟩).length=i+1:=by rw[pf,g3]
 by_cases e1:(f.ad.getD i ak.ah).af=z\/(z.length<(f.ad.getD i ak.ah).af.length/\(f.ad.getD i ak.ah).af.take (z.length+1)=z++[47])
 all_goals(rcases _ with h;exact h)):P:=h
theorem zan (h:P:=by
 have kR:zH f.ad f.ae (i+1) ⟨(eB A.li (f.ad.getD i ak.ah).id ((dz A.li (f.ad.getD i ak.ah).id).getD 0+1)),(eB A.nF (aw (f.ad.getD i ak.ah).af).1 ((dz A.nF (aw (f.ad.getD i ak.ah).af).1).getD 0+1)),(eB A.fo (f.ad.getD i ak.ah).af (f.ae.getD t ak.ah).aJ)⟩:=by
  by_cases hn:Yo f.ad f.ae i
  .obtain⟨A2,h1,h2⟩:=iK.1 hn;rw[e] at h1;cases h1;exact h2
  .rw[iK.2 hn] at e;cases e
 all_goals(rcases _ with h;exact h)):P:=h
theorem zao (h:P:=by
 have e3:¬(z.length<(f.ad.getD i ak.ah).af.length/\(f.ad.getD i ak.ah).af.take ((z.length:Int)+1).toNat=z++[47]):=λh=>e1 (.inr (by rw[show((z.length:Int)+1).toNat=z.length+1 by omega] at h;exact h))
 clear e1;refine' HJ;all_goals first|(exfalso;omega;done)|contradiction|(exfalso;exact e3 ⟨ag,aL⟩)|skip
 all_goals exact⟨_,ag,i+1,b3,b6,_,_,_,bj,ar,rfl,ag,uG,Qc,g4⟩
 all_goals(rcases _ with h;exact h)):P:=h
theorem zap (h:P:=by
 have CP:=gH (f.ad.getD ((i:Int)-1).toNat ak.ah).af (f.ad.getD i ak.ah).af;clear hr hf hs g2;refine' sM;all_goals try refine Ov
 all_goals(rcases _ with h;exact h)):P:=h
theorem zar (h:P:=by
 have e:ik o=(let two:=decide (o.kind=6)||decide (o.kind=7)
   let at2:=decide (o.kind=3)||decide (o.kind=4)
   if !fV o.kind 1 7||!aP o.af||(two&&!aP o.to)||(!two&&decide (o.to≠[])) then false
   else if(decide (o.kind≠3)&&decide (o.bq≠[]))||decide (24<o.bq.length) then false
   else decide (o.at_=0)||(at2&&fV o.at_ 0 192)):=rfl
 all_goals(rcases _ with h;exact h)):P:=h
theorem zas (h:P:=by
 have nY:∀dL a c s,bH s a w6.length 2 (ai w6)->(∀j∈aj a,j∉(ko b dL f1).flatMap It.a8)->BH 158 [bg b,iv at_,.slice a w6.length c] s (ko b dL f1) (aj a) λR L=>∃v':SA,R= .tuple ⟨[]⟩/\L=ko b v' (Fs.bk f1 at_ w6):=λdL a c s hr hm=>
  oA s b dL f1 (Cz.mono ag) at_ nJ a c w6 ag lV.2 hr hm
 generalize Fs.bk f1 at_ w6=f2 at *
 all_goals(rcases _ with h;exact h)):P:=h
theorem zav (h:P:=by
 obtain⟨⟨eN,t2,cJ⟩,code⟩:=r;simp only at je mG;by_cases NV:code=0
 all_goals(rcases _ with h;exact h)):P:=h
theorem zax (h:P:=by
 have kR:zH f.ad f.ae (i+1) ⟨(eB A.li (f.ad.getD i ak.ah).id ((dz A.li (f.ad.getD i ak.ah).id).getD 0+1)),A.nF,(eB A.fo (f.ad.getD i ak.ah).af (f.ae.getD t ak.ah).aJ)⟩:=by
  by_cases hn:Yo f.ad f.ae i
  .obtain⟨A2,h1,h2⟩:=iK.1 hn;rw[e] at h1;cases h1;exact h2
  .rw[iK.2 hn] at e;cases e
 all_goals(rcases _ with h;exact h)):P:=h
theorem zay (h:P:=by
 exact⟨_,ag,i+1,b1,b5,b6,b7,⟨(eB A.li (f.ad.getD i ak.ah).id ((dz A.li (f.ad.getD i ak.ah).id).getD 0+1)),(eB A.nF (aw (f.ad.getD i ak.ah).af).1 ((dz A.nF (aw (f.ad.getD i ak.ah).af).1).getD 0+1)),(eB A.fo (f.ad.getD i ak.ah).af (f.ae.getD t ak.ah).aJ)⟩,hl,hL,rfl,ag,kR,g3⟩
 all_goals(rcases _ with h;exact h)):P:=h
theorem zaA (h:P:=by
 all_goals try refine cj
 all_goals refine mR (v':=v) bG bu ar rfl
 all_goals(rcases _ with h;exact h)):P:=h
theorem zaC (h:P:=by
 all_goals exact⟨_,ag,i+1,b3,b6,_,_,_,bj,ar,rfl,ag,uG,Qc,g4⟩
 all_goals(rcases _ with h;exact h)):P:=h
theorem zaD (h:P:=by
 refine lP λh=>?_
 have h':∀k:Nat,k<=f.ae.length->∃x∈f.ae,x.id=(k:Int):=λk hk=>by
  cases hz:f.cO (k:Int) with
  |none=>exact absurd ⟨k,hk,hz⟩ h
  |some i=>
   obtain⟨h1,h2,_⟩:=oO.1 hz;exact⟨_,rj h1,by simpa using h2⟩
 all_goals(rcases _ with h;exact h)):P:=h
theorem zaE (h:P:=by
 all_goals first|(exfalso;simp_all;done)|skip
 all_goals refine' ax
 all_goals(rcases _ with h;exact h)):P:=h
theorem zaF (h:P:=by
 all_goals try refine cj
 all_goals refine mR (v':=ju) bG bu ar rfl
 all_goals(rcases _ with h;exact h)):P:=h
theorem zaK (h:P:=by
 exact⟨_,ag,i+1,b1,b5,b6,b7,⟨(eB A.li (f.ad.getD i ak.ah).id ((dz A.li (f.ad.getD i ak.ah).id).getD 0+1)),A.nF,(eB A.fo (f.ad.getD i ak.ah).af (f.ae.getD t ak.ah).aJ)⟩,hl,hL,rfl,ag,kR,g3⟩
 all_goals(rcases _ with h;exact h)):P:=h
theorem zaQ (h:P:=by
 have je:fb st t o=(eN,t2,0):=je;rw[je];refine aT f76 ?_;dsimp only[eQ];refine' HH;all_goals try refine cj
 all_goals(refine q8 (v':=xa) bG bu ar ?_ (λhc=>(by cases hc));rfl)
 all_goals(rcases _ with h;exact h)):P:=h
theorem zaR (h:P:=by
 have hzl:z.length<=(f.ad.getD i ak.ah).af.length:=by rcases e1 with h|h<;>first|omega|exact Nat.le_of_eq (ep List.length h).symm
 clear e1;rcases Vw with e1|⟨e0,e2,e3⟩
 all_goals(rcases _ with h;exact h)):P:=h
theorem za0 (h:P:=by
 simp only;generalize Fs.put ⟨eN,t,!ok⟩ k n2=f2 at *
 have ha2:0<=o.at_/\o.at_<=192:=by omega
 have h32:¬192<o.at_+(o.bq.length:Int):=by omega
 all_goals(rcases _ with h;exact h)):P:=h
theorem za5 (h:P:=by
 have hd:tR ⟨s,([]:bZ).flatMap It.a8,aj a⟩ a code:=tR.of hr λ_ hb=>hb
 all_goals(rcases _ with h;exact h)):P:=h
theorem za9 (h:P:=by
 intro o hb ho;rw[wH] at hb⊢;simp only[if_true] at hb⊢;rcases hw:js n kind E f ⟨dU x.af e.name,e.id⟩ o with⟨o2,b2⟩
 all_goals(rcases _ with h;exact h)):P:=h
theorem zbd (h:P:=by
 all_goals try refine cj
 exact⟨_,ag,i+1,o2,ok2,_,_,_,_,bj,ar,rfl,ag,λhh=>by have:=uo hh;dsimp only at this;omega,g3⟩
 all_goals(rcases _ with h;exact h)):P:=h
theorem zbe (h:P:=by
 have:=lO s b v ⟨st,t,false⟩ tz ht at_ ag hr;rwa [jJ] at this
 all_goals(rcases _ with h;exact h)):P:=h
theorem zbf (h:P:=by
 have nJ:at_≠k:=λhc=>by
  have:Pg.bM G at_=[]:=by rw[hc];exact Je
  rw[Pg.dV p3] at this;rw[this] at p6;simp at p6
 all_goals(rcases _ with h;exact h)):P:=h
theorem zbo (h:P:=by
 have Rf:Rd ⟨s,([]:bZ).flatMap It.a8,aj a++aj a'⟩ a' q.length 3 (ai q):=Rd.of h2 λ_ hb=>dE _ hb
 all_goals(rcases _ with h;exact h)):P:=h
end Go
namespace Go.Pl
open Go Go.Ev Go.Lg Go.Proofs
variable {E:ig}{X:fR}{Γ:qV}{l:Kn}{L R:bZ}{K:KO}{g:FuncId}{xs:List Operand}{ts:Array TypeId}{vs:a6}{v:SA}{f f':Fs}{b:Nat}{r:Value}
theorem Ze (st:au)(t:cB)(k:Int):ka ((jr st t k).getD bB):=by
 unfold jr;split
 .exact ka.no
 .cases h:eR (Tf st t k.toNat) with
  |none=>exact ka.no
  |some n=>exact ka.of (Pg.xY h).1
theorem BY:∀(w:List az)(k n:Nat)(st:au)(t:cB),(∀s∈w,s.length<=3000)->k+w.length<=16->dA n st->ek t->dA (n+30*w.length) (lE w k st t).1/\ek (lE w k st t).2.1
 |[],k,n,st,t,_,_,h,ht=>⟨h,ht⟩
 |s::w,k,n,st,t,hs,hk,h,ht=>by
  rw[cY] at hk;have bV:=nq (k:=k) (z:=s) h ht ag (hs s ay);rw[lE,cY];rcases hp:nH st t k s with⟨eN,t2,ok⟩
  rw[hp] at bV;cases ok with
  |true=>
   have:=BY w (k+1) (n+30) eN t2 (λx hx=>hs x (by simp[hx])) ag bV.1 bV.2.1;exact⟨this.1.mono ag,this.2⟩
  |false=>exact⟨bV.1.mono ag,ht⟩
theorem BZ {n:Nat}{st:au}{t:cB}{z:az}(h:dA n st)(ht:ek t):dA (n+600) (kH st t z).1/\ek (kH st t z).2.1:=by
 unfold kH;simp only;split
 .exact⟨h.mono ag,ht⟩
 .have bV:=BY (dB (z.length+1) z) 0 n st t (λs hs=>by have:=yc _ _ s hs;omega) ag h ht;rcases hp:lE (dB (z.length+1) z) 0 st t with⟨eN,t2,ok⟩
  rw[hp] at bV;cases ok with
  |false=>exact⟨bV.1.mono ag,bV.2⟩
  |true=>
   have h3:=zS (many:=((dB (z.length+1) z).length:Int)) bV.1 bV.2 ag;exact⟨h3.1.mono ag,h3.2.1⟩
structure sY (n:Nat)(f:Fs):Prop where
 st:dA n f.st
 t:ek f.t
theorem sY.mono {n m:Nat}{f:Fs}(h:sY n f)(hm:n<=m):sY m f:=⟨h.st.mono hm,h.t⟩
theorem sY.put {n:Nat}{f:Fs}(h:sY n f){k:Int}(hk:k.toNat<16)(x:iM):sY (n+30) (f.put k x):=by
 unfold Fs.put;split
 .exact h.mono ag
 .have:=nq (k:=k.toNat) (z:=gj x) h.st h.t hk (by have:=yd x;omega);unfold pK;exact⟨this.1,this.2.1⟩
theorem sY.bk {n:Nat}{f:Fs}(h:sY n f){k:Int}(hk:k.toNat<16)(l:List bf):sY (n+630) (f.bk k l):=by
 unfold Fs.bk;split
 .exact h.mono ag
 .have:=BZ (z:=bn l) h.st (Ze f.st f.t k).tr;exact sY.put (f:=⟨_,f.t,_⟩) ⟨this.1,h.t⟩ hk _
theorem Fk (s:St)(b:Nat)(v:SA)(f:Fs)(h:dA 100000 f.st)(ht:ek f.t)(z:az)(hz:z.length<=90000)(hp:aP z=true)(hr:lN s b v f):bF 154 [bg b,sv z] s (ub b v) (.tuple ⟨[iv (f.bI z).1,iv (f.bI z).2]⟩):=by
 have Oz:=E8.bx hr;have tZ:=E8.rw hr;have uy:=E8.rf hr;have uC:=E8.la hr;have he:f.bI z=if 0<(f.bU z).2 then(0,(f.bU z).2) else if 0<=f.di z then(0,3) else((f.bU z).1,0):=rfl
 generalize f.bI z=r at *
 refine aT f154 ?_;(repeat' (first|refine' aW|((with_reducible apply WO.JF);exact aC;exact uq;exact λs hr=>uc s _ _ _ aL aL _ ag aL hr;intros)|((with_reducible apply WO.JF);exact aC;exact uq;exact λs hr=>qg s _ _ _ aL aL _ ag aL hr;intros)|refine' av|fail));all_goals refine' ax
 all_goals(first|(rw[if_pos ag] at he;rw[he];rfl)|(rw[if_neg ag,if_pos ag] at he;rw[he];rfl)|(rw[if_neg ag,if_neg ag] at he;rw[he];rfl))
theorem WO.AT (hx:kA l xs vs)(h:∀v s,mJ E X g vs s b v f f' r)(hp:oZ (ko b v f) L R)(k:∀m m' v',jX L m->m<=m'->K r (ko b v' f'++R) m m' (FtR [] (ko b v f) m m') (FtW (ko b v f) m m')):WC E X Γ l g xs ts L K:=WO.ajc hx (h v) hp k
theorem WO.vW (hx:kA l xs vs)(h:∀s,lN s b v f->nQ E X g vs s (ub b v) r)(hh:LP Γ L b v f)(k:∀m m',jX L m->m<=m'->K r L m m' (FtR (ub b v) [] m m') (FtW [] m m')):WC E X Γ l g xs ts L K:=WO.JF hx hh h k
theorem WO.Mb {α:Type}{sz:Nat}{enc:ak α sz}{e:TypeId}{p:List α}(hx:kA l xs vs)(h:∀s,lN s b v f->eU E X g vs s (ub b v) e p)(hh:LP Γ L b v f)(k:∀m m' a c,jX L m->m<=m'->K (.slice a p.length c) (.aQ (.slice a p.length c) e sz (ai (sz:=sz) p)::L) m m' (FtR (ub b v) [] m m') (FtW [] m m')):WC E X Γ l g xs ts L K:=WO.RU hx hh h k
theorem WO.XA {a:aM}{n sz:Nat}{cs:a6}(hx:kA l xs vs)(h:∀v s,bH s a n sz cs->(∀i∈aj a,i∉(ko b v f).flatMap It.a8)->fM E X g vs s (ko b v f) (aj a) λR L=>∃v':SA,R=r/\L=ko b v' f')(hp:oZ (ko b v f) L R)(hh:jB Γ R a n sz cs)(k:∀m m' v',jX L m->m<=m'->K r (ko b v' f'++R) m m' (FtR (aj a) (ko b v f) m m') (FtW (ko b v f) m m')):WC E X Γ l g xs ts L K:=
 WO.call (Lm:=ko b v f) (R:=R) hx hp.cZ (λs hi=>(hh.row (hi.cZ hp.cZ|>.sub ⟨R,.refl _,nK _ _⟩)).2) (λs hi=>h v s (hh.row (hi.cZ hp.cZ|>.sub ⟨R,.refl _,nK _ _⟩)).1 (jB.apart hh (hi.cZ hp.cZ))) (by rintro r' L' m m' ho hm ⟨v',rfl,rfl⟩;exact k m m' v' ho hm)
theorem WO.aeQ {a:aM}{n c LC e':Nat}{cs:a6}{α:Type}{sz:Nat}{enc:ak α sz}{e:TypeId}{p:List α}(hx:kA l xs vs)(hm:It.aQ (.slice a n c) e' LC cs∈L)(h:∀s,bH s a n LC cs->w9 s a n c e' LC->eU E X g vs s (aj a) e p)(k:∀m m' a' c',jX L m->m<=m'->K (.slice a' p.length c') (.aQ (.slice a' p.length c') e sz (ai (sz:=sz) p)::L) m m' (FtR (aj a) [] m m') (FtW [] m m')):WC E X Γ l g xs ts L K:=
 WO.LG hx (λs hi=>by
   have h1:=(jB.aQ (Γ:=Γ) hm).row hi;exact⟨h1.2,h s h1.1 (xL.slv (hi.it _ hm) λb hb=>(h1.2 b hb).1)⟩) k
theorem oA (s:St)(b:Nat)(v:SA)(f:Fs)(h:sY 60000 f)(k:Nat)(hk:k<16)(a:aM)(c:Nat)(p:List bf)(hp:p.length<=20)(hn:∀e∈p,e.name.length<=1000/\0<=e.id/\e.id<=1000)(hr:bH s a p.length 2 (ai p))(hm:∀i∈aj a,i∉(ko b v f).flatMap It.a8):
  BH 158 [bg b,iv k,.slice a p.length c] s (ko b v f) (aj a) λR L=>∃v':SA,R= .tuple ⟨[]⟩/\L=ko b v' (f.bk k p):=by
 have hd:Rd ⟨s,(ko b v f).flatMap It.a8,aj a⟩ a p.length 2 (ai p):=⟨hr,λb hb=>hb,hm⟩;have iK:=h.st.mono (show 60000<=100000 by omega);have ht:=h.t;have hn3:∀e∈p,e.name.length<=3000/\0<=e.id/\e.id<=1000000000:=λe he=>by have:=hn e he;omega
 have uG:=Ze f.st f.t k;have cX:(bn p).length<=50000:=by
  have:∀(l:List bf),(∀e∈l,e.name.length<=1000/\0<=e.id/\e.id<=1000)->(bn l).length<=l.length*1100:=by
   intro l;induction l with
   |nil=>intro _;simp[bn]
   |cons x l ih=>
    intro hl;(have h1:=ih λe he=>hl e (by simp[he]));have h2:=hl x ay;have h3:(dec x.id).length<=10:=om x.id ag;have:bn (x::l)=(x.name++61::(dec x.id++[59]))++bn l:=rfl;rw[this,bL,bL,cY,bL,cY];simp only[cY,lW];omega
  have:=this p hn;omega
 have hw:f.bk k p=if f.cJ then f else match kH f.st (f.node k).aX (bn p) with
  |(st,t,ok)=>Fs.put ⟨st,f.t,!ok⟩ k {f.node k with aX:=t,size:=(bn p).length}:=rfl
 have bV:=BZ (z:=bn p) h.st uG.tr;rcases Us:kH f.st (f.node k).aX (bn p) with⟨eN,t2,ok⟩
 rw[show kH f.st ((jr f.st f.t k).getD bB).aX (bn p)=_ from Us] at bV;have ajl:∀(dL:SA) s,eV bh bw 198 [fK dL f.st,tv (f.node k).aX,sv (bn p)] s [] dL f.st eN true (Co t2 ok):=λdL s=>by
  have:=YV s dL f.st (h.st.mono ag) (f.node k).aX uG.tr (bn p) cX;rw[Us] at this;exact this
 have dM:∀(dL:SA) s,mJ bh bw 157 [bg b,iv k,nv {f.node k with aX:=t2,size:=(bn p).length}] s b dL ⟨eN,f.t,!ok⟩ (Fs.put ⟨eN,f.t,!ok⟩ k {f.node k with aX:=t2,size:=(bn p).length}) (.tuple ⟨[]⟩):=λdL s=>
  sS s b dL ⟨eN,f.t,!ok⟩ (bV.1.mono ag) ht k hk _
 rw[Us] at hw;simp only at hw;generalize Fs.put ⟨eN,f.t,!ok⟩ k {f.node k with aX:=t2,size:=(bn p).length}=f2 at *
 refine aT f158 ?_;dsimp only[ko,eQ];cases hf:f.cJ with
 |true=>
  rw[hf] at hw;rw[hw,if_pos rfl];refine' cR;refine mR (v':=v) bG bu ar rfl
 |false=>
  rw[hf] at hw;rw[hw,if_neg bJ];(repeat' (first|refine' aW|refine' Xw|refine' ahN|((with_reducible apply WO.nf);exact aC;exact λs=>ajl _ s;exact eC;intro _ _ ajm _ _ ajn)|refine' HD|refine' av|fail));all_goals try exact pJ
  all_goals refine mR (v':=pQ) bG bu ar rfl
theorem Zf {l:List bf}(h:bD l=true):l.length<=12/\∀e∈l,e.name.length<=1000/\0<=e.id/\e.id<=1000:=by
 unfold bD at h;simp only[bO,gA,bQ,fV] at h;refine⟨h.2,λe he=>?_⟩;have h1:=h.1.1 e he;have h2:e.name.length<=4:=by
  have:=h1.1;unfold aU at this;simp only[bO,bQ,fV] at this;omega
 omega
theorem vC (f:Fs)(k:Int):(f.bM k).length<=12/\∀e∈f.bM k,e.name.length<=1000/\0<=e.id/\e.id<=1000:=by
 unfold Fs.bM;cases h:bR f.st (f.node k) with
 |none=>simp
 |some l=>
  refine' zai;exact Zf fm
theorem Aa {l:List bf}{x:bf}{n:Nat}(h:l.length<=n/\∀e∈l,e.name.length<=1000/\0<=e.id/\e.id<=1000)(hx:x.name.length<=1000/\0<=x.id/\x.id<=1000):(gz l x).length<=n+1/\∀e∈gz l x,e.name.length<=1000/\0<=e.id/\e.id<=1000:=by
 refine⟨by rw[Pg.Nw];omega,λe he=>?_⟩;rcases Pg.nw.1 he with rfl|he
 .exact hx
 .exact h.2 e he
theorem UC {l:List bf}{i:Nat}{n:Nat}(h:l.length<=n/\∀e∈l,e.name.length<=1000/\0<=e.id/\e.id<=1000):(eA l i).length<=n/\∀e∈eA l i,e.name.length<=1000/\0<=e.id/\e.id<=1000:=
 ⟨gK (Pg.jx l i).length_le h.1,λe he=>h.2 e ((Pg.jx l i).subset he)⟩
variable {st:au}{a an:aM}{p q:List a7}{csn:a6}
abbrev cv (a:aM)(c:Nat)(p:List a7):It:=.aQ (.slice a p.length c) 39 2 (ai p)
abbrev Fl (E:ig)(X:fR)(f:FuncId)(vs:a6)(s:St)(v:SA)(an:aM)(a:aM)(c:Nat)(p q:List a7)(ok:Bool):Prop:=fM E X f vs s [cv a c p] (iO v++aj an) λR L=>∃a' c',R= .tuple ⟨[.slice a' q.length c',.bool ok]⟩/\L=[.aQ (.slice a' q.length c') 39 2 (ai q)]
section
variable {c nn:Nat}{ok:Bool}
theorem WO.Xx (hx:kA l xs vs)(h:∀s,cS s v st->bH s an nn 10 csn->(∀i∈iO v++aj an,i∉[cv a c p].flatMap It.a8)->Fl E X g vs s v an a c p q ok)(hp:oZ [cv a c p] L R)(hh:rC Γ R v st)(hn:jB Γ R an nn 10 csn)
  (k:∀m m' a' c',jX L m->m<=m'->K (.tuple ⟨[.slice a' q.length c',.bool ok]⟩) (.aQ (.slice a' q.length c') 39 2 (ai q)::R) m m' (FtR (iO v++aj an) [cv a c p] m m') (FtW [cv a c p] m m')):WC E X Γ l g xs ts L K:=by
 have jn:∀{s},Inv Γ s L->Inv Γ s R:=λhi=>hi.cZ hp.cZ|>.sub ⟨R,.refl _,nK _ _⟩
 refine WO.call (Lm:=[cv a c p]) (R:=R) (A:=iO v++aj an) hx hp.cZ (λs hi b hb=>?_) (λs hi=>h s (hh.row (jn hi)).1 (hn.row (jn hi)).1 λi tA=>?_) (by rintro r L' m m' ho hm ⟨a',c',rfl,rfl⟩;exact k m m' a' c' ho hm)
 .rcases eZ.1 hb with hb|hb
  .exact(hh.row (jn hi)).2 b hb
  .exact(hn.row (jn hi)).2 b hb
 .have hip:=hi.cZ hp.cZ;rcases eZ.1 tA with hb|hb
  .rcases eZ.1 hb with hb|hb
   .exact jB.apart hh.r hip i hb
   .rcases eZ.1 hb with hb|hb
    .exact jB.apart hh.f hip i hb
    .exact jB.apart hh.l hip i hb
  .exact jB.apart hn hip i hb
theorem Zg {rs:List ResultVar}{x:Ex}{a':aM}{c':Nat}(hx:x= .normal\/x= .ret)(hr:qD E l L rs [.slice a' q.length c',.bool ok])(hL:cC [.aQ (.slice a' q.length c') 39 2 (ai q)] L):
  vh E rs (λR L=>∃a' c',R= .tuple ⟨[.slice a' q.length c',.bool ok]⟩/\L=[.aQ (.slice a' q.length c') 39 2 (ai q)]) x l L:=⟨hx,_,_,hr,hL,a',c',rfl,rfl⟩
end
theorem afz {st:au}{n:iM}{l:List bf}(h:bR st n=some l):l.length<=12/\∀e∈l,e.name.length<=4:=by refine' zai;unfold bD at fm;simp only[bO,gA,bQ,fV] at fm;refine⟨fm.2,λe he=>?_⟩;have:=(fm.1.1 e he).1;unfold aU at this;simp only[bO,bQ] at this;omega
theorem yl {n:Nat}{kind:Nat->Int}{E:Nat->Option (List bf)}{f:Nat}{x:a7}(l:List bf)(o:List a7):l.foldl (λr e=>if r.2 then js n kind E f ⟨dU x.af e.name,e.id⟩ r.1 else r) (o,false)=(o,false):=by
 induction l with
 |nil=>rfl
 |cons e l ih=>rw[wH];exact ih
theorem Fm {n:Nat}{kind:Nat->Int}{E:Nat->Option (List bf)}:∀(f:Nat)(x:a7)(out:List a7),(js n kind E f x out).2=true->out.length<(js n kind E f x out).1.length/\(js n kind E f x out).1.length<=144
 |0,x,out,h=>by cases h
 |f+1,x,out,h=>by
  rw[js] at h⊢;try simp only at h⊢
  split at h
  .cases h
  .rename_i hc;rw[if_neg hc];have hl:(out++[x]).length<=144:=by
    simp only[mf,bQ,not_or] at hc;omega
   (have uo:out.length<(out++[x]).length:=by rw[bL];simp);split at h
   .rename_i h1;rw[if_pos h1];exact⟨uo,hl⟩
   .rename_i h1;rw[if_neg h1];cases he:E x.id.toNat with
    |none=>rw[he] at h;cases h
    |some l=>
     rw[he] at h;simp only at h⊢;have Zh:∀(l:List bf)(o:List a7),(l.foldl (λr e=>if r.2 then js n kind E f ⟨dU x.af e.name,e.id⟩ r.1 else r) (o,true)).2=true->o.length<=144->o.length<=(l.foldl (λr e=>if r.2 then js n kind E f ⟨dU x.af e.name,e.id⟩ r.1 else r) (o,true)).1.length/\(l.foldl (λr e=>if r.2 then js n kind E f ⟨dU x.af e.name,e.id⟩ r.1 else r) (o,true)).1.length<=144:=by
      intro l;induction l with
      |nil=>intro o _ ho;exact⟨cG _,ho⟩
      |cons e l ih=>
       refine' za9
       rw[hw] at hb;cases b2 with
       |false=>rw[yl] at hb;cases hb
       |true=>
        have h3:=Fm f ⟨dU x.af e.name,e.id⟩ o (by rw[hw]);rw[hw] at h3;have h4:=ih o2 hb h3.2;exact⟨by have:=h3.1;have:=h4.1;simp only at *;omega,h4.2⟩
     have h5:=Zh l _ h hl;exact⟨ag,h5.2⟩
theorem Qn (st:au)(h:dA 100000 st)(ns:List iM)(uG:ns.length<=16)(v:SA)(an:aM)(cn:Nat):∀(f:Nat)(x:a7)(out:List a7)(a:aM)(c:Nat)(s:St),out.length<=144->146<=f+out.length->x.af.length+5*f<=1000->
  cS s v st->bH s an ns.length 10 (ai ns)->(∀i∈iO v++aj an,i∉[cv a c out].flatMap It.a8)->Fl bh bw 120 [fK v st,.slice an ns.length cn,.agg ⟨[sv x.af,iv x.id]⟩,.slice a out.length c] s v an a c out (walk st ns f x out).1 (walk st ns f x out).2:=by
 intro f;induction f with
 |zero=>intro x out a c s h1 h2;omega
 |succ f ih=>
  intro x out a c s h1 h2 h3 hr hn hm;have tZ:Rd ⟨s,[cv a c out].flatMap It.a8,iO v++aj an⟩ v.r 64 1 (ai st.ez):=⟨hr.r,λb hb=>cT _ (HS hb),λb hb=>hm b (cT _ (HS hb))⟩;have uy:Rd ⟨s,[cv a c out].flatMap It.a8,iO v++aj an⟩ v.f 64 1 (ai st.bc):=⟨hr.f,λb hb=>cT _ (HT hb),λb hb=>hm b (cT _ (HT hb))⟩;have uC:Rd ⟨s,[cv a c out].flatMap It.a8,iO v++aj an⟩ v.l 64 1 (ai st.dw):=⟨hr.l,λb hb=>cT _ (HU hb),λb hb=>hm b (cT _ (HU hb))⟩;have pk:Rd ⟨s,[cv a c out].flatMap It.a8,iO v++aj an⟩ an ns.length 10 (ai ns):=⟨hn,λb hb=>dE _ hb,λb hb=>hm b (dE _ hb)⟩;have hw:walk st ns (f+1) x out=if 144<(out++[x]).length||!fV x.id 0 (ns.length-1)||decide ((ns.getD x.id.toNat bB).kind=0) then(out++[x],false) else
   if(ns.getD x.id.toNat bB).kind=1 then(out++[x],true) else
   match bR st (ns.getD x.id.toNat bB) with
   |none=>(out++[x],false)
   |some l=>l.foldl (λr e=>if r.2 then js ns.length (λi=>(ns.getD i bB).kind) (λi=>bR st (ns.getD i bB)) f ⟨dU x.af e.name,e.id⟩ r.1 else r) (out++[x],true):=rfl
  generalize walk st ns (f+1) x out=Y at *
  rw[bL,Bt] at hw;have cX:(out++[x]).length=out.length+1:=by rw[bL];rfl
  have amf:(bB:iM)=ak.ah (α:=iM):=rfl;rw[amf] at hw;by_cases hC:144<out.length+1\/¬(0<=x.id/\x.id<=(ns.length:Int)-1)\/(ns.getD x.id.toNat ak.ah).kind=0
  .rw[if_pos (by simp only[fV,mf,bQ,qi,An,mg];omega)] at hw;subst hw;refine aT f120 ?_;dsimp only[cv];refine' zb2
   (all_goals try exact pJ);all_goals exact Zg bG bu ar
  .have hC1:out.length+1<=144:=by omega
   (have hC2:0<=x.id/\x.id<=(ns.length:Int)-1:=by omega);(have hC3:(ns.getD x.id.toNat ak.ah).kind≠0:=λh=>hC (.inr (.inr h)));rw[if_neg (by simp only[fV,mf,bQ,qi,An,mg];omega)] at hw;clear hC;by_cases hK:(ns.getD x.id.toNat ak.ah).kind=1
   .rw[if_pos hK] at hw;subst hw;refine aT f120 ?_;dsimp only[cv];refine' zb2
    (all_goals first|(exfalso;omega;done)|contradiction|(exfalso;simp only[An,mg] at ur;omega)|skip);all_goals exact Zg bG bu ar
   .rw[if_neg hK] at hw;obtain⟨es,okb,tE,hW,AD,hb4⟩:∃(es:List bf)(okb:Bool),(∀s,cS s v st->jQ bh bw 171 [fK v st,nv (ns.getD x.id.toNat ak.ah)] s (iO v) 200 es okb)/\
                         Y=es.foldl (λr e=>if r.2 then js ns.length (λi=>(ns.getD i ak.ah).kind) (λi=>bR st (ns.getD i ak.ah)) f ⟨dU x.af e.name,e.id⟩ r.1 else r) (out++[x],okb)/\es.length<=12/\∀e∈es,e.name.length<=4:=by
     refine⟨(bR st (ns.getD x.id.toNat ak.ah)).getD [],(bR st (ns.getD x.id.toNat ak.ah)).isSome,λs hr=>l8 s v st h _ hr,?_,?_⟩
     .rw[hw];cases bR st (ns.getD x.id.toNat ak.ah)<;>rfl
     .cases he:bR st (ns.getD x.id.toNat ak.ah) with
      |none=>simp
      |some l=>exact afz he
    clear hw;(have hwk:∀x' o,js ns.length (λi=>(ns.getD i ak.ah).kind) (λi=>bR st (ns.getD i ak.ah)) f x' o=walk st ns f x' o:=λ_ _=>rfl);(have hle:∀x' o,(walk st ns f x' o).2=true->o.length<(walk st ns f x' o).1.length/\(walk st ns f x' o).1.length<=144:=λx' o=>Fm f x' o);(have hF0:∀(l:List bf)(o:List a7),l.foldl (λr e=>if r.2 then js ns.length (λi=>(ns.getD i ak.ah).kind) (λi=>bR st (ns.getD i ak.ah)) f ⟨dU x.af e.name,e.id⟩ r.1 else r) (o,false)=(o,false):=λl o=>yl l o);have yB:∀(e:bf)(o:List a7),(λ(r:List a7×Bool) (e:bf)=>if r.2 then js ns.length (λi=>(ns.getD i ak.ah).kind) (λi=>bR st (ns.getD i ak.ah)) f ⟨dU x.af e.name,e.id⟩ r.1 else r) (o,true) e=walk st ns f ⟨dU x.af e.name,e.id⟩ o:=λ_ _=>rfl
    generalize(λ(r:List a7×Bool) (e:bf)=>if r.2 then js ns.length (λi=>(ns.getD i ak.ah).kind) (λi=>bR st (ns.getD i ak.ah)) f ⟨dU x.af e.name,e.id⟩ r.1 else r)=F at *
    refine aT f120 ?_;dsimp only[cv];(repeat' (first|refine' aW|refine' Ow|((with_reducible apply WO.tS);exact aC;exact λs hr=>tE s hr;exact eF;intro _ _ rX rY _ _)|refine' av|fail));all_goals first|(exfalso;omega;done)|contradiction|(exfalso;simp only[An,mg] at ur;omega)|skip
    refine W.bN (λk l L=>∃(i:Nat)(o:List a7)(ok:Bool)(a3:aM)(c3 b4 b6:Nat),Le [(1,.slice an ns.length cn),(3,.slice a3 o.length c3),(4,bg b4),(6,bg b6),(10,.slice rX es.length rY),(11,.bool ok),(12,iv (i:Int))] l/\cC [.aQ (.slice a3 o.length c3) 39 2 (ai o),.box b4 (se v st) 81 false,.box b6 [sv x.af,iv x.id] 39 false,.aQ (.slice rX es.length rY) 200 2 (ai es)] L/\k=es.length-i/\i<=es.length/\(ok=true->o.length<=144/\out.length+1<=o.length)/\Y=(es.drop i).foldl F (o,ok))
     (λl L=>∃(o:List a7)(ok:Bool)(a3:aM)(c3:Nat),Le [(3,.slice a3 o.length c3),(11,.bool ok)] l/\cC [.aQ (.slice a3 o.length c3) 39 2 (ai o)] L/\Y=(o,ok)) _ ⟨0,out++[x],okb,_,_,_,_,bj,ar,rfl,ag,λ_=>by omega,hW⟩ ?_ ?_
    .rintro k l L ⟨i,o,ok,a3,c3,b4,b6,hl,hL,rfl,g1,g2,g3⟩;refine W.le ?_ hl hL;clear hl hL;by_cases hi:i<es.length
     .cases ok with
      |false=>
       refine' cR;(all_goals try refine cj);all_goals exact⟨o,false,a3,c3,bj,ar,by rw[g3,hF0]⟩
      |true=>
       obtain⟨g4,g5⟩:=g2 rfl;have nB:=hb4 _ (aK hi ak.ah);rw[drop_cons hi,wH,yB] at g3;generalize hP:dU x.af (es.getD i ak.ah).name=P at *
       have hPl:P.length<=x.af.length+5:=by
        rw[<-hP];unfold dU;split<;>simp only[bL,cY]<;>omega
       have alB:∀a c s,cS s v st->bH s an ns.length 10 (ai ns)->(∀i∈iO v++aj an,i∉[cv a c o].flatMap It.a8)->Fl bh bw 120 [fK v st,.slice an ns.length cn,.agg ⟨[sv P,iv (es.getD i ak.ah).id]⟩,.slice a o.length c] s v an a c o (walk st ns f ⟨P,(es.getD i ak.ah).id⟩ o).1 (walk st ns f ⟨P,(es.getD i ak.ah).id⟩ o).2:=λa c s hr hn hm=>ih ⟨P,(es.getD i ak.ah).id⟩ o a c s g4 ag (by show P.length+5*f<=1000;omega) hr hn hm
       have uo:=hle ⟨P,(es.getD i ak.ah).id⟩ o;generalize walk st ns f ⟨P,(es.getD i ak.ah).id⟩ o=W2 at *
       obtain⟨o2,ok2⟩:=W2;by_cases HP:x.af=[47]
       .have hP:[47]++(es.getD i ak.ah).name=P:=by rw[<-hP,HP];rfl
        subst hP;(repeat' (first|refine' aW|refine' ac1|refine' av|fail));(all_goals try refine cj);all_goals refine' zbd
       .have hP:(x.af++[47])++(es.getD i ak.ah).name=P:=by rw[<-hP];unfold dU;rw[if_neg HP,ku];rfl
        subst hP;(repeat' (first|refine' aW|refine' ac1|refine' av|fail));(all_goals try refine cj);all_goals refine' zbd
     .have fF:i=es.length:=by omega
      subst fF;rw[iI] at g3;refine' cR;(all_goals try refine cj);all_goals exact⟨o,ok,a3,c3,bj,ar,g3⟩
    .rintro l L ⟨o,ok,a3,c3,hl,hL,g3⟩;refine aq ?_;refine W.le ?_ hl hL;refine' cR
     rw[g3];all_goals exact Zg bG bu ar
variable {i:Nat}
theorem Iw {n:Nat}{kind:Nat->Int}{E:Nat->Option (List bf)}:∀(f:Nat)(x:a7)(out:List a7),(js n kind E f x out).2=true->(∀y∈out,0<=y.id/\y.id<=(n:Int)-1)->∀y∈(js n kind E f x out).1,0<=y.id/\y.id<=(n:Int)-1
 |0,x,out,h,_=>by cases h
 |f+1,x,out,h,ho=>by
  rw[js] at h⊢;try simp only at h⊢
  split at h
  .cases h
  .rename_i hc;rw[if_neg hc];have hx:0<=x.id/\x.id<=(n:Int)-1:=by
    simp only[fV,mf,bQ,not_or,qi,An,mg] at hc;omega
   have By:∀y∈out++[x],0<=y.id/\y.id<=(n:Int)-1:=λy hy=>by
    rcases eZ.1 hy with hy|hy
    .exact ho y hy
    .rw[ix] at hy;subst hy;exact hx
   split at h
   .rename_i h1;rw[if_pos h1];exact By
   .rename_i h1;rw[if_neg h1];cases he:E x.id.toNat with
    |none=>rw[he] at h;cases h
    |some l=>
     rw[he] at h;simp only at h⊢;have Zh:∀(l:List bf)(o:List a7),(l.foldl (λr e=>if r.2 then js n kind E f ⟨dU x.af e.name,e.id⟩ r.1 else r) (o,true)).2=true->(∀y∈o,0<=y.id/\y.id<=(n:Int)-1)->∀y∈(l.foldl (λr e=>if r.2 then js n kind E f ⟨dU x.af e.name,e.id⟩ r.1 else r) (o,true)).1,0<=y.id/\y.id<=(n:Int)-1:=by
      intro l;induction l with
      |nil=>intro o _ ho;exact ho
      |cons e l ih=>
       refine' za9
       rw[hw] at hb;cases b2 with
       |false=>rw[yl] at hb;cases hb
       |true=>
        have h3:=Iw f ⟨dU x.af e.name,e.id⟩ o (by rw[hw]) ho;rw[hw] at h3;exact ih o2 hb h3
     exact Zh l _ h By
theorem Kl (out:List a7)(x:a7)(k:Nat):lF (out++[x]) k=lF out k+if x.id=(k:Int) then 1 else 0:=by unfold lF;rw[qk,bL];by_cases h:x.id=(k:Int)<;>simp[h]
theorem j9 {l:List Int}{i k:Nat}{v:Int}(hi:i<l.length):(l.set i v).getD k 0=if k=i then v else l.getD k 0:=by
 rw[aZ,aZ,List.getElem?_set];by_cases h:i=k
 .subst h;simp[hi]
 .rw[if_neg h,if_neg (λe=>h e.symm)]
theorem ajo {q:List a7}(hi:i<q.length):q.take (i+1)=q.take i++[q.getD i ak.ah]:=by rw[uO,aZ,bd hi];rfl
theorem Qo (out:List a7)(k:Nat):0<=lF out k/\lF out k<=out.length:=by unfold lF;have:=yI (λx:a7=>decide (x.id=(k:Int))) out;omega
theorem UD (s:St)(v:SA)(st:au)(h:dA 100000 st)(t:cB)(ht:ek t)(hr:cS s v st):jQ bh bw 78 [fK v st,tv t] s (iO v) 39 ((l5 st t).getD []) (l5 st t).isSome:=by
 have tZ:=Rd.EH hr;have uy:=Rd.off hr;have uC:=Rd.CM hr;have Cp:l5 st t=if !oJ st t then none else if fC st t=[]\/((fC st t).headD bB).kind≠2 then none else match walk st (fC st t) 146 ⟨[47],0⟩ [] with
  |(_,false)=>none
  |(out,true)=>if lG st out 0 (fC st t) then some out else none:=rfl
 generalize l5 st t=Y at *
 by_cases hT:oJ st t=true
 .rw[hT] at Cp;rw[if_neg bJ] at Cp;have uG:∀s,cS s v st->eU bh bw 79 [fK v st,tv t] s (iO v) 130 (fC st t):=λs hr=>BV s v st h t ht hr
  have nB:(fC st t).length<=16:=by
   unfold fC;rw[td,(lq h ht).1];have:=ht.mn;omega
  generalize fC st t=ns at *
  have hTf:(!oJ st t)=false:=by rw[hT];rfl
  have hhd:ns.headD bB=ns.getD 0 ak.ah:=by cases ns<;>rfl
  rw[hhd] at Cp;by_cases hN:ns.length=0\/(ns.getD 0 ak.ah).kind≠2
  .rw[if_pos (by
      rcases hN with h|h
      .exact .inl (mO h)
      .exact .inr h)] at Cp
   subst Cp;refine aT f78 ?_;(repeat' (first|refine' aW|refine' Rw|refine' Rx|refine' av|fail));(all_goals try refine cj);all_goals exact Hm bG bu ar rfl rfl
  .have hN1:0<ns.length:=by omega
   have hN2:(ns.getD 0 ak.ah).kind=2:=by
    by_cases h:(ns.getD 0 ak.ah).kind=2
    .exact h
    .exact absurd (.inr h) hN
   rw[if_neg (λh=>by
      rcases h with h|h
      .rw[h] at hN1;cases hN1
      .exact h hN2)] at Cp
   clear hN;have afA:∀an cn a c s,cS s v st->bH s an ns.length 10 (ai ns)->(∀i∈iO v++aj an,i∉[cv a c []].flatMap It.a8)->Fl bh bw 120 [fK v st,.slice an ns.length cn,.agg ⟨[sv [47],cr]⟩,.slice a ([]:List a7).length c] s v an a c [] (walk st ns 146 ⟨[47],0⟩ []).1 (walk st ns 146 ⟨[47],0⟩ []).2:=λan cn a c s hr hn hm=>
    Qn st h ns nB v an cn 146 ⟨[47],0⟩ [] a c s ay ay ay hr hn hm
   have Kg:=Iw (n:=ns.length) (kind:=λi=>(ns.getD i bB).kind) (E:=λi=>bR st (ns.getD i bB)) 146 ⟨[47],0⟩ [];have YB:=Fm (n:=ns.length) (kind:=λi=>(ns.getD i bB).kind) (E:=λi=>bR st (ns.getD i bB)) 146 ⟨[47],0⟩ [];rw[show js ns.length (λi=>(ns.getD i bB).kind) (λi=>bR st (ns.getD i bB)) 146 ⟨[47],0⟩ []=walk st ns 146 ⟨[47],0⟩ [] from rfl] at Kg YB;rcases hw:walk st ns 146 ⟨[47],0⟩ [] with⟨out,ok⟩
   rw[hw] at afA Kg YB Cp;have hwk:∀an cn a c s,cS s v st->bH s an ns.length 10 (ai ns)->(∀i∈iO v++aj an,i∉[cv a c []].flatMap It.a8)->Fl bh bw 120 [fK v st,.slice an ns.length cn,.agg ⟨[sv [47],cr]⟩,.slice a ([]:List a7).length c] s v an a c [] out ok:=afA;clear afA hw;cases ok with
   |false=>
    have Cp:Y=none:=Cp;subst Cp;refine aT f78 ?_;(repeat' (first|refine' aW|refine' Rw|refine' Rx|refine' ac2|refine' av|fail));(all_goals try refine cj);all_goals exact Hm bG bu ar rfl rfl
   |true=>
    (have Cp:Y=if lG st out 0 ns then some out else none:=Cp);have Kg:=Kg rfl ay;have YB:=YB rfl;dsimp only at Kg YB;refine aT f78 ?_;(repeat' (first|refine' aW|refine' Rw|refine' Rx|refine' ac2|refine' av|fail));all_goals try refine cj
    refine W.bN (λk l L=>∃(i:Nat)(m:List Int)(am:aM)(cm b2:Nat),Le [(2,bg b2),(6,.slice jG ns.length jH),(7,.slice jR out.length jS),(9,.slice am m.length cm),(10,iv (i:Int))] l/\cC [.box b2 (se v st) 81 false,.aQ (.slice jG ns.length jH) 130 10 (ai ns),.aQ (.slice jR out.length jS) 39 2 (ai out),.aQ (.slice am m.length cm) 3 1 (ai m)] L/\k=out.length-i/\i<=out.length/\m.length=ns.length/\∀k,k<ns.length->m.getD k 0=lF (out.take i) k)
     (λl L=>∃(m:List Int)(am:aM)(cm b2:Nat),Le [(2,bg b2),(6,.slice jG ns.length jH),(7,.slice jR out.length jS),(9,.slice am m.length cm)] l/\cC [.box b2 (se v st) 81 false,.aQ (.slice jG ns.length jH) 130 10 (ai ns),.aQ (.slice jR out.length jS) 39 2 (ai out),.aQ (.slice am m.length cm) 3 1 (ai m)] L/\m.length=ns.length/\∀k,k<ns.length->m.getD k 0=lF out k) _ ⟨0,List.replicate ns.length 0,_,_,_,bj,ar,rfl,ag,ay,λk hk=>by simp[lF,aZ,hk]⟩ ?_ ?_
    .rintro k l L ⟨i,m,am,cm,b2,hl,hL,rfl,g1,g2,g3⟩;refine W.le ?_ hl hL;clear hl hL;by_cases hi:i<out.length
     .have hid:=Kg _ (aK hi ak.ah);have g4:m.getD (out.getD i ak.ah).id.toNat ak.ah=_:=g3 (out.getD i ak.ah).id.toNat ag;have g5:=Qo (out.take i) (out.getD i ak.ah).id.toNat;rw[cW] at g5;refine' cR
      (all_goals try refine cj);refine⟨_,ag,i+1,m.set (out.getD i ak.ah).id.toNat (m.getD (out.getD i ak.ah).id.toNat ak.ah+1),am,cm,b2,by(rw[gN];exact bj),by(rw[gN];exact ar),rfl,ag,by rw[gN];exact g2,λk hk=>?_⟩;rw[j9 ag,ajo hi,Kl,g4];by_cases hke:k=(out.getD i ak.ah).id.toNat
      .rw[if_pos hke,if_pos ag,<-hke]
      .rw[if_neg hke,if_neg ag,g3 k hk,Int.add_zero]
     .have fF:i=out.length:=by omega
      subst fF;rw[gY] at g3;refine' cR;(all_goals try refine cj);all_goals exact⟨m,_,_,_,bj,ar,g2,g3⟩
    .rintro l L ⟨m,am,cm,b2,hl,hL,g2,g3⟩;refine aq ?_;refine W.le ?_ hl hL;clear hl hL;refine' cR
     refine W.bN (λk l L=>∃(i:Nat)(m:List Int)(am:aM)(cm b2:Nat),Le [(2,bg b2),(6,.slice jG ns.length jH),(7,.slice jR out.length jS),(9,.slice am m.length cm),(11,iv (i:Int))] l/\cC [.box b2 (se v st) 81 false,.aQ (.slice jG ns.length jH) 130 10 (ai ns),.aQ (.slice jR out.length jS) 39 2 (ai out),.aQ (.slice am m.length cm) 3 1 (ai m)] L/\k=ns.length-i/\i<=ns.length/\m.length=ns.length/\(∀k,k<ns.length->m.getD k 0=lF out k)/\lG st out 0 ns=lG st out i (ns.drop i))
      (λl L=>Le [(7,.slice jR out.length jS)] l/\cC [.aQ (.slice jR out.length jS) 39 2 (ai out)] L/\lG st out 0 ns=true) _ ⟨0,m,_,_,_,bj,ar,rfl,ag,g2,g3,rfl⟩ ?_ ?_
     .rintro k l L ⟨i,m,am,cm,b2,hl,hL,rfl,g1,g2,g3,g4⟩;refine W.le ?_ hl hL;clear hl hL;by_cases hi:i<ns.length
      .rw[drop_cons hi,lG] at g4;have g5:m.getD i ak.ah=_:=g3 i hi;(repeat' (first|refine' aW|((with_reducible apply WO.mq);exact aC;(first|exact λs hr=>Nq s _ _ aL _ hr|exact λs hr=>Nq s _ _ aL ⟨_,_,_,⟨⟨_,_,_,_,_⟩,_,_⟩⟩ hr);exact eF;intros)|refine' av|fail))
       all_goals try refine cj
       all_goals first
        |(refine⟨_,ag,i+1,m,_,_,_,bj,ar,rfl,ag,g2,g3,?_⟩;rw[g4,<-g5];clear g5 g4 g3 Cp hN2 hhd;generalize ns.getD i ak.ah=n at *;generalize m.getD i ak.ah=mi at *;simp[*];done)
        |(have hz:lG st out 0 ns=false:=by(rw[g4,<-g5];clear g5 g4 g3 Cp hN2 hhd;generalize ns.getD i ak.ah=n at *;generalize m.getD i ak.ah=mi at *;simp[*];done)
          rw[hz,if_neg bJ] at Cp;subst Cp;exact Hm bG bu ar rfl rfl)
        |skip
       all_goals(contradiction;rfl)
      .have fF:i=ns.length:=by omega
       subst fF;rw[iI,lG] at g4;refine' cR;(all_goals try refine cj);all_goals exact⟨bj,ar,g4⟩
     .rintro l L ⟨hl,hL,g4⟩;refine aq ?_;refine W.le ?_ hl hL;clear hl hL;rw[g4,if_pos rfl] at Cp;subst Cp;refine' cR
      exact Hm bG bu ar rfl rfl
 .have hT:oJ st t=false:=by simpa using hT
  have hTf:(!oJ st t)=true:=by rw[hT];rfl
  rw[hT,if_pos bJ] at Cp;subst Cp;refine aT f78 ?_;repeat' (first|refine' aW|refine' Rw|refine' av|fail)
  all_goals try refine cj
  all_goals exact Hm bG bu ar rfl rfl
abbrev dK (a:aM)(c:Nat)(q:fg):It:=.aQ (.slice a q.length c) 61 3 (ai q)
theorem ab2 (st:au)(t:cB):∀n∈fC st t,ka n:=λn hn=>by
 unfold fC at hn;obtain⟨z,_,rfl⟩:=jK.1 hn;cases h:eR z with
 |none=>exact ka.no
 |some n=>exact ka.of (Pg.xY h).1
theorem Zi (s:St)(v:SA)(st:au)(h:dA 100000 st)(t:cB)(ht:ek t)(f:Flat)(hf:Jw st t=some f)(hr:cS s v st):BH 37 [fK v st,tv t] s [] (iO v) λR L=>∃a c a' c',R= .tuple ⟨[.agg ⟨ie a c f.ad a' c' f.ae⟩,.bool true]⟩/\L=[cv a c f.ad,dK a' c' f.ae]:=by
 have tZ:=Rd.EH hr;have uy:=Rd.off hr;have uC:=Rd.CM hr;have afB:∀s,cS s v st->jQ bh bw 78 [fK v st,tv t] s (iO v) 39 ((l5 st t).getD []) (l5 st t).isSome:=λs hr=>UD s v st h t ht hr
 have uG:∀s,cS s v st->eU bh bw 79 [fK v st,tv t] s (iO v) 130 (fC st t):=λs hr=>BV s v st h t ht hr
 have nB:(fC st t).length<=16:=by
  unfold fC;rw[td,(lq h ht).1];have:=ht.mn;omega
 have Cz:=ab2 st t;unfold Jw at hf;cases Cp:l5 st t with
 |none=>rw[Cp] at hf;cases hf
 |some all=>
  rw[Cp] at hf afB;cases hf
  have Qc:∀s,cS s v st->jQ bh bw 78 [fK v st,tv t] s (iO v) 39 all true:=afB;clear afB;generalize fC st t=ns at *
  refine aT f37 ?_;(repeat' (first|refine' aW|((with_reducible apply WO.tS);exact aC;exact λs hr=>Qc s hr;exact eF;intro _ _ wx wy _ _)|refine' Rx|refine' Pt|refine' av|fail));all_goals try refine cj
  refine W.bN (λk l L=>∃(i b2 b4 b8:Nat)(out:fg)(b:aM)(d:Nat),Le [(2,bg b2),(4,bg b4),(8,bg b8),(9,.slice jG ns.length jH),(10,iv (i:Int))] l/\cC [.box b2 (se v st) 81 false,.box b4 (ie none 0 [] none 0 []) 26 false,.box b8 (ie wx wy all b d out) 26 false,.aQ (.slice jG ns.length jH) 130 10 (ai ns),.aQ (.slice wx all.length wy) 39 2 (ai all),dK b d out] L/\k=ns.length-i/\i<=ns.length/\out.length<=i/\gR st 0 ns=out++gR st i (ns.drop i))
   (λl L=>∃(b4 b8:Nat)(b:aM)(d:Nat),Le [(4,bg b4),(8,bg b8)] l/\cC [.box b4 (ie none 0 [] none 0 []) 26 false,.box b8 (ie wx wy all b d (gR st 0 ns)) 26 false,.aQ (.slice wx all.length wy) 39 2 (ai all),dK b d (gR st 0 ns)] L) _ ⟨0,_,_,_,[],_,_,bj,ar,rfl,ag,ay,rfl⟩ ?_ ?_
  .rintro k l L ⟨i,b2,b4,b8,out,b,d,hl,hL,rfl,g1,g2,g3⟩;refine W.le ?_ hl hL;clear hl hL;dsimp only[dK];by_cases hi:i<ns.length
   .have Vl:=Cz _ (aK hi ak.ah);rw[drop_cons hi,gR] at g3;by_cases k2:(ns.getD i ak.ah).kind=2
    .rw[if_pos k2] at g3;repeat' (first|refine' aW|refine' zi|refine' zp|refine' av|fail)
     (all_goals try refine cj);refine⟨_,ag,i+1,b2,b4,b8,out++[⟨i,true,[]⟩],_,_,bj,ar,rfl,ag,by rw[bL];simp;omega,?_⟩;rw[g3];simp
    .rw[if_neg k2] at g3;by_cases k1:(ns.getD i ak.ah).kind=1
     .rw[if_pos k1] at g3;repeat' (first|refine' aW|refine' zi|refine' zp|refine' av|fail)
      (all_goals try refine cj);refine⟨_,ag,i+1,b2,b4,b8,out++[⟨i,false,bE st (ns.getD i ak.ah)⟩],_,_,bj,ar,rfl,ag,by rw[bL];simp;omega,?_⟩;rw[g3];simp
     .rw[if_neg k1] at g3;repeat' (first|refine' aW|refine' zi|refine' zp|refine' av|fail)
      (all_goals try refine cj);exact⟨_,ag,i+1,b2,b4,b8,out,_,_,bj,ar,rfl,ag,ag,by rw[g3];simp⟩
   .have fF:i=ns.length:=by omega
    subst fF;rw[iI,gR,gg] at g3;subst g3;refine' cR;(all_goals try refine cj);all_goals exact⟨_,_,_,_,bj,ar⟩
  .rintro l L ⟨b4,b8,b,d,hl,hL⟩;refine aq ?_;refine W.le ?_ hl hL;clear hl hL;dsimp only[dK];refine' cR
   exact⟨bG,_,_,bu,ar,_,_,_,_,rfl,rfl⟩
theorem aju (i:Nat):(List.replicate 64 (0:Int)).getD i ak.ah=0:=by rw[aZ,VG];split<;>rfl
theorem ajv (i:Nat):(List.replicate 64 ([]:az)).getD i ak.ah=[]:=by rw[aZ,VG];split<;>rfl
theorem NK (s:St)(v:SA)(same:Bool)(hr:cS s v (bW same)):bF 148 [.agg ⟨[.slice v.f 64 v.fc,.slice v.l 64 v.lc]⟩] s (iO v) (.bool true):=by
 have uy:=Rd.off hr;have uC:=Rd.CM hr;have e1:(bW same).bc=List.replicate 64 0:=rfl;have e2:(bW same).dw=List.replicate 64 0:=rfl;rw[e1] at uy;rw[e2] at uC;have hl:(List.replicate 64 (0:Int)).length=64:=by simp
 refine aT f148 ?_;refine' cR;all_goals try refine cj
 refine W.bN (λk l L=>∃(i b1:Nat),Le [(1,bg b1),(3,iv (i:Int))] l/\cC [.box b1 [.slice v.f 64 v.fc,.slice v.l 64 v.lc] 78 false] L/\k=64-i/\i<=64) (λl L=>True) _ ⟨0,_,bj,ar,rfl,ag⟩ ?_ ?_
 .rintro k l L ⟨i,b1,qu,hL,rfl,h1⟩;refine W.le ?_ qu hL;clear qu hL;have z1:=aju i;generalize List.replicate 64 (0:Int)=q at *
  have p1:(!fV (q.getD i ak.ah) 0 900)=false:=by rw[z1];rfl
  have p2:(!fV (q.getD i ak.ah) 0 (q.getD i ak.ah))=false:=by rw[z1];rfl
  repeat' (first|refine' aW|refine' Ow|refine' zc3|refine' av|fail)
  all_goals try refine cj
  all_goals first|trivial|exact⟨_,ag,i+1,_,bj,ar,rfl,ag⟩
 .rintro l L _;refine aq ?_;refine W.le ?_ (Le.nil _) (cC.nil _);refine' cR
  refine' ax;rfl
theorem NL (s:St)(v:SA)(same:Bool)(hr:cS s v (bW same)):bF 109 [fK v (bW same)] s (iO v) (.bool true):=by
 have tZ:=Rd.EH hr;have uy:=Rd.off hr;have uC:=Rd.CM hr;have e0:(bW same).ez=List.replicate 64 []:=rfl;have e1:(bW same).bc=List.replicate 64 0:=rfl;have e2:(bW same).dw=List.replicate 64 0:=rfl;have e3:(bW same).fJ=1:=rfl;have e4:(bW same).oV=0:=rfl;have e5:(bW same).cP=[]:=rfl;have e6:(bW same).eu=[]:=rfl;rw[e0] at tZ;rw[e1] at uy;rw[e2] at uC;unfold fK se;rw[e3,e4,e5,e6];have hl:(List.replicate 64 (0:Int)).length=64:=by simp
 have Lh:(List.replicate 64 ([]:az)).length=64:=by simp
 have p0:(!fV 1 1 900)=false:=rfl;have p3:(!fV 0 0 (1-1))=false:=rfl;have M1:∀s,cS s v (bW same)->bF 148 [.agg ⟨[.slice v.f 64 v.fc,.slice v.l 64 v.lc]⟩] s (iO v) (.bool true):=λs hr=>NK s v same hr
 refine aT f109 ?_;(repeat' (first|refine' aW|((with_reducible apply WO.mq);exact aC;exact λs hr=>M1 s hr;exact eF;intros)|refine' Ow|refine' av|fail));all_goals try refine cj
 refine W.bN (λk l L=>∃(i b1:Nat),Le [(1,bg b1),(3,iv (i:Int))] l/\cC [.box b1 [.slice v.r 64 v.rc,.slice v.f 64 v.fc,.slice v.l 64 v.lc,iv 1,.slice v.g ([]:dg).length v.gc,iv 0,.slice v.d ([]:dg).length v.dc,.bool same] 81 false] L/\k=64-i/\i<=64)
  (λl L=>∃(b1:Nat),Le [(1,bg b1)] l/\cC [.box b1 [.slice v.r 64 v.rc,.slice v.f 64 v.fc,.slice v.l 64 v.lc,iv 1,.slice v.g ([]:dg).length v.gc,iv 0,.slice v.d ([]:dg).length v.dc,.bool same] 81 false] L) _ ⟨0,_,bj,ar,rfl,ag⟩ ?_ ?_
 .rintro k l L ⟨i,b1,qu,hL,rfl,h1⟩;refine W.le ?_ qu hL;clear qu hL;have z1:=aju i;have z2:=ajv i;have z3:((List.replicate 64 ([]:az)).getD i ak.ah).length=0:=by rw[z2];rfl
  generalize List.replicate 64 (0:Int)=q at *
  generalize List.replicate 64 ([]:az)=qs at *
  have p1:(decide (qs.getD i ak.ah=[]) != decide (q.getD i ak.ah=0))=false:=by rw[z1,z2];rfl
  refine' cR;all_goals try refine cj
  .exact⟨_,ag,i+1,_,bj,ar,rfl,ag⟩
  .exact⟨_,bj,ar⟩
 .rintro l L ⟨b1,qu,hL⟩;refine aq ?_;refine W.le ?_ qu hL;clear qu hL;refine' cR
  refine W.bN (λk l L=>∃(b1:Nat),Le [(1,bg b1),(5,cr)] l/\cC [.box b1 [.slice v.r 64 v.rc,.slice v.f 64 v.fc,.slice v.l 64 v.lc,iv 1,.slice v.g ([]:dg).length v.gc,iv 0,.slice v.d ([]:dg).length v.dc,.bool same] 81 false] L/\k=0)
   (λl L=>True) _ ⟨_,bj,ar,rfl⟩ ?_ ?_
  .rintro k l L ⟨b1,qu,hL,rfl⟩;refine W.le ?_ qu hL;clear qu hL;have yw:(([]:dg).length:Int)=0:=rfl;refine' cR
   (all_goals try refine cj);all_goals trivial
  .rintro l L _;refine aq ?_;refine W.le ?_ (Le.nil _) (cC.nil _);refine' cR
   refine' ax;rfl
theorem UG {n:Nat}{st:au}{t:cB}{q:Nat}(h:dA n st)(hn:n<=90000)(ht:ek t)(hq:q<16){o:dg}(ho:qw 200 st [((jr st t q).getD bB).aX.cI] []=some o)(Li:o.length<=1000)(mG:∀p∈o,bC p=true):dA (n+1100) (eb st t q).1/\ek (eb st t q).2.1:=by
 have KD:xI st ((jr st t q).getD bB).aX=o:=by unfold xI;rw[ho];rfl
 have hD:=Np h ag ht q;have h1:=dA.dI (st:=st) o h mG;have bV:=nq (k:=q) (z:=[]) h1 ht hq ay;unfold eb;simp only[KD,uK];rcases hp:nH (dI o st) t q [] with⟨eN,t2,ok⟩
 rw[hp] at bV;cases ok with
 |false=>exact⟨bV.1.mono ag,bV.2.1⟩
 |true=>
  have:=zS (many:=(rz st t q:Nat)) bV.1 bV.2.1 ag;exact⟨this.1.mono ag,this.2.1⟩
end Go.Pl
