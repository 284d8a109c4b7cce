/- Lemmas of the proof. No conditions. -/
import Derived.Test.YtjaeddbblleomaaGreatDoorAd11
set_option maxRecDepth 100000
set_option maxHeartbeats 4000000
set_option linter.unusedVariables false
set_option linter.unusedSimpArgs false
open Go.Proofs.Tryz
namespace Go
theorem zaa{P:Prop}(h:P:=by
 refine W.mB rfl rfl ?_;have oK:=fX.n hr;have qJ:=fX.t hr;have qM:=hf.tl;have nf:=hf.nl;have hx:=(hf.nm _ (aF hi c9.lW)).1;have BA:=hx.1;have lT:=fY (f.ad.getD i c9.lW).ag;have OM:∀ch∈(au (f.ad.getD i c9.lW).ag).2,ch.toNat<128:=λch dR=>hx.2.1 ch (fW _ ch dR)
 have Br:=sy f.ad i (au (f.ad.getD i c9.lW).ag).1;have Bs:=sA f.ad i (f.ad.getD i c9.lW).id;rw[<-g2.jo] at Br;rw[<-g2.li] at Bs;have QO:((i:Int)-1).toNat=i-1:=by omega
 have Ej:=lC ht;have kh:∀s b,iB s b a c f.ad a' c' f.ae->bO 28 [aP b,iv (f.ad.getD i c9.lW).id] s (qz b a a') (da a' t 3 0):=λs b hr=>by
  have:=fU s b a c f.ad a' c' f.ae hs af (f.ad.getD i c9.lW).id hr;rw[ht] at this;exact this
 all_goals(rcases(_:_) with h;exact h)):P:=h
theorem zad{P:Prop}(h:P:=by
 all_goals try refine cI
 all_goals(refine qv (v':=v) bB bj aq ?_ (λhc=>(by cases hc));rfl)
 all_goals(rcases(_:_) with h;exact h)):P:=h
theorem zae{P:Prop}(h:P:=by
 rw[uB] at hB;(repeat' (first|refine' aX|refine' M1|refine' Wl|refine' ar|fail))
 all_goals try refine cI
 all_goals first
  |(refine⟨_,af,i+1,_,bd,aq,rfl,af,λj hj=>?_⟩;rcases JO.1 hj with h|h;exact g2 j h;subst h;rw[hB];clear q8 Jd g2 hf hr oK qJ hB hx h3 RW h2;generalize f.ae.getD j c9.lW=x at *;(try simp only[show((j:Int)-1).toNat=j-1 by omega] at *);generalize f.ae.getD (j-1) c9.lW=y at *;simp[*]<;>(intros;first|omega|(exfalso;omega));done)
  |(have hz:f.kn=false:=Jd (by(rw[hB];clear q8 Jd g2 hf hr oK qJ hB hx h3 RW h2;generalize f.ae.getD i c9.lW=x at *;(try simp only[show((i:Int)-1).toNat=i-1 by omega] at *);generalize f.ae.getD (i-1) c9.lW=y at *;simp[*]<;>(intros;first|omega|(exfalso;omega)|(exfalso;have hq:x.bh.length=0:=(by have h5:x.bh=[]:=(by assumption);rw[h5];rfl);omega));done))
    rw[hz];(refine' av);rfl)
 all_goals(rcases(_:_) with h;exact h)):P:=h
theorem zap{P:Prop}(h:P:=by
 have BR:=gC (f.ad.getD ((i:Int)-1).toNat c9.lW).ag (f.ad.getD i c9.lW).ag;clear hr hf hs g2;(refine' sb)
 all_goals try refine M0
 all_goals(rcases(_:_) with h;exact h)):P:=h
theorem zar{P:Prop}(h:P:=by
 have e:iJ o=(let two:=decide (o.kind=6)||decide (o.kind=7)
   let at2:=decide (o.kind=3)||decide (o.kind=4)
   if !fR o.kind 1 7||!bf o.ag||(two&&!bf o.to)||(!two&&decide (o.to≠[])) then false
   else if(decide (o.kind≠3)&&decide (o.bh≠[]))||decide (24<o.bh.length) then false
   else decide (o.at_=0)||(at2&&fR o.at_ 0 192)):=rfl
 all_goals(rcases(_:_) with h;exact h)):P:=h
theorem zas{P:Prop}(h:P:=by
 have nG:∀dI a c s,bM s a vY.length 2 (ah vY)->(∀j∈ai a,j∉(j5 b dI f1).flatMap It.aS)->AJ 139 [aP b,iv at_,.slice a vY.length c] s (j5 b dI f1) (ai a) λR L=>∃v':SA,R= .tuple ⟨[]⟩/\L=j5 b v' (Fs.aZ f1 at_ vY):=λdI a c s hr hm=>
  nT s b dI f1 (BB.mono af) at_ n4 a c vY af lT.2 hr hm
 generalize Fs.aZ f1 at_ vY=f2 at *
 all_goals(rcases(_:_) with h;exact h)):P:=h
theorem zat{P:Prop}(h:P:=by
 obtain⟨⟨eI,t2,cK⟩,code⟩:=r;simp only at iK mg;by_cases MD:code=0
 all_goals(rcases(_:_) with h;exact h)):P:=h
theorem zax{P:Prop}(h:P:=by
 all_goals try refine cI
 all_goals refine mw (v':=v) bB bj aq rfl
 all_goals(rcases(_:_) with h;exact h)):P:=h
theorem zaC{P:Prop}(h:P:=by
 all_goals try refine cI
 all_goals refine mw (v':=jc) bB bj aq rfl
 all_goals(rcases(_:_) with h;exact h)):P:=h
theorem zaH{P:Prop}(h:P:=by
 obtain⟨l1,q1,xA⟩:=Ea (e:=en) M4 hid TR Kl;have e4':gI G id (some en) at_=some e:=by rw[fM _ _ n4];exact e4
 have jq:=dU e4;have sP:bz e.es=true:=by have:=po hG.wf at_;rwa [jq] at this
 all_goals(rcases(_:_) with h;exact h)):P:=h
theorem zaJ{P:Prop}(h:P:=by
 have iK:eS st t o=(eI,t2,0):=iK;rw[iK];refine aO f56 ?_;dsimp only[eM];(refine' GI)
 all_goals try refine cI
 all_goals(refine qv (v':=wa) bB bj aq ?_ (λhc=>(by cases hc));rfl)
 all_goals(rcases(_:_) with h;exact h)):P:=h
theorem zaS{P:Prop}(h:P:=by
 simp only;generalize Fs.put ⟨eI,t,!ok⟩ k n2=f2 at *
 have ha2:0<=o.at_/\o.at_<=192:=by omega
 have h32:¬192<o.at_+(o.bh.length:Int):=by omega
 all_goals(rcases(_:_) with h;exact h)):P:=h
theorem zaW{P:Prop}(h:P:=by
 have hd:s9 ⟨s,([]:bn).flatMap It.aS,ai a⟩ a code:=s9.of hr λ_ hb=>hb
 all_goals(rcases(_:_) with h;exact h)):P:=h
theorem za0{P:Prop}(h:P:=by
 intro o hb ho;rw[vF] at hb⊢;simp only[if_true] at hb⊢;rcases hw:iZ n kind E f ⟨dS x.ag e.name,e.id⟩ o with⟨o2,b2⟩
 all_goals(rcases(_:_) with h;exact h)):P:=h
theorem za4{P:Prop}(h:P:=by
 all_goals try refine cI
 exact⟨_,af,i+1,o2,ok2,_,_,_,_,bd,aq,rfl,af,λhh=>by have:=tF hh;dsimp only at this;omega,g3⟩
 all_goals(rcases(_:_) with h;exact h)):P:=h
theorem za5{P:Prop}(h:P:=by
 have:=lu s b v ⟨st,t,false⟩ tP ht at_ af hr;rwa [jq] at this
 all_goals(rcases(_:_) with h;exact h)):P:=h
theorem za6{P:Prop}(h:P:=by
 have n4:at_≠k:=λhc=>by
  have:Pg.bF G at_=[]:=by rw[hc];exact H5
  rw[Pg.dU p3] at this;rw[this] at p6;simp at p6
 all_goals(rcases(_:_) with h;exact h)):P:=h
theorem za7{P:Prop}(h:P:=by
 obtain⟨R,hR⟩:=h.I9 he;obtain⟨ln,qn,hq,hh⟩:=((h.at_ k).some he).2;rw[hq] at hR;rcases hh with⟨_,hh⟩|hh
 all_goals(rcases(_:_) with h;exact h)):P:=h
theorem zbc{P:Prop}(h:P:=by
 have hzz:(hZ ((a:Int)-((bA st n).length:Int))).length=a-(bA st n).length:=by unfold hZ;rw[rC];omega
 all_goals(rcases(_:_) with h;exact h)):P:=h
theorem zbd{P:Prop}(h:P:=by
 have RF:Rd ⟨s,([]:bn).flatMap It.aS,ai a++ai a'⟩ a' q.length 3 (ah q):=Rd.of h2 λ_ hb=>dH _ hb
 all_goals(rcases(_:_) with h;exact h)):P:=h
end Go
namespace Go.Pg
open Go.Pl
variable {l:List aT}{x e:aT}{s:ay}{i j:Nat}{st:ak}{t:bX}{G:Gr}{q:cV}
theorem yZ:∀s:ay,bK s s=false
 |[]=>rfl
 |a::s=>by unfold bK;rw[if_neg af,if_neg af];exact yZ s
theorem eU:∀{a b c:ay},bK a b=true->bK b c=true->bK a c=true
 |[],[],_,h,_=>by cases h
 |[],_::_,[],_,h=>by cases h
 |[],_::_,_::_,_,_=>rfl
 |_::_,[],_,h,_=>by cases h
 |_::_,_::_,[],_,h=>by cases h
 |x::a,y::b,z::c,h,k=>by
  unfold bK at h k⊢;split at h
  .split at k
   .rw[if_pos af]
   .split at k
    .cases k
    .rw[if_pos af]
  .split at h
   .cases h
   .split at k
    .rw[if_pos af]
    .split at k
     .cases k
     .rw[if_neg af,if_neg af];exact eU h k
theorem lp:∀{a b:ay},bK a b=false->a≠b->bK b a=true
 |[],[],_,h=>absurd rfl h
 |[],_::_,h,_=>by cases h
 |_::_,[],_,_=>rfl
 |x::a,y::b,h,hn=>by
  unfold bK at h⊢;split at h
  .cases h
  .split at h
   .rename_i h2;rw[if_pos h2]
   .rename_i h1 h2;have T4:x=y:=wu.1 af;subst T4;rw[if_neg af,if_neg af];exact lp h (λe=>hn (by rw[e]))
def Asc (l:List aT):Prop:=l.Pairwise λa b=>bK a.name b.name=true
theorem sq:∀l:List aT,mr l=true↔Asc l
 |[]=>by simp[mr,Asc]
 |[a]=>by simp[mr,Asc]
 |a::b::l=>by
  have ih:=sq (b::l);rw[mr,cv,ih];unfold Asc;rw[jK (a:=a)];constructor
  .rintro⟨h1,h2⟩;refine⟨λx hx=>?_,h2⟩;rcases bV.1 hx with rfl|hx
   .exact h1
   .exact eU h1 ((jK.1 h2).1 x hx)
  .rintro⟨h1,h2⟩;exact⟨h1 b (by simp),h2⟩
theorem Xz (h:Asc l)(hx:x∈l):l.find? (λy=>decide (y.name=x.name))=some x:=by
 induction l with
 |nil=>cases hx
 |cons a l ih=>
  rw[List.find?_cons];have hp:=jK.1 h;rcases bV.1 hx with rfl|hx
  .simp
  .have dA:=hp.1 x hx;have gx:a.name≠x.name:=λe=>by rw[e,yZ] at dA;cases dA
   simp only[gx,decide_false];exact ih hp.2 hx
theorem mZ:x∈gu l e↔x=e\/x∈l:=by
 induction l with
 |nil=>simp[gu]
 |cons a l ih=>
  unfold gu;split
  .simp
  .simp[ih];constructor<;>(rintro(h|h|h)<;>simp[h])
theorem Mf (l:List aT)(e:aT):(gu l e).length=l.length+1:=by
 induction l with
 |nil=>rfl
 |cons a l ih=>unfold gu;split<;>simp[ih]
theorem XA (h:Asc l)(hn:∀x∈l,x.name≠e.name):Asc (gu l e):=by
 induction l with
 |nil=>simp[gu,Asc]
 |cons a l ih=>
  have hp:=jK.1 h;unfold gu;split
  .rename_i dA;refine jK.2 ⟨λx hx=>?_,h⟩;rcases bV.1 hx with rfl|hx
   .exact dA
   .exact eU dA (hp.1 x hx)
  .rename_i dA;refine jK.2 ⟨λx hx=>?_,ih hp.2 (λx hx=>hn x (by simp[hx]))⟩;rcases mZ.1 hx with rfl|hx
   .exact lp (by simpa using dA) (λe=>hn a (by simp) e.symm)
   .exact hp.1 x hx
theorem S6 (h:l.find? (λy=>decide (y.name=s))=none):∀x∈l,x.name≠s:=by
 intro x hx;have:=List.find?_eq_none.1 h x hx;simpa using this
theorem BV (h:bz l=true)(hn:∀x∈l,x.name≠e.name)(he:bT e.name=true)(hi:1<=e.id/\e.id<=15)(hl:l.length<12):bz (gu l e)=true:=by
 obtain⟨h1,h2,h3⟩:=gV h;unfold bz;rw[cv,cv,iM,sq,cl,Mf];refine⟨⟨λx hx=>?_,XA ((sq l).1 h2) hn⟩,af⟩;rcases mZ.1 hx with rfl|hx
 .simp[he,fR,hi]
 .have:=h1 x hx;simp[this.1,fR,this.2]
theorem I2 {l l':List aT}(h:bz l=true)(hs:l'.Sublist l):bz l'=true:=by
 obtain⟨h1,h2,h3⟩:=gV h;have:=hs.length_le;unfold bz;rw[cv,cv,iM,sq,cl];refine⟨⟨λx hx=>?_,((sq l).1 h2).sublist hs⟩,af⟩;have:=h1 x (hs.subset hx);simp[this.1,fR,this.2]
theorem jf (l:List aT)(i:Nat):(er l i).Sublist l:=by
 unfold er
 conv=>rhs;rw[<-zq i l]
 refine JF (Fu _) ?_;rw[<-lZ];exact List.drop_sublist _ _
def cE (j:Nat)(l:List aT):Nat:=l.countP λx=>decide (x.id.toNat=j)
theorem I3 (j:Nat)(l:List aT)(e:aT):cE j (gu l e)=cE j l+if e.id.toNat=j then 1 else 0:=by
 unfold cE;induction l with
 |nil=>simp[gu,jI]
 |cons a l ih=>
  unfold gu;split
  .simp[jI]
  .rw[jI,ih,jI];omega
theorem Mg (h:i<l.length):l=l.take i++l.getD i ⟨[],0⟩::l.drop (i+1):=by
 have:l.getD i ⟨[],0⟩=l[i]:=by rw[aY,bk h];rfl
 rw[this];simp
theorem I4 (j:Nat)(h:i<l.length):cE j (er l i)+(if(l.getD i ⟨[],0⟩).id.toNat=j then 1 else 0)=cE j l:=by
 conv=>rhs;rw[Mg h]
 unfold cE er;rw[FG,FG,jI];simp;omega
theorem y5 (l:List aT)(s:ay):(ey l s).map (λk=>l.getD k ⟨[],0⟩)=l.find? (λy=>decide (y.name=s)):=by
 unfold ey;induction l with
 |nil=>rfl
 |cons a l ih=>
  rw[Pw,List.find?_cons];by_cases h:a.name=s
  .simp[h]
  .simp only[h,decide_false,Option.map_map];rw[<-ih];cases List.findIdx? (λe=>decide (e.name=s)) l<;>simp
theorem OL {k:Nat}(h:ey l s=some k):k<l.length:=by
 unfold ey at h;rw[nq] at h;exact h.1
def bF (G:Gr)(k:Nat):List aT:=match G k with
 |none=>[]
 |some e=>e.es
def iq (G:Gr)(j:Nat):Nat:=((List.range 16).map λk=>cE j (bF G k)).sum
def T5 (e:Option NE):List aT:=match e with
 |none=>[]
 |some e=>e.es
theorem gm (G:Gr)(id:Nat)(e:Option NE)(k:Nat):bF (gI G id e) k=if k=id then T5 e else bF G k:=by
 unfold bF gI T5;by_cases h:k=id
 .simp only[if_pos h]
 .simp only[if_neg h]
theorem QA (f g:Nat->Nat)(id:Nat)(h:∀k,k≠id->f k=g k):∀n:Nat,((List.range n).map f).sum+(if id<n then g id else 0)=((List.range n).map g).sum+if id<n then f id else 0
 |0=>by simp
 |n+1=>by
  have ih:=QA f g id h n;rw[As,Jw,Jw,JM,JM];simp only[xC,FA,Ca,List.sum_nil];by_cases hn:n=id
  .subst hn;rw[if_neg af,if_neg af] at ih;rw[if_pos af,if_pos af];omega
  .rw[h n hn];by_cases h2:id<n
   .rw[if_pos h2,if_pos h2] at ih;rw[if_pos af,if_pos af];omega
   .rw[if_neg h2,if_neg h2] at ih;rw[if_neg af,if_neg af];omega
theorem mm (G:Gr){id:Nat}(hid:id<16)(e:Option NE)(j:Nat):iq (gI G id e) j+cE j (bF G id)=iq G j+cE j (T5 e):=by
 have:=QA (λk=>cE j (bF (gI G id e) k)) (λk=>cE j (bF G k)) id (λk hk=>by show cE j _=cE j _;rw[gm,if_neg hk]) 16;rw[if_pos hid,if_pos hid] at this;unfold iq;simp only[gm,if_pos] at this⊢;exact this
theorem D9 (f:Nat->Nat){k:Nat}:∀{n:Nat},k<n->f k<=((List.range n).map f).sum
 |0,h=>by omega
 |n+1,h=>by
  rw[As,Jw,JM];simp only[xC,FA,Ca,List.sum_nil];by_cases hk:k=n
  .subst hk;omega
  .have:=D9 f (k:=k) (n:=n) af;omega
theorem QB (f:Nat->Nat){k j:Nat}(Ry:k≠j):∀{n:Nat},k<n->j<n->f k+f j<=((List.range n).map f).sum
 |0,h,_=>by omega
 |n+1,h,h'=>by
  rw[As,Jw,JM];simp only[xC,FA,Ca,List.sum_nil];by_cases hk:k=n
  .have:=D9 f (k:=j) (n:=n) af;subst hk;omega
  .by_cases hj:j=n
   .have:=D9 f (k:=k) (n:=n) af;subst hj;omega
   .have:=QB f Ry (n:=n) af af;omega
def WfN (e:NE):Prop:=(e.n.kind=1/\e.es=[]/\1<=e.n.bE/\e.n.bE<=9)\/(e.n.kind=2/\bz e.es=true/\e.n.bE=1)
structure Gd (G:Gr):Prop where
 wf:∀k e,G k=some e->WfN e
 hi:∀k,16<=k->G k=none
 cC:∃e,G 0=some e/\e.n.kind=2
 ids:∀k,∀x∈bF G k,∃e,G x.id.toNat=some e
 lk:∀j e,j≠0->G j=some e->((iq G j:Nat):Int)=e.n.bE
 ac:∃d:Nat->Nat,∀k,∀x∈bF G k,d k<d x.id.toNat
theorem Jv.wf {e:NE}(h:Jv st e):WfN e:=by
 obtain⟨l,q,_,⟨h0,h⟩|h⟩:=h
 .exact .inl ⟨h.kd,h0,h.lk⟩
 .exact .inr ⟨h.kd,h.eo,h.lk⟩
theorem qY.wf {l q:cV}(h:qY st t G l q):∀k e,G k=some e->WfN e:=λk e he=>((h.at_ k).some he).2.wf
theorem po (h:∀k e,G k=some e->WfN e)(k:Nat):bz (bF G k)=true:=by
 unfold bF;cases hg:G k with
 |none=>rfl
 |some e=>
  rcases h k e hg with⟨_,h,_⟩|⟨_,h,_⟩
  .simp only;rw[h];rfl
  .exact h
theorem vx (h:∀k e,G k=some e->WfN e){k:Nat}(hx:x∈bF G k):1<=x.id/\x.id<=15/\bT x.name=true:=by
 have:=(gV (po h k)).1 x hx;exact⟨this.2.1,this.2.2,this.1⟩
theorem BW (hi:∀k,16<=k->G k=none){k:Nat}(hx:x∈bF G k):k<16:=by
 by_cases h:k<16
 .exact h
 .unfold bF at hx;rw[hi k af] at hx;cases hx
theorem mo {k:Nat}{es:List aT}(h:mX (G k)=some es):bF G k=es/\∃e,G k=some e/\e.n.kind=2/\e.es=es:=by
 unfold mX at h;unfold bF;cases hg:G k with
 |none=>rw[hg] at h;cases h
 |some e=>
  rw[hg] at h;simp only at h;split at h
  .rename_i hk;cases h;exact⟨rfl,e,rfl,hk,rfl⟩
  .cases h
theorem xh {k:Nat}{e:NE}(h:G k=some e)(hk:e.n.kind=2):mX (G k)=some e.es:=by
 unfold mX;rw[h];simp only;rw[if_pos hk]
theorem xi (h:∀k e,G k=some e->WfN e){k:Nat}(hx:x∈bF G k):mX (G k)=some (bF G k):=by
 unfold bF at hx⊢;cases hg:G k with
 |none=>rw[hg] at hx;cases hx
 |some e=>
  rw[hg] at hx;rcases h k e hg with⟨_,h,_⟩|⟨hk,_,_⟩
  .simp only at hx;rw[h] at hx;cases hx
  .unfold mX;simp only;rw[if_pos hk]
def look (G:Gr):List ay->Nat->Option Nat
 |[],k=>some k
 |s::l,k=>match mX (G k) with
  |none=>none
  |some es=>match es.find? (λx=>decide (x.name=s)) with
   |none=>none
   |some x=>look G l x.id.toNat
theorem oF (G:Gr):∀(l r:List ay)(k:Nat),look G (l++r) k=match look G l k with
  |none=>none
  |some j=>look G r j
 |[],r,k=>rfl
 |s::l,r,k=>by
  rw[xB,look,look];cases mX (G k) with
  |none=>rfl
  |some es=>
   simp only;cases es.find? (λx=>decide (x.name=s)) with
   |none=>rfl
   |some x=>exact oF G l r x.id.toNat
theorem uT {k j:Nat}(h:look G [s] k=some j):∃x∈bF G k,x.name=s/\x.id.toNat=j/\mX (G k)=some (bF G k)/\(bF G k).find? (λx=>decide (x.name=s))=some x:=by
 rw[look] at h;cases he:mX (G k) with
 |none=>rw[he] at h;cases h
 |some es=>
  rw[he] at h;simp only at h;have h1:=(mo he).1;cases hf:es.find? (λx=>decide (x.name=s)) with
  |none=>rw[hf] at h;cases h
  |some x=>
   rw[hf] at h;simp only[look] at h;cases h
   rw[h1];exact⟨x,List.mem_of_find?_eq_some hf,by simpa using List.find?_some hf,rfl,rfl,hf⟩
theorem S7 (h:∀k e,G k=some e->WfN e){k:Nat}(hx:x∈bF G k):look G [x.name] k=some x.id.toNat:=by
 rw[look,xi h hx];simp only;rw[Xz ((sq _).1 (gV (po h k)).2.1) hx];rfl
theorem Hl {l q:cV}(h:qY st t G l q)(cK:Bool)(k:Nat):bJ st (Fs.node ⟨st,t,cK⟩ k)=mX (G k):=h.bJ k
theorem xj {l q:cV}(h:qY st t G l q)(cK:Bool)(ad:List ay):∀(k:Nat),Fs.Gm ⟨st,t,cK⟩ ad k=match look G ad k with
  |none=>-1
  |some j=>(j:Int):=by
 induction ad with
 |nil=>intro k;rfl
 |cons s ad ih=>
  intro k;have he:=Hl h cK k;unfold Fs.Gm at ih⊢;rw[ou,look];simp only;rw[he];cases sP:mX (G k) with
  |none=>rfl
  |some es=>
   simp only;have h1:=y5 es s;cases ha:ey es s with
   |none=>rw[ha] at h1;rw[<-h1];rfl
   |some i=>
    rw[ha] at h1;simp only[vE] at h1;rw[<-h1];simp only;have hm:es.getD i ⟨[],0⟩∈bF G k:=by
     rw[(mo sP).1];exact List.mem_of_find?_eq_some h1.symm
    have hid:=vx h.wf hm;have:=ih (es.getD i ⟨[],0⟩).id.toNat;rw[xG af] at this;exact this
theorem tt {d:Nat->Nat}(hd:∀k,∀x∈bF G k,d k<d x.id.toNat):∀(l:List ay)(k j:Nat),look G l k=some j->d k+l.length<=d j
 |[],k,j,h=>by cases h;simp
 |s::l,k,j,h=>by
  have h':look G ([s]++l) k=some j:=h;rw[oF] at h';cases h1:look G [s] k with
  |none=>rw[h1] at h';cases h'
  |some m=>
   rw[h1] at h';simp only at h';obtain⟨x,hx,_,rfl,_⟩:=uT h1;have:=hd k x hx;have:=tt hd l _ _ h';rw[dh];omega
theorem xk {α:Type}(l:List α):l=[]\/∃a x,l=a++[x]:=by
 rcases List.eq_nil_or_concat l with h|⟨a,x,h⟩
 .exact .inl h
 .exact .inr ⟨a,x,by rw[h,List.concat_eq_append]⟩
theorem cE_one (h:cE j l<=1){x y:aT}(hx:x∈l)(hy:y∈l)(hxj:x.id.toNat=j)(hyj:y.id.toNat=j):x=y:=by
 unfold cE at h;rw[List.countP_eq_length_filter] at h;have h1:x∈l.filter λx=>decide (x.id.toNat=j):=vR.2 ⟨hx,by simpa using hxj⟩
 have h2:y∈l.filter λx=>decide (x.id.toNat=j):=vR.2 ⟨hy,by simpa using hyj⟩
 generalize l.filter (λx=>decide (x.id.toNat=j))=w at h h1 h2
 match w,h with
 |[],_=>cases h1
 |[a],_=>simp at h1 h2;rw[h1,h2]
theorem Hm (h:Gd G):∀(n:Nat)(p p':List ay)(k:Nat)(e:NE),p.length<=n->look G p 0=some k->look G p' 0=some k->G k=some e->e.n.kind=2->p=p'
 |0,p,p',k,e,hn,h1,h2,h3,h4=>by
  have:p=[]:=mG af;subst this;cases h1
  obtain⟨d,hd⟩:=h.ac;have:=tt hd p' 0 0 h2;exact(mG af).symm
 |n+1,p,p',k,e,hn,h1,h2,h3,h4=>by
  obtain⟨d,hd⟩:=h.ac;rcases xk p with rfl|⟨a,s,rfl⟩
  .cases h1
   have:=tt hd p' 0 0 h2;exact(mG af).symm
  .rcases xk p' with rfl|⟨a',s',rfl⟩
   .cases h2
    have:=tt hd _ 0 0 h1;rw[bR,Au] at this;omega
   .rw[oF] at h1 h2;cases e1:look G a 0 with
    |none=>rw[e1] at h1;cases h1
    |some m=>
     cases e2:look G a' 0 with
     |none=>rw[e2] at h2;cases h2
     |some m'=>
      rw[e1] at h1;rw[e2] at h2;simp only at h1 h2;obtain⟨x,hx,Rh,hxk,hxe,_⟩:=uT h1;obtain⟨y,hy,hys,hyk,_⟩:=uT h2;have UJ:k≠0:=by have:=vx h.wf hx;omega
      have hl:=h.lk k e UJ h3;rcases h.wf k e h3 with⟨hw,_⟩|⟨_,_,hw⟩
      .omega
      .rw[hw] at hl;have hl:iq G k=1:=by omega
       have hm:=BW h.hi hx;have hm':=BW h.hi hy;have c1:1<=cE k (bF G m):=JN.2 ⟨x,hx,by simpa using hxk⟩;have c2:1<=cE k (bF G m'):=JN.2 ⟨y,hy,by simpa using hyk⟩;have hmm:m=m':=by
        by_cases hc:m=m'
        .exact hc
        .exfalso;have:=QB (λi=>cE k (bF G i)) hc hm hm';unfold iq at hl;omega
       subst hmm;have hone:cE k (bF G m)<=1:=by
        have:=D9 (λi=>cE k (bF G i)) hm;unfold iq at hl;omega
       have T4:=cE_one hone hx hy hxk hyk;subst T4;obtain⟨em,hem1,hem2,_⟩:=(mo hxe).2;have:=Hm h n a a' m em (by rw[bR,Au] at hn;omega) e1 e2 hem1 hem2;rw[this,<-Rh,<-hys]
end Go.Pg
namespace Go.Pg
open Go.Pl
variable {f:Fs}{id at_ k:Nat}{n:Nde}{st:ak}{t:bX}{G:Gr}{l q:cV}{ag:ay}{cK:Bool}
def FS (st:ak)(t:bX):Prop:=∃G l q,qY st t G l q/\Gd G
theorem y6 {id:Int}(h:(f.put id n).cK=false):f.cK=false:=by
 unfold Fs.put at h;by_cases hf:f.cK=true
 .rw[if_pos hf] at h;rw[h]
 .simpa using hf
theorem put_run (h:(f.put id n).cK=false):pc f.st f.t id n=((f.put id n).st,(f.put id n).t,true):=by
 have hf:=y6 h;unfold Fs.put at h⊢;rw[if_neg (by rw[hf];simp)] at h⊢;rw[tX] at h⊢;rcases hp:pc f.st f.t id n with⟨st,t,ok⟩
 rw[hp] at h;simp only at h⊢;have:ok=true:=by simpa using h
 rw[this]
theorem xl {id:Int}{l:List aT}(h:(f.aZ id l).cK=false):f.cK=false:=by
 unfold Fs.aZ at h;by_cases hf:f.cK=true
 .rw[if_pos hf] at h;rw[h]
 .simpa using hf
theorem Ea {e:NE}(h:FX st t G id e.Q l q)(hid:id<16)(he:Jv st e)(hp:(Fs.put ⟨st,t,false⟩ id e.n).cK=false):∃l' q',qY (Fs.put ⟨st,t,false⟩ id e.n).st (Fs.put ⟨st,t,false⟩ id e.n).t (gI G id (some e)) l' q':=
 Xx h hid he (put_run hp)
theorem na (h:qY st t G l q)(cK:Bool)(k:Nat):Fs.node ⟨st,t,cK⟩ k=((G k).map (·.n)).getD bu:=by
 unfold Fs.node;rw[show(iY st t k)=_ from h.iY k]
theorem oG {e:NE}{Zs:List aT}(h:qY st t G l q)(he:G at_=some e)(hk:e.n.kind=2)(sP:bz Zs=true)(hp:(Fs.aZ ⟨st,t,false⟩ at_ Zs).cK=false):
  ∃e' l' q',qY (Fs.aZ ⟨st,t,false⟩ at_ Zs).st (Fs.aZ ⟨st,t,false⟩ at_ Zs).t (gI G at_ (some e')) l' q'/\e'.es=Zs/\e'.n.kind=2/\e'.n.bE=e.n.bE:=by
 obtain⟨_,hid⟩:=h.lt he;obtain⟨ln,qn,hq,hh⟩:=((h.at_ at_).some he).2;rcases hh with⟨_,hf⟩|hd
 .rw[hf.kd] at hk;cases hk
 have hnode:Fs.node ⟨st,t,false⟩ at_=e.n:=by rw[na h,he];rfl
 unfold Fs.aZ at hp⊢;rw[if_neg (by simp)] at hp⊢;simp only[hnode] at hp⊢;rcases hb:km st e.n.aN (a8 Zs) with⟨st1,t1,ok⟩
 rw[hb] at hp;simp only at hp⊢;have fZ:ok=true:=by have:=y6 hp;simpa using this
 subst fZ;have M4:=h.fx hid;have Xy:gq G at_=e.Q:=by unfold gq;rw[he]
 have cX:=(lJ sP).1;obtain⟨l1,q1,h1,h2,h3,h4,h5⟩:=OH (R:=cB l q++rq G at_) hd.tr (M4.so.cR (by
  rw[Xy,hq];exact od _ _ _)) af hb
 have S5:FX st1 t G at_ (cB l1 q1) l q:=M4.step h3 h2
 let e':NE:=⟨{e.n with aN:=t1,size:=((a8 Zs).length:Int)},Zs,cB l1 q1⟩
 have hn:Jv st1 e':=⟨l1,q1,rfl,.inr ⟨h1,hd.kd,sP,rfl,hd.lk,h4,h5⟩⟩;obtain⟨l',q',k⟩:=Ea (e:=e') S5 hid hn hp;exact⟨e',l',q',k,rfl,hd.kd,rfl⟩
theorem XB (h:bf ag=true):∀s∈aB ag,bT s=true:=by
 intro s hs;unfold bf at h;split at h
 .rename_i h0;rw[h0] at hs;unfold aB at hs;rw[if_pos rfl] at hs;cases hs
 .split at h
  .cases h
  .rw[cv,iM] at h;exact h.1 s hs
theorem xm (h:aB ag≠[]):aB ag=(aB ag).dropLast++[Fs.base ag]:=by
 unfold Fs.base;rw[List.getLastD_eq_getLast?,List.getLast?_eq_some_getLast h,pH,List.dropLast_concat_getLast]
theorem y7 (h:qY st t G l q)(hr:¬0<(Fs.bL ⟨st,t,cK⟩ ag).2):
  ∃(at_:Nat)(e:NE),Fs.bL ⟨st,t,cK⟩ ag=((at_:Int),0)/\aB ag≠[]/\look G (aB ag).dropLast 0=some at_/\G at_=some e/\e.n.kind=2:=by
 unfold Fs.bL at hr⊢;simp only at hr⊢;by_cases hn:aB ag=[]
 .rw[if_pos hn] at hr;exact absurd (by decide) hr
 .rw[if_neg hn] at hr⊢;have hl:Fs.Gm ⟨st,t,cK⟩ (aB ag).dropLast 0=_:=xj h cK (aB ag).dropLast 0;rw[hl] at hr⊢;cases Qn:look G (aB ag).dropLast 0 with
  |none=>rw[Qn] at hr;exact absurd (show(0:Int)<2 by decide) hr
  |some at_=>
   rw[Qn] at hr;simp only at hr⊢;rw[if_neg af] at hr⊢;rw[na h] at hr⊢;cases hg:G at_ with
   |none=>rw[hg] at hr;exact absurd (show(0:Int)<4 by decide) hr
   |some e=>
    rw[hg] at hr;simp only[vE,pH] at hr⊢;by_cases hk:e.n.kind=2
    .rw[if_neg (by simpa using hk)];exact⟨at_,e,rfl,hn,rfl,hg,hk⟩
    .rw[if_pos hk] at hr;exact absurd (by decide) hr
theorem Hn (h:qY st t G l q)(cK:Bool)(ag:ay):Fs.cZ ⟨st,t,cK⟩ ag=match look G (aB ag) 0 with
  |none=>-1
  |some j=>(j:Int):=xj h cK (aB ag) 0
theorem ie (h:qY st t G l q)(hf:¬Fs.cZ ⟨st,t,cK⟩ ag<0):∃k:Nat,Fs.cZ ⟨st,t,cK⟩ ag=k/\look G (aB ag) 0=some k:=by
 rw[Hn h] at hf⊢;cases hl:look G (aB ag) 0 with
 |none=>rw[hl] at hf;exact absurd (by decide) hf
 |some k=>exact⟨k,rfl,rfl⟩
theorem Mh (h:qY st t G l q)(hf:¬0<=Fs.cZ ⟨st,t,cK⟩ ag):look G (aB ag) 0=none:=by
 rw[Hn h] at hf;cases hl:look G (aB ag) 0 with
 |none=>rfl
 |some k=>rw[hl] at hf;exact absurd (by simp) hf
theorem XC {e:NE}(hn:aB ag≠[])(hl:look G (aB ag).dropLast 0=some at_)(he:G at_=some e)(hk:e.n.kind=2)(hf:look G (aB ag) 0=none):∀x∈e.es,x.name≠Fs.base ag:=by
 rw[xm hn,oF,hl] at hf;simp only at hf;rw[look,xh he hk] at hf;simp only at hf;cases EG:e.es.find? (λx=>decide (x.name=Fs.base ag)) with
 |none=>exact S6 EG
 |some x=>rw[EG] at hf;cases hf
theorem I5 (h:bf ag=true)(hn:aB ag≠[]):bT (Fs.base ag)=true:=by
 apply XB h;rw[xm hn];simp
theorem sr (h:qY st t G l q)(hp:bf ag=true)(hr:¬0<(Fs.bD ⟨st,t,cK⟩ ag).2):
  ∃(at_:Nat)(e:NE),(Fs.bD ⟨st,t,cK⟩ ag).1=(at_:Int)/\aB ag≠[]/\look G (aB ag).dropLast 0=some at_/\G at_=some e/\e.n.kind=2/\(∀x∈e.es,x.name≠Fs.base ag)/\bT (Fs.base ag)=true:=by
 unfold Fs.bD at hr⊢;simp only at hr⊢;by_cases h1:0<(Fs.bL ⟨st,t,cK⟩ ag).2
 .rw[if_pos h1] at hr;exact absurd h1 hr
 .rw[if_neg h1] at hr⊢;obtain⟨at_,e,e1,e2,e3,e4,e5⟩:=y7 h h1;by_cases h2:0<=Fs.cZ ⟨st,t,cK⟩ ag
  .rw[if_pos h2] at hr;exact absurd (by decide) hr
  .rw[if_neg h2,e1];exact⟨at_,e,rfl,e2,e3,e4,e5,XC e2 e3 e4 e5 (Mh h h2),I5 hp e2⟩
theorem lO (h:qY st t G l q)(cK:Bool){e:NE}(he:G k=some e)(hk:e.n.kind=2):Fs.bF ⟨st,t,cK⟩ k=e.es:=by
 unfold Fs.bF;rw[Hl h cK k,xh he hk];rfl
theorem fw (G:Gr)(id:Nat)(e:Option NE):gI G id e id=e:=by unfold gI;rw[if_pos rfl]
theorem fM (G:Gr)(e:Option NE)(h:k≠id):gI G id e k=G k:=by unfold gI;rw[if_neg h]
theorem dU {e:NE}(h:G k=some e):bF G k=e.es:=by unfold bF;rw[h]
theorem QC {kind:Int}(hk:kind=1\/kind=2)(h:FS st t)(hp:bf ag=true)(h0:(Fs.make ⟨st,t,false⟩ ag kind).2=0)(hf:(Fs.make ⟨st,t,false⟩ ag kind).1.cK=false):FS (Fs.make ⟨st,t,false⟩ ag kind).1.st (Fs.make ⟨st,t,false⟩ ag kind).1.t:=by
 obtain⟨G,l,q,hF,hG⟩:=h;unfold Fs.make at h0 hf⊢;simp only at h0 hf⊢;by_cases h1:0<(Fs.bD ⟨st,t,false⟩ ag).2
 .rw[if_pos h1] at h0;simp only at h0;omega
 .rw[if_neg h1] at h0 hf⊢;obtain⟨at_,e,e1,e2,e3,e4,e5,e6,e7⟩:=sr hF hp h1;rw[e1] at h0 hf⊢;cases zD:uq st t with
  |none=>rw[zD] at h0;simp at h0
  |some id=>
   rw[zD] at h0 hf;simp only at h0 hf⊢;rw[lO hF false e4 e5] at h0 hf⊢;by_cases zF:12<=e.es.length
   .rw[if_pos zF] at h0;simp at h0
   .rw[if_neg zF] at hf⊢;simp only at hf⊢;obtain⟨hid,vX⟩:=D8 hF zD;have n4:at_≠id:=λhc=>by rw[hc,vX] at e4;cases e4
    have Fi:id≠0:=λhc=>by obtain⟨r,hr,_⟩:=hG.cC;rw[hc,hr] at vX;cases vX
    let en:NE:=⟨⟨kind,1,0,eX⟩,[],[]⟩
    have Kl:=xl hf;have Xy:gq G id=[]:=by unfold gq;rw[vX]
    have M4:FX st t G id en.Q l q:=by have:=hF.fx hid;rw[Xy] at this;exact this
    have hhn:cY 16=cY 16:=rfl;have TR:Jv st en:=by
     refine⟨cY 16,[],by unfold cB;rw[kQ];rfl,?_⟩;rcases hk with rfl|rfl
     .exact .inl ⟨rfl,se st,rfl,by decide,rfl,by decide,λj hj=>by have hj:(j:Int)<0:=hj;omega⟩
     .exact .inr ⟨se st,rfl,rfl,rfl,rfl,rfl,by unfold tx;rw[show(cY 16).getD 0 bq=bq from rfl,lj lh];rfl⟩
    refine' zaH
    have y8:bz (gu e.es ⟨Fs.base ag,id⟩)=true:=BV sP e6 e7 (by show 1<=(id:Int)/\(id:Int)<=15;omega) af;generalize oO:(Fs.put ⟨st,t,false⟩ id ⟨kind,1,0,eX⟩)=fs at hf Kl⊢;have xA:qY fs.st fs.t (gI G id (some en)) l1 q1:=by rw[<-oO];exact xA
    obtain⟨st1,t1,y9⟩:=fs;simp only at Kl;subst Kl;obtain⟨e',l2,q2,EH,g1,g2,g3⟩:=oG xA e4' e5 y8 hf;refine⟨_,l2,q2,EH,EH.wf,EH.hi,?_,?_,?_,?_⟩
    .obtain⟨r,Vo,nW⟩:=hG.cC;by_cases ha:at_=0
     .subst ha;exact⟨e',fw _ _ _,g2⟩
     .rw[fM _ _ (λh=>ha h.symm),fM _ _ (λh=>Fi h.symm)];exact⟨r,Vo,nW⟩
    .have hold:∀k r,G k=some r->∃r',gI (gI G id (some en)) at_ (some e') k=some r':=λk r hr=>by
      by_cases hk:k=at_
      .subst hk;exact⟨_,fw _ _ _⟩
      .rw[fM _ _ hk];by_cases x9:k=id
       .subst x9;exact⟨_,fw _ _ _⟩
       .rw[fM _ _ x9];exact⟨r,hr⟩
     have kW:∃r',gI (gI G id (some en)) at_ (some e') id=some r':=by
      rw[fM _ _ (λh=>n4 h.symm)];exact⟨_,fw _ _ _⟩
     intro k x hx;rw[gm] at hx;by_cases hk:k=at_
     .rw[if_pos hk] at hx;have hx:x∈e'.es:=hx;rw[g1] at hx;rcases mZ.1 hx with rfl|hx
      .exact kW
      .rw[<-jq] at hx;obtain⟨r,hr⟩:=hG.ids at_ x hx;exact hold _ r hr
     .rw[if_neg hk,gm] at hx;by_cases x9:k=id
      .rw[if_pos x9] at hx;cases hx
      .rw[if_neg x9] at hx;obtain⟨r,hr⟩:=hG.ids k x hx;exact hold _ r hr
    .have Ih:∀j,iq (gI (gI G id (some en)) at_ (some e')) j=iq G j+if id=j then 1 else 0:=λj=>by
      have c1:=mm (gI G id (some en)) (xA.lt e4').2 (some e') j;have c2:=mm G hid (some en) j;rw[dU e4'] at c1;have:bF G id=[]:=by unfold bF;rw[vX]
      rw[this] at c2;have c3:=I3 j e.es ⟨Fs.base ag,id⟩;have c4:T5 (some e')=gu e.es ⟨Fs.base ag,id⟩:=g1;rw[c4,c3] at c1;have c5:cE j (T5 (some en))=0:=rfl;have c6:cE j []=0:=rfl;rw[c5,c6] at c2;simp only[tX] at c1;omega
     have hz:iq G id=0:=by
      unfold iq;have:∀k,cE id (bF G k)=0:=λk=>by
       unfold cE;rw[Ao];intro x hx;obtain⟨r,hr⟩:=hG.ids k x hx;simp only[cl];intro hc;rw[hc,vX] at hr;cases hr
      rw[show(λk=>cE id (bF G k))=λ_=>0 from funext this];rfl
     intro j r hj hr;rw[Ih];by_cases Mi:j=at_
     .subst Mi;rw[fw] at hr;cases hr
      rw[if_neg (λh=>n4 h.symm),g3];have:=hG.lk j e hj e4;omega
     .rw[fM _ _ Mi] at hr;by_cases v7:j=id
      .subst v7;rw[fw] at hr;cases hr
       rw[if_pos rfl,hz];rfl
      .rw[fM _ _ v7] at hr;rw[if_neg (λh=>v7 h.symm)];have:=hG.lk j r hj hr;omega
    .obtain⟨d,hd⟩:=hG.ac;have gx:∀k,∀x∈bF G k,x.id.toNat≠id:=λk x hx hc=>by
      obtain⟨r,hr⟩:=hG.ids k x hx;rw[hc,vX] at hr;cases hr
     refine⟨λk=>if k=id then d at_+1 else d k,λk x hx=>?_⟩;rw[gm] at hx;by_cases hk:k=at_
     .rw[if_pos hk] at hx;have hx:x∈e'.es:=hx;rw[g1] at hx;rw[hk];show(if at_=id then d at_+1 else d at_)<(if x.id.toNat=id then d at_+1 else d x.id.toNat);rw[if_neg n4];rcases mZ.1 hx with rfl|hx
      .simp
      .rw[<-jq] at hx;rw[if_neg (gx at_ x hx)];exact hd at_ x hx
     .rw[if_neg hk,gm] at hx;by_cases x9:k=id
      .rw[if_pos x9] at hx;cases hx
      .rw[if_neg x9] at hx;simp only[if_neg x9,if_neg (gx k x hx)];exact hd k x hx
end Go.Pg
namespace Go.Pg
open Go.Pl
variable {G:Gr}{id k:Nat}{st:ak}{t:bX}{ag:ay}
theorem lP {e:NE}(h:∃r,G k=some r):∃r,gI G id (some e) k=some r:=by
 by_cases hk:k=id
 .subst hk;exact⟨e,fw _ _ _⟩
 .rw[fM _ _ hk];exact h
theorem nb {e:NE}(h:∃r,G 0=some r/\r.n.kind=2)(he:id=0->e.n.kind=2):∃r,gI G id (some e) 0=some r/\r.n.kind=2:=by
 by_cases hk:0=id
 .subst hk;exact⟨e,fw _ _ _,he rfl⟩
 .rw[fM _ _ hk];exact h
theorem QD (h:∀k e,G k=some e->WfN e){e:NE}(he:G k=some e)(hk:e.n.kind=1):e.es=[]/\1<=e.n.bE/\e.n.bE<=9:=by
 rcases h k e he with⟨_,h1,h2⟩|⟨h1,_⟩
 .exact⟨h1,h2⟩
 .rw[hk] at h1;cases h1
theorem jg (hG:Gd G){ad:List ay}(h:look G ad 0=some k):∃e,G k=some e:=by
 rcases xk ad with rfl|⟨a,s,rfl⟩
 .cases h;obtain⟨e,he,_⟩:=hG.cC;exact⟨e,he⟩
 .rw[oF] at h;cases h1:look G a 0 with
  |none=>rw[h1] at h;cases h
  |some m=>
   rw[h1] at h;obtain⟨x,hx,_,rfl,_⟩:=uT h;exact hG.ids m x hx
theorem Gd.same (h:Gd G){e e':NE}(he:G id=some e)(hw:∀k r,gI G id (some e') k=some r->WfN r)(sP:e'.es=e.es)(hk:e'.n.kind=e.n.kind)(hl:e'.n.bE=e.n.bE):Gd (gI G id (some e')):=by
 have hid:id<16:=by
  by_cases hid:id<16
  .exact hid
  .rw[h.hi id af] at he;cases he
 have hE:∀k,bF (gI G id (some e')) k=bF G k:=λk=>by
  rw[gm];split
  .rename_i hk;rw[hk,dU he];exact sP
  .rfl
 refine⟨hw,OK h.hi hid,?_,λk x hx=>?_,λj r hj hr=>?_,?_⟩
 .obtain⟨r,hr,nW⟩:=h.cC;exact nb ⟨r,hr,nW⟩ (λhc=>by subst hc;rw[hr] at he;cases he;rw[hk];exact nW)
 .rw[hE] at hx;exact lP (h.ids k x hx)
 .have:iq (gI G id (some e')) j=iq G j:=by unfold iq;simp only[hE]
  rw[this];by_cases v7:j=id
  .subst v7;rw[fw] at hr;cases hr
   rw[hl];exact h.lk j e hj he
  .rw[fM _ _ v7] at hr;exact h.lk j r hj hr
 .obtain⟨d,hd⟩:=h.ac;exact⟨d,λk x hx=>by rw[hE] at hx;exact hd k x hx⟩
theorem S8 {o:Pl.Op}(h:FS st t)(ha:0<=o.at_/\o.at_<=192)(h0:(Fs.change ⟨st,t,false⟩ o).2=0)(hf:(Fs.change ⟨st,t,false⟩ o).1.cK=false):FS (Fs.change ⟨st,t,false⟩ o).1.st (Fs.change ⟨st,t,false⟩ o).1.t:=by
 obtain⟨G,l,q,hF,hG⟩:=h;unfold Fs.change at h0 hf⊢;simp only at h0 hf⊢;by_cases h1:Fs.cZ ⟨st,t,false⟩ o.ag<0
 .rw[if_pos h1] at h0;cases h0
 .rw[if_neg h1] at h0 hf⊢;obtain⟨id,e1,e2⟩:=ie hF h1;obtain⟨e,he⟩:=jg hG e2;rw[e1,na hF,he] at h0 hf⊢;simp only[vE,pH] at h0 hf⊢;by_cases hk:e.n.kind=1
  .rw[if_neg (by simpa using hk)] at h0 hf⊢;by_cases hm:192<o.at_+(o.bh.length:Int)
   .rw[if_pos hm] at h0;cases h0
   .rw[if_neg hm] at hf⊢;obtain⟨_,hid⟩:=hF.lt he;obtain⟨ln,qn,hq,hh⟩:=((hF.at_ id).some he).2;have Ho:oU st e.n ln qn:=by
     rcases hh with⟨_,hh⟩|hd
     .exact hh
     .have:=hd.kd;rw[hk] at this;cases this
    have M4:=hF.fx hid;have Xy:gq G id=e.Q:=by unfold gq;rw[he]
    have VX:mz st (cB ln qn++(cB l q++rq G id)):=M4.so.cR (by rw[Xy,hq];exact od _ _ _);rcases hr:(if o.kind=3 then fB st e.n o.at_.toNat o.bh else fk st e.n o.at_.toNat) with⟨st1,n1,ok⟩
    rw[hr] at hf;simp only at hf⊢;have fZ:ok=true:=by have:=y6 hf;simpa using this
    subst fZ;have Il:∃l' q',oU st1 n1 l' q'/\mz st1 (cB l' q'++(cB l q++rq G id))/\dM st st1 (cB l q++rq G id)/\n1.bE=e.n.bE/\n1.kind=e.n.kind:=by
     split at hr
     .exact IZ Ho VX af hr
     .exact OI Ho VX af hr
    obtain⟨l1,q1,g1,g2,g3,g4,g5⟩:=Il;have S5:FX st1 t G id (cB l1 q1) l q:=M4.step g3 g2
    let e':NE:=⟨n1,[],cB l1 q1⟩
    obtain⟨l2,q2,EH⟩:=Ea (e:=e') S5 hid ⟨l1,q1,rfl,.inl ⟨rfl,g1⟩⟩ hf;exact⟨_,l2,q2,EH,hG.same he EH.wf (QD hG.wf he hk).1.symm g5 g4⟩
  .rw[if_pos (by simpa using hk)] at h0;cases h0
theorem link_ok {ag to:ay}(h:FS st t)(hp:bf to=true)(h0:(Fs.link ⟨st,t,false⟩ ag to).2=0)(hf:(Fs.link ⟨st,t,false⟩ ag to).1.cK=false):FS (Fs.link ⟨st,t,false⟩ ag to).1.st (Fs.link ⟨st,t,false⟩ ag to).1.t:=by
 obtain⟨G,l,q,hF,hG⟩:=h;unfold Fs.link at h0 hf⊢;simp only at h0 hf⊢;by_cases h1:Fs.cZ ⟨st,t,false⟩ ag<0
 .rw[if_pos h1] at h0;cases h0
 .rw[if_neg h1] at h0 hf⊢;obtain⟨id,e1,e2⟩:=ie hF h1;obtain⟨ei,qA⟩:=jg hG e2;rw[e1,na hF,qA] at h0 hf⊢;simp only[vE,pH] at h0 hf⊢;by_cases hk:ei.n.kind=1
  .rw[if_neg (by simpa using hk)] at h0 hf⊢;by_cases h2:0<(Fs.bD ⟨st,t,false⟩ to).2
   .rw[if_pos h2] at h0;simp only at h0;omega
   .rw[if_neg h2] at h0 hf⊢;obtain⟨at_,e,T6,_,e3,e4,e5,e6,e7⟩:=sr hF hp h2;rw[T6,lO hF false e4 e5] at h0 hf⊢;by_cases zF:9<=ei.n.bE\/12<=e.es.length
    .rw[if_pos zF] at h0;cases h0
    .rw[if_neg zF] at hf⊢;obtain⟨_,hid⟩:=hF.lt qA;have n4:at_≠id:=λhc=>by rw[hc,qA] at e4;cases e4;rw[hk] at e5;cases e5
     have Fi:id≠0:=λhc=>by obtain⟨r,hr,nW⟩:=hG.cC;rw[hc,hr] at qA;cases qA;rw[hk] at nW;cases nW
     obtain⟨hes0,Qn⟩:=QD hG.wf qA hk
     let en:NE:=⟨{ei.n with bE:=ei.n.bE+1},[],ei.Q⟩
     have Kl:=xl hf;have Xy:gq G id=ei.Q:=by unfold gq;rw[qA]
     have M4:FX st t G id en.Q l q:=by have:=hF.fx hid;rw[Xy] at this;exact this
     have TR:Jv st en:=by
      obtain⟨ln,qn,hq,⟨_,hh⟩|hd⟩:=((hF.at_ id).some qA).2
      .exact⟨ln,qn,hq,.inl ⟨rfl,hh.tr,hh.kd,hh.sz,hh.mn,by show 1<=ei.n.bE+1/\ei.n.bE+1<=9;omega,hh.ft⟩⟩
      .have:=hd.kd;rw[hk] at this;cases this
     refine' zaH
     have y8:bz (gu e.es ⟨Fs.base to,id⟩)=true:=BV sP e6 e7 (by show 1<=(id:Int)/\(id:Int)<=15;omega) af;generalize oO:(Fs.put ⟨st,t,false⟩ id {ei.n with bE:=ei.n.bE+1})=fs at hf Kl⊢;have xA:qY fs.st fs.t (gI G id (some en)) l1 q1:=by rw[<-oO];exact xA
     obtain⟨st1,t1,y9⟩:=fs;simp only at Kl;subst Kl;obtain⟨e',l2,q2,EH,g1,g2,g3⟩:=oG xA e4' e5 y8 hf;have H5:bF G id=[]:=by rw[dU qA];exact hes0
     have hE:∀k,bF (gI (gI G id (some en)) at_ (some e')) k=if k=at_ then gu e.es ⟨Fs.base to,id⟩ else bF G k:=λk=>by
      rw[gm];split
      .exact g1
      .rw[gm];split
       .rename_i hk;rw[hk,H5];rfl
       .rfl
     refine⟨_,l2,q2,EH,EH.wf,EH.hi,?_,?_,?_,?_⟩
     .exact nb (nb hG.cC (λhc=>absurd hc Fi)) (λ_=>g2)
     .intro k x hx;rw[hE] at hx;refine lP (lP ?_);split at hx
      .rcases mZ.1 hx with rfl|hx
       .exact⟨ei,by simpa using qA⟩
       .rw[<-jq] at hx;exact hG.ids at_ x hx
      .exact hG.ids k x hx
     .intro j r hj hr;have c1:=mm (gI G id (some en)) (xA.lt e4').2 (some e') j;have c2:=mm G hid (some en) j;have c3:=I3 j e.es ⟨Fs.base to,id⟩;have c4:T5 (some e')=gu e.es ⟨Fs.base to,id⟩:=g1;rw[dU e4',c4,c3] at c1;rw[H5] at c2;have c5:cE j (T5 (some en))=0:=rfl;have c6:cE j []=0:=rfl;rw[c5,c6] at c2;simp only[tX] at c1;by_cases Mi:j=at_
      .subst Mi;rw[fw] at hr;cases hr
       rw[if_neg (λh=>n4 h.symm)] at c1;rw[g3];have:=hG.lk j e hj e4;omega
      .rw[fM _ _ Mi] at hr;by_cases v7:j=id
       .subst v7;rw[fw] at hr;cases hr
        rw[if_pos rfl] at c1;show _=ei.n.bE+1;have:=hG.lk j ei hj qA;omega
       .rw[fM _ _ v7] at hr;rw[if_neg (λh=>v7 h.symm)] at c1;have:=hG.lk j r hj hr;omega
     .obtain⟨d,hd⟩:=hG.ac;have hnoe:∀k,∀x∈bF G k,k≠id:=λk x hx hc=>by rw[hc,H5] at hx;cases hx
      refine⟨λk=>if k=id then d id+d at_+1 else d k,λk x hx=>?_⟩;rw[hE] at hx;show(if k=id then _ else _)<(if x.id.toNat=id then _ else _);split at hx
      .rename_i hk;rw[hk,if_neg n4];rcases mZ.1 hx with rfl|hx
       .rw[if_pos (by simp)];omega
       .rw[<-jq] at hx;have:=hd at_ x hx;split
        .omega
        .exact this
      .rw[if_neg (hnoe k x hx)];have:=hd k x hx;split
       .rename_i hc;rw[hc] at this;omega
       .exact this
  .rw[if_pos (by simpa using hk)] at h0;cases h0
theorem ss {l q:cV}(hF:qY st t G l q)(hG:Gd G)(hl:look G (aB ag) 0=some id)(hid:id≠0):
  ∃(at_:Nat)(e:NE)(i:Nat),Fs.bL ⟨st,t,false⟩ ag=((at_:Int),0)/\look G (aB ag).dropLast 0=some at_/\G at_=some e/\e.n.kind=2/\ey e.es (Fs.base ag)=some i/\i<e.es.length/\(e.es.getD i ⟨[],0⟩).id.toNat=id/\aB ag≠[]:=by
 have hn:aB ag≠[]:=λh=>by rw[h] at hl;cases hl;exact hid rfl
 have ju:=hl;rw[xm hn,oF] at ju;cases h1:look G (aB ag).dropLast 0 with
 |none=>rw[h1] at ju;cases ju
 |some at_=>
  rw[h1] at ju;obtain⟨x,hx,hxn,hxi,hxe,hxf⟩:=uT ju;obtain⟨hee,e,he,hk,sP⟩:=mo hxe;have h2:=y5 e.es (Fs.base ag);rw[sP,hxf] at h2;cases hi:ey (bF G at_) (Fs.base ag) with
  |none=>rw[hi] at h2;cases h2
  |some i=>
   rw[hi] at h2;simp only[vE] at h2;have h3:(bF G at_).getD i ⟨[],0⟩=x:=by injection h2
   refine⟨at_,e,i,?_,rfl,he,hk,by rw[sP];exact hi,by rw[sP];exact OL hi,by rw[sP,h3];exact hxi,hn⟩;unfold Fs.bL;simp only;rw[if_neg hn];have Qn:Fs.Gm ⟨st,t,false⟩ (aB ag).dropLast 0=_:=xj hF false (aB ag).dropLast 0;rw[Qn,h1];simp only;rw[if_neg af,na hF,he];simp only[vE,pH];rw[if_neg (by simpa using hk)]
theorem XD (h:FS st t)(h0:(Fs.pR ⟨st,t,false⟩ ag).2=0)(hf:(Fs.pR ⟨st,t,false⟩ ag).1.cK=false):FS (Fs.pR ⟨st,t,false⟩ ag).1.st (Fs.pR ⟨st,t,false⟩ ag).1.t:=by
 obtain⟨G,l,q,hF,hG⟩:=h;unfold Fs.pR at h0 hf⊢;simp only at h0 hf⊢;by_cases h1:Fs.cZ ⟨st,t,false⟩ ag<0
 .rw[if_pos h1] at h0;cases h0
 .rw[if_neg h1] at h0 hf⊢;obtain⟨id,e1,e2⟩:=ie hF h1;obtain⟨ei,qA⟩:=jg hG e2;rw[e1,na hF,qA] at h0 hf⊢;simp only[vE,pH] at h0 hf⊢;by_cases hb:(id:Int)=0\/(ei.n.kind=2/\0<ei.n.size)
  .rw[if_pos hb] at h0;cases h0
  .rw[if_neg hb] at h0 hf⊢;have Fi:id≠0:=λhc=>hb (.inl af)
   obtain⟨at_,e,i,p1,p2,p3,p4,p5,p6,p7,_⟩:=ss hF hG e2 Fi;rw[p1] at h0 hf⊢;simp only at h0 hf⊢;rw[lO hF false p3 p4,p5] at h0 hf⊢;simp only[pH] at h0 hf⊢;obtain⟨_,hid⟩:=hF.lt qA;have jq:=dU p3;have sP:bz e.es=true:=by have:=po hG.wf at_;rwa [jq] at this
   have y8:=I2 sP (jf e.es i);have H5:bF G id=[]:=by
    rw[dU qA];obtain⟨ln,qn,hq,⟨h0,_⟩|hd⟩:=((hF.at_ id).some qA).2
    .exact h0
    .have iI:=hd.sz;have UG:=hd.kd;have:ei.es=[]:=by
      by_cases hc:ei.es=[]
      .exact hc
      .have h3:=(lJ hd.eo).2 hc;exact absurd (.inr ⟨UG,af⟩) hb
     exact this
   have n4:at_≠id:=λhc=>by
    have:bF G at_=[]:=by rw[hc];exact H5
    rw[jq] at this;rw[this] at p6;simp at p6
   have QE:(Fs.aZ ⟨st,t,false⟩ at_ (er e.es i)).cK=false:=by
    by_cases hl:0<ei.n.bE-1
    .rw[if_pos hl] at hf;exact y6 hf
    .rw[if_neg hl] at hf;by_cases hfu:(Fs.aZ ⟨st,t,false⟩ at_ (er e.es i)).cK=true
     .rw[if_pos hfu] at hf;exact hf
     .simpa using hfu
   obtain⟨e',l1,q1,xA,g1,g2,g3⟩:=oG hF p3 p4 y8 QE;generalize oO:(Fs.aZ ⟨st,t,false⟩ at_ (er e.es i))=fs at hf QE xA⊢;obtain⟨st1,t1,y9⟩:=fs;simp only at QE;subst QE;have hei':gI G at_ (some e') id=some ei:=by rw[fM _ _ (λh=>n4 h.symm)];exact qA
   have u9:∀j,iq (gI G at_ (some e')) j+(if id=j then 1 else 0)=iq G j:=λj=>by
    have c1:=mm G (hF.lt p3).2 (some e') j;have c4:T5 (some e')=er e.es i:=g1;rw[jq,c4] at c1;have c2:=I4 j p6;rw[p7] at c2;omega
   have I6:∀k x,x∈bF (gI G at_ (some e')) k->∃r,G x.id.toNat=some r:=λk x hx=>by
    rw[gm] at hx;split at hx
    .have hx:x∈e'.es:=hx;rw[g1] at hx;have:=(jf e.es i).subset hx;rw[<-jq] at this;exact hG.ids at_ x this
    .exact hG.ids k x hx
   obtain⟨d,hd⟩:=hG.ac;have OM:∀k x,x∈bF (gI G at_ (some e')) k->d k<d x.id.toNat:=λk x hx=>by
    rw[gm] at hx;split at hx
    .rename_i hk;have hx:x∈e'.es:=hx;rw[g1] at hx;have:=(jf e.es i).subset hx;rw[<-jq] at this;rw[hk];exact hd at_ x this
    .exact hd k x hx
   have Qn:=hG.lk id ei Fi qA;have hci:=u9 id;rw[if_pos rfl] at hci;have hE:∀(o:Option NE),T5 o=[]->∀k,bF (gI (gI G at_ (some e')) id o) k=bF (gI G at_ (some e')) k:=λo ho k=>by
    rw[gm];split
    .rename_i hk;rw[ho,hk,gm,if_neg (λh=>n4 h.symm),H5]
    .rfl
   by_cases hl:0<ei.n.bE-1
   .rw[if_pos hl] at hf⊢;have Dz:ei.n.kind=1:=by
     rcases hG.wf id ei qA with⟨hk,_⟩|⟨_,_,hk⟩
     .exact hk
     .omega
    let en:NE:=⟨{ei.n with bE:=ei.n.bE-1},[],ei.Q⟩
    have Xy:gq (gI G at_ (some e')) id=ei.Q:=by unfold gq;rw[hei']
    have M4:FX st1 t1 (gI G at_ (some e')) id en.Q l1 q1:=by have:=xA.fx hid;rw[Xy] at this;exact this
    have TR:Jv st1 en:=by
     obtain⟨ln,qn,hq,⟨_,hh⟩|hd⟩:=((xA.at_ id).some hei').2
     .have:=hh.lk;exact⟨ln,qn,hq,.inl ⟨rfl,hh.tr,hh.kd,hh.sz,hh.mn,by show 1<=ei.n.bE-1/\ei.n.bE-1<=9;omega,hh.ft⟩⟩
     .have:=hd.kd;rw[Dz] at this;cases this
    obtain⟨l2,q2,EH⟩:=Ea (e:=en) M4 hid TR hf;have hE2:=hE (some en) rfl;refine⟨_,l2,q2,EH,EH.wf,EH.hi,nb (nb hG.cC (λ_=>g2)) (λhc=>absurd hc Fi),λk x hx=>?_,λj r hj hr=>?_,d,λk x hx=>by rw[hE2] at hx;exact OM k x hx⟩
    .rw[hE2] at hx;exact lP (lP (I6 k x hx))
    .have hnr:iq (gI (gI G at_ (some e')) id (some en)) j=iq (gI G at_ (some e')) j:=by unfold iq;simp only[hE2]
     have hcj:=u9 j;rw[hnr];by_cases v7:j=id
     .subst v7;rw[fw] at hr;cases hr
      show _=ei.n.bE-1;omega
     .rw[fM _ _ v7] at hr;rw[if_neg (λh=>v7 h.symm)] at hcj;by_cases Mi:j=at_
      .subst Mi;rw[fw] at hr;cases hr
       rw[g3];have:=hG.lk j e hj p3;omega
      .rw[fM _ _ Mi] at hr;have:=hG.lk j r hj hr;omega
   .rw[if_neg hl] at hf⊢;rw[if_neg (by simp)] at hf⊢;rcases tk:dX st1 t1 id with⟨eI,t2,ok⟩
    rw[tk] at hf;simp only at hf⊢;have fZ:ok=true:=by simpa using hf
    subst fZ;obtain⟨l2,q2,EH⟩:=I1 xA hei' tk;have hE2:=hE none rfl;have hlk1:1<=ei.n.bE:=by rcases hG.wf id ei qA with⟨_,_,hk,_⟩|⟨_,_,hk⟩<;>omega
    have hz:iq (gI G at_ (some e')) id=0:=by omega
    refine⟨_,l2,q2,EH,EH.wf,EH.hi,?_,λk x hx=>?_,λj r hj hr=>?_,d,λk x hx=>by rw[hE2] at hx;exact OM k x hx⟩
    .rw[fM _ _ (λh=>Fi h.symm)];exact nb hG.cC (λ_=>g2)
    .rw[hE2] at hx;have gx:x.id.toNat≠id:=λhc=>by
      have I0:k<16:=BW xA.hi hx;have c1:1<=cE id (bF (gI G at_ (some e')) k):=JN.2 ⟨x,hx,by simpa using hc⟩;have:=D9 (λi=>cE id (bF (gI G at_ (some e')) i)) I0;unfold iq at hz;omega
     rw[fM _ _ gx];exact lP (I6 k x hx)
    .have hnr:iq (gI (gI G at_ (some e')) id none) j=iq (gI G at_ (some e')) j:=by unfold iq;simp only[hE2]
     have hcj:=u9 j;rw[hnr];by_cases v7:j=id
     .subst v7;rw[fw] at hr;cases hr
     .rw[fM _ _ v7] at hr;rw[if_neg (λh=>v7 h.symm)] at hcj;by_cases Mi:j=at_
      .subst Mi;rw[fw] at hr;cases hr
       rw[g3];have:=hG.lk j e hj p3;omega
      .rw[fM _ _ Mi] at hr;have:=hG.lk j r hj hr;omega
end Go.Pg
namespace Go.Pg
open Go.Pl
variable {st:ak}{t:bX}{o:Pl.Op}
theorem ON {s top r:ay}(hs:bf s=true)(ht:bf top=true){aL:List ay}(h:aB s=aB top++aL):under s top=true:=by
 unfold under;rw[hs,ht,h];simp
theorem I7 {l a r:List ay}(hl:l≠[])(h:l.dropLast=a++r):∃aL,l=a++aL:=by
 refine⟨r++[l.getLast hl],?_⟩;rw[<-kA,<-h,List.dropLast_concat_getLast]
theorem move_ok {ag to:ay}(h:FS st t)(RY:bf ag=true)(hp:bf to=true)(h0:(Fs.move ⟨st,t,false⟩ ag to).2=0)(hf:(Fs.move ⟨st,t,false⟩ ag to).1.cK=false):FS (Fs.move ⟨st,t,false⟩ ag to).1.st (Fs.move ⟨st,t,false⟩ ag to).1.t:=by
 obtain⟨G,l,q,hF,hG⟩:=h;unfold Fs.move at h0 hf⊢;simp only at h0 hf⊢;by_cases h1:Fs.cZ ⟨st,t,false⟩ ag<0
 .rw[if_pos h1] at h0;cases h0
 rw[if_neg h1] at h0 hf⊢;obtain⟨id,e1,e2⟩:=ie hF h1;obtain⟨ei,qA⟩:=jg hG e2;rw[e1] at h0 hf⊢;by_cases hz:(id:Int)=0
 .rw[if_pos hz] at h0;cases h0
 rw[if_neg hz] at h0 hf⊢;by_cases hto:0<=Fs.cZ ⟨st,t,false⟩ to
 .rw[if_pos hto] at h0;cases h0
 rw[if_neg hto] at h0 hf⊢;by_cases Kd:under to ag=true
 .rw[if_pos Kd] at h0;cases h0
 rw[if_neg Kd] at h0 hf⊢;by_cases ri:0<(Fs.bL ⟨st,t,false⟩ to).2
 .rw[if_pos ri] at h0;simp only at h0;omega
 rw[if_neg ri] at h0 hf⊢;have Fi:id≠0:=by omega
 obtain⟨at_,e,a1,a2,a3,a4,a5⟩:=y7 hF ri;obtain⟨fr,ef,i,p1,p2,p3,p4,p5,p6,p7,p8⟩:=ss hF hG e2 Fi;have habs:=XC a2 a3 a4 a5 (Mh hF hto);have hbok:=I5 hp a2;rw[a1,p1] at h0 hf⊢;simp only at h0 hf⊢;rw[lO hF false p3 p4,p5,lO hF false a4 a5] at h0 hf⊢;simp only[pH] at h0 hf⊢;obtain⟨_,hid⟩:=hF.lt qA;have Eb:=dU p3;have za:=dU a4;have hesf:bz ef.es=true:=by have:=po hG.wf fr;rwa [Eb] at this
 have hesa:bz e.es=true:=by have:=po hG.wf at_;rwa [za] at this
 have hless:=I2 hesf (jf ef.es i);have cX:(er ef.es i).length+1=ef.es.length:=by
  unfold er;rw[bR,dg,gp];omega
 have h12f:=(gV hesf).2.2;have hidr:1<=(id:Int)/\(id:Int)<=15:=by omega
 have Bh:∀r,look G r id≠some at_:=by
  intro r hr;have h1:look G (aB ag++r) 0=some at_:=by rw[oF,e2];exact hr
  have h2:=Hm hG _ _ _ at_ e (cy _) a3 h1 a4 a5;obtain⟨aL,h3⟩:=I7 a2 h2;exact Kd (ON (r:=to) hp RY h3)
 obtain⟨d,hd⟩:=hG.ac;by_cases uN:¬(at_:Int)=(fr:Int)/\12<=e.es.length
 .rw[if_pos uN] at h0;cases h0
 rw[if_neg uN] at h0 hf⊢;by_cases Mj:(at_:Int)=(fr:Int)
 ·
  rw[if_pos Mj] at hf⊢;have Mj:at_=fr:=by omega
  subst Mj;rw[a4] at p3;cases p3
  have y8:bz (gu (er e.es i) ⟨Fs.base to,id⟩)=true:=BV hless (λx hx=>habs x ((jf e.es i).subset hx)) hbok hidr af;obtain⟨e',l1,q1,xA,g1,g2,g3⟩:=oG hF a4 a5 y8 hf;have DB:∀k x,x∈bF (gI G at_ (some e')) k->(k=at_/\x=⟨Fs.base to,id⟩)\/x∈bF G k:=λk x hx=>by
   rw[gm] at hx;split at hx
   .rename_i hk;have hx:x∈e'.es:=hx;rw[g1] at hx;rcases mZ.1 hx with rfl|hx
    .exact .inl ⟨hk,rfl⟩
    .right;rw[hk,za];exact(jf e.es i).subset hx
   .exact .inr hx
  have hdi:d at_<d id:=by
   have:e.es.getD i ⟨[],0⟩∈bF G at_:=by rw[za,aY,bk p6];exact tA _
   have:=hd at_ _ this;rw[p7] at this;exact this
  refine⟨_,l1,q1,xA,xA.wf,xA.hi,nb hG.cC (λ_=>g2),λk x hx=>?_,λj r hj hr=>?_,d,λk x hx=>?_⟩
  .rcases DB k x hx with⟨_,rfl⟩|hx
   .exact lP ⟨ei,by simpa using qA⟩
   .exact lP (hG.ids k x hx)
  .have c1:=mm G (hF.lt a4).2 (some e') j;have c4:T5 (some e')=gu (er e.es i) ⟨Fs.base to,id⟩:=g1;have c2:=I4 j p6;rw[za,c4,I3] at c1;rw[p7] at c2;simp only[tX] at c1;by_cases Mi:j=at_
   .subst Mi;rw[fw] at hr;cases hr
    rw[g3];have:=hG.lk j e hj a4;omega
   .rw[fM _ _ Mi] at hr;have:=hG.lk j r hj hr;omega
  .rcases DB k x hx with⟨rfl,rfl⟩|hx
   .simpa using hdi
   .exact hd k x hx
 ·
  rw[if_neg Mj] at hf⊢;have gx:at_≠fr:=λh=>Mj (by rw[h])
  simp only at hf⊢;have QE:=xl hf;obtain⟨T6,l1,q1,xA,g1,g2,g3⟩:=oG hF p3 p4 hless QE;generalize oO:(Fs.aZ ⟨st,t,false⟩ fr (er ef.es i))=fs at hf QE xA⊢;obtain⟨st1,t1,y9⟩:=fs;simp only at QE;subst QE;have a4':gI G fr (some T6) at_=some e:=by rw[fM _ _ gx];exact a4
  rw[lO xA false a4' a5] at hf⊢;have y8:bz (gu e.es ⟨Fs.base to,id⟩)=true:=BV hesa habs hbok hidr af;obtain⟨e2',l2,q2,EH,k1,k2,k3⟩:=oG xA a4' a5 y8 hf;have DB:∀k x,x∈bF (gI (gI G fr (some T6)) at_ (some e2')) k->(k=at_/\x=⟨Fs.base to,id⟩)\/x∈bF G k:=λk x hx=>by
   rw[gm] at hx;split at hx
   .rename_i hk;have hx:x∈e2'.es:=hx;rw[k1] at hx;rcases mZ.1 hx with rfl|hx
    .exact .inl ⟨hk,rfl⟩
    .right;rw[hk,za];exact hx
   .rw[gm] at hx;split at hx
    .rename_i hk;have hx:x∈T6.es:=hx;rw[g1] at hx
     right;rw[hk,Eb];exact(jf ef.es i).subset hx
    .exact .inr hx
  refine⟨_,l2,q2,EH,EH.wf,EH.hi,nb (nb hG.cC (λ_=>g2)) (λ_=>k2),λk x hx=>?_,λj r hj hr=>?_,?_⟩
  .rcases DB k x hx with⟨_,rfl⟩|hx
   .exact lP (lP ⟨ei,by simpa using qA⟩)
   .exact lP (lP (hG.ids k x hx))
  .have c1:=mm G (hF.lt p3).2 (some T6) j;have c2:=mm (gI G fr (some T6)) (xA.lt a4').2 (some e2') j;have c3:=I4 j p6;have c4:T5 (some T6)=er ef.es i:=g1;have c5:T5 (some e2')=gu e.es ⟨Fs.base to,id⟩:=k1;rw[Eb,c4] at c1;rw[dU a4',c5,I3] at c2;rw[p7] at c3;simp only[tX] at c2;by_cases Mi:j=at_
   .subst Mi;rw[fw] at hr;cases hr
    rw[k3];have:=hG.lk j e hj a4;omega
   .rw[fM _ _ Mi] at hr;by_cases hjf:j=fr
    .subst hjf;rw[fw] at hr;cases hr
     rw[g3];have:=hG.lk j ef hj p3;omega
    .rw[fM _ _ hjf] at hr;have:=hG.lk j r hj hr;omega
  .classical
   refine⟨λk=>if(∃r,look G r id=some k) then d k+d at_+1 else d k,λk x hx=>?_⟩;show(if _ then _ else _)<(if _ then _ else _);rcases DB k x hx with⟨rfl,rfl⟩|hx
   .rw[if_neg (λ⟨r,hr⟩=>Bh r hr),if_pos ⟨[],by simp[look]⟩];rw[show((id:Int)).toNat=id from tX id];omega
   .have dA:=hd k x hx;by_cases hk:∃r,look G r id=some k
    .obtain⟨r,hr⟩:=hk;rw[if_pos ⟨r,hr⟩,if_pos ⟨r++[x.name],by rw[oF,hr];exact S7 hG.wf hx⟩];omega
    .rw[if_neg hk];by_cases RC:∃r,look G r id=some x.id.toNat
     .rw[if_pos RC];exact A9 dA (ku (Nat.le_add_right _ _) (Nat.le_add_right _ _))
     .rw[if_neg RC];exact dA
theorem Af (h:iJ o=true):bf o.ag=true/\(o.kind=6\/o.kind=7->bf o.to=true)/\0<=o.at_/\o.at_<=192:=by
 unfold iJ at h;simp only at h;split at h
 .cases h
 .rename_i h1;split at h
  .cases h
  .simp only[mC,pG,cv,cl,fR,not_or,vP] at h1 h;obtain⟨⟨⟨h2,h3⟩,h4⟩,h5⟩:=h1;refine⟨h3,λhk=>?_,?_⟩
   .cases hc:bf o.to with
    |true=>rfl
    |false=>exact absurd ⟨hk,hc⟩ h4
   .rcases h with h|⟨_,h⟩
    .omega
    .exact h
theorem QF (h:FS st t)(ho:iJ o=true):FS (eS st t o).1 (eS st t o).2.1:=by
 obtain⟨hp,hto,ha⟩:=Af ho;unfold eS;simp only;have ji:∀r:Fs×Int,(r.2=0->r.1.cK=false->FS r.1.st r.1.t)->FS (if(if r.2=0/\r.1.cK=true then 7 else r.2)≠0 then(st,t,(if r.2=0/\r.1.cK=true then 7 else r.2)) else(r.1.st,r.1.t,(if r.2=0/\r.1.cK=true then 7 else r.2))).1 (if(if r.2=0/\r.1.cK=true then 7 else r.2)≠0 then(st,t,(if r.2=0/\r.1.cK=true then 7 else r.2)) else(r.1.st,r.1.t,(if r.2=0/\r.1.cK=true then(7:Int) else r.2))).2.1:=by
  intro r hr;by_cases hc:r.2=0/\r.1.cK=true
  .rw[if_pos hc,if_pos (by decide)];exact h
  .rw[if_neg hc];by_cases hz:r.2=0
   .rw[if_neg (by simpa using hz)];exact hr hz (by simpa using λh=>hc ⟨hz,h⟩)
   .rw[if_pos hz];exact h
 apply ji;intro h0 hf;by_cases k1:o.kind=1
 .rw[if_pos k1] at h0 hf⊢;exact QC (.inl rfl) h hp h0 hf
 rw[if_neg k1] at h0 hf⊢;by_cases k2:o.kind=2
 .rw[if_pos k2] at h0 hf⊢;exact QC (.inr rfl) h hp h0 hf
 rw[if_neg k2] at h0 hf⊢;by_cases k5:o.kind=5
 .rw[if_pos k5] at h0 hf⊢;exact XD h h0 hf
 rw[if_neg k5] at h0 hf⊢;by_cases k6:o.kind=6
 .rw[if_pos k6] at h0 hf⊢;exact link_ok h (hto (.inl k6)) h0 hf
 rw[if_neg k6] at h0 hf⊢;by_cases k7:o.kind=7
 .rw[if_pos k7] at h0 hf⊢;exact move_ok h hp (hto (.inr k7)) h0 hf
 rw[if_neg k7] at h0 hf⊢;exact S8 h ha h0 hf
theorem BX (h:FS st t):FS (next st) t:=by
 obtain⟨G,l,q,hF,hG⟩:=h;obtain⟨h1,h2,h3⟩:=aax hF.so;have yl:∀{p:iL},p∈cB l q++Md G->rwAt (next st) p=rwAt st p:=λhp=>h3 _ hp
 have AS:∀{l' q':cV},(∀p∈cB l' q',p∈cB l q++Md G)->∀j,tx (next st) l' j=tx st l' j:=λhm j=>mT λhh=>yl (hm _ (dH _ (dw.2 ⟨jn hh,hh⟩)))
 have CO:∀{t':bX}{l' q':cV},(∀p∈cB l' q',p∈cB l q++Md G)->qy st t' l' q'->qy (next st) t' l' q':=λhm h=>h.ext (λp hp=>yl (hm p (di _ hp))) (by rw[h2];omega)
 have H2:∀p∈cB l q,p∈cB l q++Md G:=λp hp=>di _ hp
 refine⟨G,l,q,⟨CO H2 hF.tr,h1,λk=>?_,hF.hi⟩,hG⟩;have hk:=hF.at_ k;unfold At at hk⊢;cases hg:G k with
 |none=>rw[hg] at hk;simp only at hk⊢;rw[AS H2,hk]
 |some e=>
  rw[hg] at hk;simp only at hk⊢;refine⟨by rw[AS H2];exact hk.1,?_⟩;have I0:=(hF.lt hg).2;have hm:∀p∈e.Q,p∈cB l q++Md G:=λp hp=>dH _ (gq_mem I0 p (by unfold gq;rw[hg];exact hp))
  obtain⟨ln,qn,hq,hh⟩:=hk.2;rw[hq] at hm;refine⟨ln,qn,hq,?_⟩;rcases hh with⟨h0,hh⟩|hh
  .exact .inl ⟨h0,CO hm hh.tr,hh.kd,hh.sz,hh.mn,hh.lk,λj hj=>by rw[AS hm];exact hh.ft j hj⟩
  .exact .inr ⟨CO hm hh.tr,hh.kd,hh.eo,hh.sz,hh.lk,hh.mn,by rw[AS hm];exact hh.tx0⟩
theorem Mk (same:Bool):mz (bQ same) []:=by
 refine⟨rfl,rfl,rfl,rfl,xJ 1,by simp,λi hi=>?_,by simp[bQ]⟩;show((zn i ([]++[]):Nat):Int)<=(List.replicate 64 (0:Int)).getD i 0;rw[aY,Uh];split<;>simp[zn]
theorem wi (same:Bool):(pc (bQ same) eX 0 ⟨2,1,0,eX⟩).2.2=true:=by
 cases same<;>decide+kernel
theorem Ml (same:Bool):FS (mM same).1 (mM same).2:=by
 let G0:Gr:=λ_=>none
 let en:NE:=⟨⟨2,1,0,eX⟩,[],[]⟩
 have hgb:rq G0 0=[]:=by
  unfold rq;rw[List.flatMap_eq_nil_iff];intro k _;split<;>rfl
 have M4:FX (bQ same) eX G0 0 en.Q (cY 16) []:=by
  refine⟨se _,?_,λk hk=>?_,λk hk=>rfl⟩
  .rw[hgb];unfold cB;rw[kQ];exact Mk same
  .show tx _ _ k=[];unfold tx;rw[(se (bQ same)).hl k (by show(0:Int)<=_;omega),lj lh]
 have TR:Jv (bQ same) en:=⟨cY 16,[],by unfold cB;rw[kQ];rfl,.inr ⟨se _,rfl,rfl,rfl,rfl,rfl,by unfold tx;rw[show(cY 16).getD 0 bq=bq from rfl,lj lh];rfl⟩⟩;have hp:=wi same;unfold mM;simp only;rcases hr:pc (bQ same) eX 0 ⟨2,1,0,eX⟩ with⟨st,t,ok⟩
 rw[hr] at hp;simp only at hp;subst hp;obtain⟨l',q',hF⟩:=Xx (e:=en) M4 af TR hr;have hE:∀k,bF (gI G0 0 (some en)) k=[]:=λk=>by
  rw[gm];split<;>rfl
 refine⟨_,l',q',hF,hF.wf,hF.hi,⟨en,fw _ _ _,rfl⟩,λk x hx=>?_,λj r hj hr=>?_,λ_=>0,λk x hx=>?_⟩
 .rw[hE] at hx;cases hx
 .rw[fM _ _ hj] at hr;cases hr
 .rw[hE] at hx;cases hx
theorem Mm:∀o∈first,iJ o=true:=by decide+kernel
end Go.Pg
namespace Go.Pg
open Go.Pl
variable {G:Gr}{n k m:Nat}{e:NE}{t:bX}{q:cV}
theorem Mn {d:Nat->Nat}{a b:Nat}(h:d a<d b):∀n:Nat,((List.range n).countP λj=>decide (d j<d a))<=((List.range n).countP λj=>decide (d j<d b))/\(a<n->((List.range n).countP λj=>decide (d j<d a))<((List.range n).countP λj=>decide (d j<d b)))
 |0=>by simp
 |n+1=>by
  have ih:=Mn h n;rw[As,FG,FG];simp only[jI,JJ,ni,cl];constructor
  .have:=ih.1;split<;>split<;>omega
  .intro ha;by_cases hn:a=n
   .subst hn;have:=ih.1;rw[if_neg af,if_pos h];omega
   .have:=ih.2 af;split<;>split<;>omega
theorem Hp (h:Gd G):∃d:Nat->Nat,(∀k,∀x∈bF G k,d k<d x.id.toNat)/\∀k,d k<=16:=by
 obtain⟨d,hd⟩:=h.ac;refine⟨λk=>(List.range 16).countP λj=>decide (d j<d k),λk x hx=>?_,λk=>?_⟩
 .exact(Mn (hd k x hx) 16).2 (BW h.hi hx)
 .have:=Ft (p:=λj=>decide (d j<d k)) (l:=List.range 16);simpa using this
def wl (G:Gr):Nat->Fnd->dx
 |0,x=>[x]
 |f+1,x=>x::(bF G x.id.toNat).flatMap λe=>wl G f ⟨dS x.ag e.name,e.id⟩
def cF (j:Nat)(l:dx):Nat:=l.countP λx=>decide (x.id.toNat=j)
def nn (G:Gr):Nat->Nat->Nat->Nat
 |0,k,j=>if k=j then 1 else 0
 |f+1,k,j=>(if k=j then 1 else 0)+((bF G k).map λe=>nn G f e.id.toNat j).sum
theorem XE (G:Gr)(j:Nat):∀(f:Nat)(x:Fnd),cF j (wl G f x)=nn G f x.id.toNat j
 |0,x=>by simp[cF,wl,nn,jI]
 |f+1,x=>by
  rw[wl,nn];unfold cF;rw[jI,List.countP_flatMap,Nat.add_comm];have:∀e:aT,List.countP (λx=>decide (x.id.toNat=j)) (wl G f ⟨dS x.ag e.name,e.id⟩)=nn G f e.id.toNat j:=λe=>XE G j f ⟨dS x.ag e.name,e.id⟩
  simp only[Function.comp_def,this,cl]
def sm (n:Nat)(f:Nat->Nat):Nat:=((List.range n).map f).sum
theorem qZ (n:Nat)(f:Nat->Nat):sm (n+1) f=sm n f+f n:=by
 unfold sm;rw[As,Jw,JM];simp
theorem OO (n:Nat)(f g:Nat->Nat):sm n (λa=>f a+g a)=sm n f+sm n g:=by
 induction n with
 |zero=>rfl
 |succ n ih=>rw[qZ,qZ,qZ,ih];omega
theorem qi {f g:Nat->Nat}(h:∀a,a<n->f a=g a):sm n f=sm n g:=by
 induction n with
 |zero=>rfl
 |succ n ih=>rw[qZ,qZ,ih (λa ha=>h a af),h n af]
theorem vy (n:Nat):sm n (λ_=>0)=0:=by
 induction n with
 |zero=>rfl
 |succ n ih=>rw[qZ,ih]
theorem OP (M:Nat->Nat):∀{n:Nat},k<n->sm n (λa=>(if k=a then 1 else 0)*M a)=M k
 |0,h=>by omega
 |n+1,h=>by
  rw[qZ];by_cases hk:k=n
  .subst hk;rw[if_pos rfl,qi (g:=λ_=>0) (λa ha=>by rw[if_neg af];simp),vy];omega
  .rw[if_neg hk,OP M af];omega
theorem QG {α:Type}(n:Nat)(F:α->Nat->Nat)(M:Nat->Nat):∀l:List α,sm n (λa=>(l.map λe=>F e a).sum*M a)=(l.map λe=>sm n λa=>F e a*M a).sum
 |[]=>by simp[vy]
 |x::l=>by
  simp only[xC,Ca,mq];rw[OO,QG n F M l]
theorem I8 {α:Type}(l:List α)(f g:α->Nat):(l.map λe=>f e+g e).sum=(l.map f).sum+(l.map g).sum:=by
 induction l with
 |nil=>rfl
 |cons x l ih=>simp only[xC,Ca,ih];omega
theorem cE_sum (j:Nat)(l:List aT):(l.map λe=>if e.id.toNat=j then 1 else 0).sum=cE j l:=by
 unfold cE;induction l with
 |nil=>rfl
 |cons x l ih=>rw[xC,Ca,ih,jI];simp;omega
theorem QH (h:Gd G){d:Nat->Nat}(hd:∀k,∀x∈bF G k,d k<d x.id.toNat)(BD:∀k,d k<=16)(j:Nat):∀(f k:Nat),17<=f+d k->k<16->nn G f k j=(if k=j then 1 else 0)+sm 16 λa=>nn G f k a*cE j (bF G a)
 |0,k,hf,_=>by have:=BD k;omega
 |f+1,k,hf,hk=>by
  have e1:∀a,nn G (f+1) k a=(if k=a then 1 else 0)+((bF G k).map λe=>nn G f e.id.toNat a).sum:=λa=>rfl
  rw[e1 j];simp only[e1,mq];have e3:=QG 16 (λ(e:aT) a=>nn G f e.id.toNat a) (λa=>cE j (bF G a)) (bF G k);rw[OO,OP (λa=>cE j (bF G a)) hk,e3];have e2:((bF G k).map λe=>nn G f e.id.toNat j)=(bF G k).map λe=>(if e.id.toNat=j then 1 else 0)+sm 16 λa=>nn G f e.id.toNat a*cE j (bF G a):=by
   apply EI;intro e he;have hid:=vx h.wf he;have:=hd k e he;exact QH h hd BD j f e.id.toNat af af
  rw[e2,I8,cE_sum]
theorem XF {α:Type}(l:List α):(l.map λ_=>0).sum=0:=by
 induction l with
 |nil=>rfl
 |cons x l ih=>rw[xC,Ca,ih]
theorem XG (h:Gd G){j:Nat}(hj:G j=none):∀(f k:Nat),(∃e,G k=some e)->nn G f k j=0
 |0,k,⟨e,he⟩=>by
  unfold nn;rw[if_neg];rintro rfl;rw[hj] at he;cases he
 |f+1,k,⟨e,he⟩=>by
  unfold nn;rw[if_neg (by rintro rfl;rw[hj] at he;cases he)];have:((bF G k).map λe=>nn G f e.id.toNat j)=(bF G k).map λ_=>0:=by
   apply EI;intro x hx;exact XG h hj f _ (h.ids k x hx)
  rw[this,XF]
theorem zb (G:Gr)(j:Nat):iq G j=sm 16 λa=>cE j (bF G a):=rfl
theorem Mo (h:Gd G){f:Nat}(hf:17<=f):∀j e,G j=some e->((nn G f 0 j:Nat):Int)=e.n.bE:=by
 obtain⟨d,hd,BD⟩:=Hp h;have Hk:=λj=>QH h hd BD j f 0 af af
 have hdir:∀(m j:Nat)(e:NE),d j<=m->G j=some e->e.n.kind=2->nn G f 0 j=1:=by
  intro m;induction m with
  |zero=>
   intro j e hm he hk;have hM:∀a,cE j (bF G a)=0:=λa=>by
    unfold cE;rw[Ao];intro x hx;simp only[cl];intro hc;have:=hd a x hx;rw[hc] at this;omega
   rw[Hk,qi (g:=λ_=>0) (λa _=>by rw[hM];simp),vy];by_cases hj:0=j
   .rw[if_pos hj]
   .have:=h.lk j e (λhc=>hj hc.symm) he;have hz:iq G j=0:=by
     rw[zb,qi (g:=λ_=>0) (λa _=>hM a),vy]
    rw[hz] at this;rcases h.wf j e he with⟨Dz,_⟩|⟨_,_,hl⟩
    .rw[hk] at Dz;cases Dz
    .omega
  |succ m ih=>
   intro j e hm he hk;have key:sm 16 (λa=>nn G f 0 a*cE j (bF G a))=iq G j:=by
    rw[zb];apply qi;intro a ha;rcases vC (cE j (bF G a)) with hz|hp
    .rw[hz];simp
    .obtain⟨x,hx,hxj⟩:=JN.1 hp;have dA:=hd a x hx;have hxj:x.id.toNat=j:=by simpa using hxj
     rw[hxj] at dA;obtain⟨_,ea,hea,hka,_⟩:=mo (xi h.wf hx);rw[ih a ea af hea hka,Nat.one_mul]
   rw[Hk,key];by_cases hj:0=j
   .subst hj;have hz:iq G 0=0:=by
     rw[zb];have hM:∀a,cE 0 (bF G a)=0:=λa=>by
      unfold cE;rw[Ao];intro x hx;have:=vx h.wf hx;simp only[cl];omega
     rw[qi (g:=λ_=>0) (λa _=>hM a),vy]
    rw[hz];rfl
   .have:=h.lk j e (λhc=>hj hc.symm) he;rcases h.wf j e he with⟨Dz,_⟩|⟨_,_,hl⟩
    .rw[hk] at Dz;cases Dz
    .rw[if_neg hj];omega
 intro j e he;rcases h.wf j e he with⟨Dz,_,_⟩|⟨x9,_,hl⟩
 .have hj:j≠0:=λhc=>by subst hc;obtain⟨r,hr,nW⟩:=h.cC;rw[hr] at he;cases he;rw[Dz] at nW;cases nW
  have key:sm 16 (λa=>nn G f 0 a*cE j (bF G a))=iq G j:=by
   rw[zb];apply qi;intro a ha;rcases vC (cE j (bF G a)) with hz|hp
   .rw[hz];simp
   .obtain⟨x,hx,_⟩:=JN.1 hp;obtain⟨_,ea,hea,hka,_⟩:=mo (xi h.wf hx);rw[hdir (d a) a ea (cy _) hea hka,Nat.one_mul]
  rw[<-h.lk j e hj he,Hk,if_neg (λhc=>hj hc.symm),ni,key]
 .rw[hdir (d j) j e (cy _) he x9,hl];rfl
theorem XH:∀l:dx,(∀x∈l,x.id.toNat<16)->l.length=sm 16 λj=>cF j l
 |[],_=>(vy 16).symm
 |x::l,h=>by
  have ih:=XH l (λy hy=>h y (by simp[hy]));have:∀j,cF j (x::l)=cF j l+(if x.id.toNat=j then 1 else 0)*1:=λj=>by simp[cF,jI]
  rw[dh,ih,qi (λj _=>this j),OO,OP (λ_=>1) (h x (by simp))]
def uU (m:Nat)(p:ay):Prop:=∃ad:List ay,(∀s∈ad,bT s=true)/\ad.length<=m/\p=pathOf ad
theorem S9 (ad:List ay)(h:∀s∈ad,bT s=true):(ad.map λs=>47::s).flatten.length<=5*ad.length:=by
 induction ad with
 |nil=>simp
 |cons s l ih=>
  have:=(qU (h s (by simp))).2;have:=ih (λx hx=>h x (by simp[hx]));rw[xC,List.flatten_cons,bR];simp only[dh];omega
theorem uU.len {p:ay}(h:uU m p):1<=p.length/\p.length<=5*m+1:=by
 obtain⟨ad,h1,h2,rfl⟩:=h;unfold pathOf;split
 .simp
 .rename_i hn;have:=S9 ad h1;refine⟨?_,af⟩;cases ad with
  |nil=>exact absurd rfl hn
  |cons s l=>simp
theorem uU.add {p s:ay}(h:uU m p)(hs:bT s=true):uU (m+1) (dS p s):=by
 obtain⟨ad,h1,h2,rfl⟩:=h;refine⟨ad++[s],λx hx=>?_,by simp;omega,?_⟩
 .rcases fJ.1 hx with hx|hx
  .exact h1 x hx
  .have:x=s:=by simpa using hx
   rw[this];exact hs
 .unfold dS pathOf;rw[if_neg (show ad++[s]≠[] by simp)];cases ad with
  |nil=>simp
  |cons a l=>
   rw[if_neg (show a::l≠[] by simp)];rw[if_neg]
   .simp
   .intro hc;have:=gb List.length hc;have ha:=(qU (h1 a (by simp))).2;rw[xC,List.flatten_cons,bR] at this;simp at this;omega
theorem XI (h:Gd G):∀(f m:Nat)(x:Fnd),0<=x.id->(∃e,G x.id.toNat=some e)->uU m x.ag->∀y∈wl G f x,(0<=y.id/\∃e,G y.id.toNat=some e)/\uU (m+f) y.ag
 |0,m,x,h0,he,hp,y,hy=>by
  have:y=x:=by simpa[wl] using hy
  subst this;exact⟨⟨h0,he⟩,hp⟩
 |f+1,m,x,h0,he,hp,y,hy=>by
  rw[wl] at hy;rcases bV.1 hy with rfl|hy
  .obtain⟨n,h1,h2,h3⟩:=hp;exact⟨⟨h0,he⟩,n,h1,af,h3⟩
  .obtain⟨e,hee,hy⟩:=oW.1 hy;have hid:=vx h.wf hee;have:=XI h f (m+1) ⟨dS x.ag e.name,e.id⟩ (by show 0<=e.id;omega) (h.ids _ e hee) (hp.add hid.2.2) y hy;rw[show m+(f+1)=m+1+f by omega];exact this
theorem Gd.lt (h:Gd G)(he:G k=some e):k<16:=by
 by_cases hk:k<16
 .exact hk
 .rw[h.hi k af] at he;cases he
theorem wl_len (h:Gd G){f:Nat}(hf:17<=f)(p:ay)(hp:uU 0 p):(wl G f ⟨p,0⟩).length<=144:=by
 obtain⟨r,hr,nW⟩:=h.cC;have bP:=XI h f 0 ⟨p,0⟩ (xJ 0) ⟨r,hr⟩ hp;rw[XH _ (λx hx=>by obtain⟨⟨_,e,he⟩,_⟩:=bP x hx;exact h.lt he)];have hle:∀j,cF j (wl G f ⟨p,0⟩)<=9:=λj=>by
  rw[XE];show nn G f 0 j<=9;cases hg:G j with
  |none=>rw[XG h hg f 0 ⟨r,hr⟩];omega
  |some e=>
   have:=Mo h hf j e hg;rcases h.wf j e hg with⟨_,_,_,hl⟩|⟨_,_,hl⟩<;>omega
 have:∀n,sm n (λj=>cF j (wl G f ⟨p,0⟩))<=9*n:=λn=>by
  induction n with
  |zero=>exact cy _
  |succ n ih=>rw[qZ];have:=hle n;omega
 exact this 16
theorem Mp (h:Gd G){d:Nat->Nat}(hd:∀k,∀x∈bF G k,d k<d x.id.toNat)(BD:∀k,d k<=16){kind:Nat->Int}{E:Nat->Option (List aT)}(hn:∀k e,G k=some e->k<n)(hk:∀k e,G k=some e->kind k=e.n.kind)(hE:∀k,E k=mX (G k)):
  ∀(f:Nat)(x:Fnd)(out:dx),17<=f+d x.id.toNat->0<=x.id->(∃e,G x.id.toNat=some e)->out.length+(wl G f x).length<=144->iZ n kind E f x out=(out++wl G f x,true)
 |0,x,out,hf,_,_,_=>by have:=BD x.id.toNat;omega
 |f+1,x,out,hf,h0,⟨e,he⟩,hl=>by
  rw[iZ,wl];rw[wl,dh] at hl;have hxn:=hn _ e he;have hkx:=hk _ e he;rw[if_neg]
  .rcases h.wf _ e he with⟨Dz,sP,_⟩|⟨x9,_,_⟩
   .rw[if_pos (by rw[hkx,Dz])];rw[dU he,sP];rfl
   .rw[if_neg (by rw[hkx,x9];decide),hE,xh he x9,dU he];rw[dU he] at hl;simp only;have bP:∀y∈e.es,y∈bF G x.id.toNat:=λy hy=>by rw[dU he];exact hy
    have key:∀(l:List aT)(o:dx),(∀y∈l,y∈bF G x.id.toNat)->o.length+(l.flatMap λe=>wl G f ⟨dS x.ag e.name,e.id⟩).length<=144->
      l.foldl (λr e=>if r.2=true then iZ n kind E f ⟨dS x.ag e.name,e.id⟩ r.1 else r) (o,true)=(o++l.flatMap λe=>wl G f ⟨dS x.ag e.name,e.id⟩,true):=by
     intro l;induction l with
     |nil=>intro o _ _;simp
     |cons y l ih=>
      intro o hm cX;rw[l3,bR] at cX;rw[vF];simp only[if_true];have hy:=hm y (by simp);have hid:=vx h.wf hy;have hdy:=hd _ y hy;rw[Mp h hd BD hn hk hE f ⟨dS x.ag y.name,y.id⟩ o (by show 17<=f+d y.id.toNat;omega) (by show 0<=y.id;omega) (h.ids _ y hy) af];rw[ih _ (λz hz=>hm z (by simp[hz])) (by rw[bR];omega),l3,kA]
    rw[key e.es (out++[x]) bP (by rw[bR,Au];omega)];simp
  .rw[hkx];have hkk:¬e.n.kind=0:=by rcases h.wf _ e he with⟨Dz,_⟩|⟨x9,_⟩<;>omega
   simp only[mC,cl,pG,fR,zr,lD,bR,Au];omega
theorem qY.fm {st:ak}{l q:cV}(h:qY st t G l q):(Go.Pl.fm st t).length=t.many.toNat/\∀k,(Go.Pl.fm st t).getD k bu=((G k).map (·.n)).getD bu:=by
 have hl:(Go.Pl.fm st t).length=t.many.toNat:=by unfold Go.Pl.fm;rw[vL,oE h.tr];simp
 refine⟨hl,λk=>?_⟩;have xz:=h.tr.mn;have n4:=(h.at_ k).get;by_cases hk:k<t.many.toNat
 .unfold Go.Pl.fm;rw[aY,EJ,oE h.tr,EJ,Ub hk];simp only[vE,pH];rw[n4]
 .rw[aY,rB af];rw[xg h.tr af,uH] at n4;rw[<-n4]
theorem qY.I9 {st:ak}{l q:cV}(h:qY st t G l q)(he:G k=some e):∃R,mz st (e.Q++R):=by
 have hk:=(h.lt he).2;refine⟨rq G k++cB l q,h.so.cR ?_⟩;refine(oY _ (sk G hk)).trans ?_;have e1:gq G k=e.Q:=by unfold gq;rw[he]
 rw[e1];refine List.perm_append_comm.trans ?_;rw[kA]
theorem qY.Ta {st:ak}{l q:cV}(h:qY st t G l q)(he:G k=some e):fg st e.n.aN=true:=by
 refine' za7
 .exact sj hh.tr hR
 .exact sj hh.tr hR
theorem qY.table {st:ak}{l q:cV}(h:qY st t G l q):nY st t=true:=by
 unfold nY;rw[sj h.tr h.so,xE,iM,oE h.tr];intro s hs;obtain⟨k,hk,rfl⟩:=n9.1 hs;have n4:=(h.at_ k).get;cases hg:G k with
 |none=>rw[(h.at_ k).none hg];rfl
 |some e=>
  rw[hg] at n4;rw[n4];simp only[vE];rw[h.Ta hg];simp
theorem qY.file {st:ak}{l q:cV}(h:qY st t G l q)(he:G k=some e)(hk:e.n.kind=1):kJ st e.n=true/\(bA st e.n).length<=192:=by
 refine' za7
 .refine⟨S3 hh.tr hR hh.ok hk hh.ft,?_⟩;have h1:=mW hh.tr hh.sz.1 hh.mn hh.ft;have h2:=hh.sz;omega
 .have:=hh.kd;rw[hk] at this;cases this
structure FlatB (f:Flat):Prop where
 n0:f.ad≠[]
 t0:f.ae≠[]
 nl:f.ad.length<=144
 tl:f.ae.length<=16
 nm:∀x∈f.ad,uU 146 x.ag/\0<=x.id/\x.id<=15
 th:∀x∈f.ae,0<=x.id/\x.id<=15/\x.bh.length<=192
theorem Ec {st:ak}{out:dx}:∀(L:List Nde)(k:Nat),(∀i,i<L.length->((L.getD i bu).kind≠0->k9 out (k+i)=(L.getD i bu).bE)/\((L.getD i bu).kind=1->kJ st (L.getD i bu)=true))->lb st out k L=true
 |[],k,_=>rfl
 |n::L,k,h=>by
  rw[lb,Ec L (k+1) (λi hi=>by
   have:=h (i+1) (by simp;omega);rw[Aq] at this;rw[show k+1+i=k+(i+1) by omega];exact this)]
  have:=h 0 (by simp);rw[JL,wo] at this;simp only[JG,pG,B6,zr,lD,B5];constructor
  .by_cases hk:n.kind=0
   .left;simpa using hk
   .right;rw[this.1 hk];simp
  .by_cases hk:n.kind=1
   .right;exact this.2 hk
   .left;exact hk
theorem Hq {st:ak}:∀(L:List Nde)(k:Nat),(∀i,i<L.length->(L.getD i bu).kind=1->(bA st (L.getD i bu)).length<=192)->k+L.length<=16->(gJ st k L).length<=L.length/\∀x∈gJ st k L,0<=x.id/\x.id<=15/\x.bh.length<=192
 |[],k,_,_=>by simp[gJ]
 |n::L,k,h,hl=>by
  rw[dh] at hl;obtain⟨h1,h2⟩:=Hq L (k+1) (λi hi=>by have:=h (i+1) (by simp;omega);rwa [Aq] at this) af;have h0:=h 0 (by simp);rw[JL] at h0;rw[gJ];refine⟨?_,λx hx=>?_⟩
  .rw[bR,dh];split
   .simp;omega
   .split<;>simp<;>omega
  .rcases fJ.1 hx with hx|hx
   .split at hx
    .have:x=⟨k,true,[]⟩:=by simpa using hx
     subst this;simp;omega
    .split at hx
     .rename_i hk;have:x=⟨k,false,bA st n⟩:=by simpa using hx
      subst this;have:=h0 hk;simp;omega
     .cases hx
   .exact h2 x hx
theorem wl_ne (G:Gr)(f:Nat)(x:Fnd):wl G f x≠[]:=by cases f<;>simp[wl]
theorem Ja {st:ak}(h:FS st t):∃f,Ip st t=some f/\FlatB f:=by
 obtain⟨G,l,q,hF,hG⟩:=h;obtain⟨d,hd,BD⟩:=Hp hG;obtain⟨nf,hng⟩:=hF.fm;obtain⟨r,hr,nW⟩:=hG.cC;have xz:=hF.tr.mn;have hr0:=hF.lt hr;have Vu:uU 0 [47]:=⟨[],by simp,by simp,rfl⟩;have cX:=wl_len hG (f:=146) af [47] Vu;have fb:∀k e,G k=some e->(fm st t).getD k bu=e.n:=λk e he=>by rw[hng,he];rfl
 have hwalk:walk st (fm st t) 146 ⟨[47],0⟩ []=([]++wl G 146 ⟨[47],0⟩,true):=by
  apply Mp hG hd BD
  .intro k e he;have:=hF.lt he;omega
  .intro k e he;rw[fb k e he]
  .intro k;have:=hF.bJ k;rw[hF.iY] at this;rw[hng];exact this
  .show 17<=146+_;omega
  .decide
  .exact⟨r,hr⟩
  .simpa using cX
 rw[oa] at hwalk;have bP:=XI hG 146 0 ⟨[47],0⟩ (by decide) ⟨r,hr⟩ Vu;have hgo:lb st (wl G 146 ⟨[47],0⟩) 0 (fm st t)=true:=by
  apply Ec;intro i hi;rw[ni];cases hg:G i with
  |none=>
   have:(fm st t).getD i bu=bu:=by rw[hng,hg];rfl
   rw[this];exact⟨λh=>absurd rfl h,λh=>by cases h⟩
  |some e=>
   rw[fb i e hg];refine⟨λ_=>?_,λhk=>(hF.file hg hk).1⟩;rw[<-Mo hG (f:=146) af i e hg];have:=XE G i 146 ⟨[47],0⟩;rw[show(⟨[47],0⟩:Fnd).id.toNat=0 from rfl] at this;rw[<-this];unfold k9 cF;rw[List.countP_eq_length_filter]
   congr 2
   apply List.filter_congr;intro x hx;have:=(bP x hx).1.1;rw[FF];omega
 have tW:¬(fm st t=[]\/((fm st t).headD bu).kind≠2):=by
  have h0:=fb 0 r hr;rintro(hc|hc)
  .rw[hc] at nf;simp at nf;omega
  .have:(fm st t).headD bu=r.n:=by
    rw[<-h0];cases fm st t<;>rfl
   rw[this] at hc;exact hc nW
 have Bq:lI st t=some (wl G 146 ⟨[47],0⟩):=by
  unfold lI;rw[if_neg (by rw[hF.table];simp)];simp only;rw[if_neg tW,hwalk];simp only;rw[if_pos hgo]
 refine⟨⟨wl G 146 ⟨[47],0⟩,gJ st 0 (fm st t)⟩,by unfold Ip;rw[Bq],?_⟩;obtain⟨Zz,ht2⟩:=Hq (st:=st) (fm st t) 0 (λi hi hk=>by
  cases hg:G i with
  |none=>
   have:(fm st t).getD i bu=bu:=by rw[hng,hg];rfl
   rw[this] at hk;cases hk
  |some e=>
   rw[fb i e hg] at hk⊢;exact(hF.file hg hk).2) af
 refine⟨wl_ne _ _ _,?_,cX,by show(gJ st 0 (fm st t)).length<=16;omega,λx hx=>?_,ht2⟩
 .show gJ st 0 (fm st t)≠[];have h0:=fb 0 r hr;cases hn:fm st t with
  |nil=>rw[hn] at nf;simp at nf;omega
  |cons n L=>
   rw[hn,JL] at h0;rw[gJ,h0,if_pos nW];simp
 .obtain⟨⟨h1,e,he⟩,h2⟩:=bP x hx;have:=hG.lt he;rw[ni] at h2;exact⟨h2,h1,af⟩
end Go.Pg
namespace Go.Pl
open Go Go.Ev Go.Lg Go.Proofs
theorem XJ (st:ak)(t:bX)(k:Int):jW ((iY st t k).getD bu):=by
 unfold iY;split
 .exact jW.no
 .cases h:eO (RI st t k.toNat) with
  |none=>exact jW.no
  |some n=>exact jW.of (Pg.wZ h).1
theorem A1:∀(w:List ay)(k n:Nat)(st:ak)(t:bX),(∀s∈w,s.length<=3000)->k+w.length<=16->du n st->dZ t->du (n+30*w.length) (kZ w k st t).1/\dZ (kZ w k st t).2.1
 |[],k,n,st,t,_,_,h,ht=>⟨h,ht⟩
 |s::w,k,n,st,t,hs,hk,h,ht=>by
  rw[dh] at hk;have bP:=mV (k:=k) (z:=s) h ht af (hs s (by simp));rw[kZ,dh];rcases hp:nj st t k s with⟨eI,t2,ok⟩
  rw[hp] at bP;cases ok with
  |true=>
   have:=A1 w (k+1) (n+30) eI t2 (λx hx=>hs x (by simp[hx])) af bP.1 bP.2.1;exact⟨this.1.mono af,this.2⟩
  |false=>exact⟨bP.1.mono af,ht⟩
theorem A3 {n:Nat}{st:ak}{t:bX}{z:ay}(h:du n st)(ht:dZ t):du (n+600) (km st t z).1/\dZ (km st t z).2.1:=by
 unfold km;simp only;split
 .exact⟨h.mono af,ht⟩
 .have bP:=A1 (dv (z.length+1) z) 0 n st t (λs hs=>by have:=xe _ _ s hs;omega) af h ht;rcases hp:kZ (dv (z.length+1) z) 0 st t with⟨eI,t2,ok⟩
  rw[hp] at bP;cases ok with
  |false=>exact⟨bP.1.mono af,bP.2⟩
  |true=>
   have h3:=yW (many:=((dv (z.length+1) z).length:Int)) bP.1 bP.2 af;exact⟨h3.1.mono af,h3.2.1⟩
structure su (n:Nat)(f:Fs):Prop where
 st:du n f.st
 t:dZ f.t
theorem su.mono {n m:Nat}{f:Fs}(h:su n f)(hm:n<=m):su m f:=⟨h.st.mono hm,h.t⟩
theorem su.put {n:Nat}{f:Fs}(h:su n f){k:Int}(hk:k.toNat<16)(x:Nde):su (n+30) (f.put k x):=by
 unfold Fs.put;split
 .exact h.mono af
 .have:=mV (k:=k.toNat) (z:=gf x) h.st h.t hk (by have:=xf x;omega);unfold pc;exact⟨this.1,this.2.1⟩
theorem su.aZ {n:Nat}{f:Fs}(h:su n f){k:Int}(hk:k.toNat<16)(l:List aT):su (n+630) (f.aZ k l):=by
 unfold Fs.aZ;split
 .exact h.mono af
 .have:=A3 (z:=a8 l) h.st (XJ f.st f.t k).tr;exact su.put (f:=⟨_,f.t,_⟩) ⟨this.1,h.t⟩ hk _
theorem Ed (s:St)(b:Nat)(v:SA)(f:Fs)(h:du 100000 f.st)(ht:dZ f.t)(z:ay)(hz:z.length<=90000)(hp:bf z=true)(hr:lq s b v f):bO 135 [aP b,sv z] s (tp b v) (.tuple ⟨[iv (f.bD z).1,iv (f.bD z).2]⟩):=by
 have M3:=D0.bx hr;have tk:=D0.rw hr;have tO:=D0.rf hr;have tT:=D0.la hr;have he:f.bD z=if 0<(f.bL z).2 then(0,(f.bL z).2) else if 0<=f.cZ z then(0,3) else((f.bL z).1,0):=rfl
 generalize f.bD z=r at *
 refine aO f135 ?_;(repeat' (first|refine' aX|((with_reducible apply WO.IC);exact aD;exact tI;(first|exact λs hr=>tq s _ _ _ (by assumption) (by assumption) _ af (by assumption) hr);intro _ _ _ _)|((with_reducible apply WO.IC);exact aD;exact tI;(first|exact λs hr=>pE s _ _ _ (by assumption) (by assumption) _ af (by assumption) hr);intro _ _ _ _)|refine' ar|fail))
 all_goals(refine' av)
 all_goals(first|(rw[if_pos af] at he;rw[he];rfl)|(rw[if_neg af,if_pos af] at he;rw[he];rfl)|(rw[if_neg af,if_neg af] at he;rw[he];rfl))
section
variable {E:dy}{X:dM}{Γ:gY}{l:Kn}{L R:bn}{K:KO}{g:FuncId}{xs:List Operand}{ts:Array TypeId}{vs:aQ}{v:SA}{f f':Fs}{b:Nat}{r:Value}
theorem WO.zW (hx:ky l xs vs)(h:∀v s,ml E X g vs s b v f f' r)(hp:oz (j5 b v f) L R)(k:∀m m' v',kb L m->m<=m'->K r (j5 b v' f'++R) m m' (λi=>i∈([]:List Nat)\/i∈(j5 b v f).flatMap It.aS\/(m<=i/\i<m')) (λi=>i∈(j5 b v f).flatMap It.aS\/(m<=i/\i<m'))):WO E X Γ l (.call ⟨.value (.func g),⟨xs⟩,ts⟩) L K:=WO.callF hx (h v) hp k
theorem WO.vi (hx:ky l xs vs)(h:∀s,lq s b v f->pW E X g vs s (tp b v) r)(hh:KD Γ L b v f)(k:∀m m',kb L m->m<=m'->K r L m m' (λi=>i∈tp b v\/i∈([]:bn).flatMap It.aS\/(m<=i/\i<m')) (λi=>i∈([]:bn).flatMap It.aS\/(m<=i/\i<m'))):WO E X Γ l (.call ⟨.value (.func g),⟨xs⟩,ts⟩) L K:=WO.IC hx hh h k
theorem WO.KV {α:Type}{sz:Nat}{enc:c9 α sz}{e:TypeId}{p:List α}(hx:ky l xs vs)(h:∀s,lq s b v f->fa E X g vs s (tp b v) e p)(hh:KD Γ L b v f)(k:∀m m' a c,kb L m->m<=m'->K (.slice a p.length c) (.aJ (.slice a p.length c) e sz (ah (sz:=sz) p)::L) m m' (λi=>i∈tp b v\/i∈([]:bn).flatMap It.aS\/(m<=i/\i<m')) (λi=>i∈([]:bn).flatMap It.aS\/(m<=i/\i<m'))):WO E X Γ l (.call ⟨.value (.func g),⟨xs⟩,ts⟩) L K:=WO.Qw hx hh h k
theorem WO.V8 {a:aH}{n sz:Nat}{cs:aQ}(hx:ky l xs vs)(h:∀v s,bM s a n sz cs->(∀i∈ai a,i∉(j5 b v f).flatMap It.aS)->fI E X g vs s (j5 b v f) (ai a) λR L=>∃v':SA,R=r/\L=j5 b v' f')(hp:oz (j5 b v f) L R)(hh:jR Γ R a n sz cs)(k:∀m m' v',kb L m->m<=m'->K r (j5 b v' f'++R) m m' (λi=>i∈ai a\/i∈(j5 b v f).flatMap It.aS\/(m<=i/\i<m')) (λi=>i∈(j5 b v f).flatMap It.aS\/(m<=i/\i<m'))):WO E X Γ l (.call ⟨.value (.func g),⟨xs⟩,ts⟩) L K:=
 WO.call (Lm:=j5 b v f) (R:=R) hx hp.cR (λs hi=>(hh.row (hi.cR hp.cR|>.sub ⟨R,.refl _,np _ _⟩)).2) (λs hi=>h v s (hh.row (hi.cR hp.cR|>.sub ⟨R,.refl _,np _ _⟩)).1 (jR.apart hh (hi.cR hp.cR))) (by rintro r' L' m m' ho hm ⟨v',rfl,rfl⟩;exact k m m' v' ho hm)
theorem WO.callRO {a:aH}{n c RO e':Nat}{cs:aQ}{α:Type}{sz:Nat}{enc:c9 α sz}{e:TypeId}{p:List α}(hx:ky l xs vs)(hm:It.aJ (.slice a n c) e' RO cs∈L)(h:∀s,bM s a n RO cs->E0 s a n c e' RO->fa E X g vs s (ai a) e p)(k:∀m m' a' c',kb L m->m<=m'->K (.slice a' p.length c') (.aJ (.slice a' p.length c') e sz (ah (sz:=sz) p)::L) m m' (λi=>i∈ai a\/i∈([]:bn).flatMap It.aS\/(m<=i/\i<m')) (λi=>i∈([]:bn).flatMap It.aS\/(m<=i/\i<m'))):WO E X Γ l (.call ⟨.value (.func g),⟨xs⟩,ts⟩) L K:=
 WO.Ku hx (λs hi=>by
   have h1:=(jR.aJ (Γ:=Γ) hm).row hi;exact⟨h1.2,h s h1.1 (yh.slv (hi.it _ hm) λb hb=>(h1.2 b hb).1)⟩) k
end
theorem nT (s:St)(b:Nat)(v:SA)(f:Fs)(h:su 60000 f)(k:Nat)(hk:k<16)(a:aH)(c:Nat)(p:List aT)(hp:p.length<=20)(hn:∀e∈p,e.name.length<=1000/\0<=e.id/\e.id<=1000)(hr:bM s a p.length 2 (ah p))(hm:∀i∈ai a,i∉(j5 b v f).flatMap It.aS):
  AJ 139 [aP b,iv k,.slice a p.length c] s (j5 b v f) (ai a) λR L=>∃v':SA,R= .tuple ⟨[]⟩/\L=j5 b v' (f.aZ k p):=by
 have hd:Rd ⟨s,(j5 b v f).flatMap It.aS,ai a⟩ a p.length 2 (ah p):=⟨hr,λb hb=>hb,hm⟩;have ji:=h.st.mono (show 60000<=100000 by omega);have ht:=h.t;have hn3:∀e∈p,e.name.length<=3000/\0<=e.id/\e.id<=1000000000:=λe he=>by have:=hn e he;omega
 have tW:=XJ f.st f.t k;have cX:(a8 p).length<=50000:=by
  have:∀(l:List aT),(∀e∈l,e.name.length<=1000/\0<=e.id/\e.id<=1000)->(a8 l).length<=l.length*1100:=by
   intro l;induction l with
   |nil=>intro _;simp[a8]
   |cons x l ih=>
    intro hl;have h1:=ih λe he=>hl e (by simp[he])
    have h2:=hl x (by simp);have h3:(dec x.id).length<=10:=nP x.id af;have:a8 (x::l)=(x.name++61::(dec x.id++[59]))++a8 l:=rfl;rw[this,bR,bR,dh,bR,dh];simp only[dh,mD];omega
  have:=this p hn;omega
 have hw:f.aZ k p=if f.cK then f else match km f.st (f.node k).aN (a8 p) with
  |(st,t,ok)=>Fs.put ⟨st,f.t,!ok⟩ k {f.node k with aN:=t,size:=(a8 p).length}:=rfl
 have bP:=A3 (z:=a8 p) h.st tW.tr;rcases S1:km f.st (f.node k).aN (a8 p) with⟨eI,t2,ok⟩
 rw[show km f.st ((iY f.st f.t k).getD bu).aN (a8 p)=_ from S1] at bP;have hput9:∀(dI:SA) s,eP aU aW 179 [fF dI f.st,tv (f.node k).aN,sv (a8 p)] s [] dI f.st eI true (Bp t2 ok):=λdI s=>by
  have:=Xp s dI f.st (h.st.mono af) (f.node k).aN tW.tr (a8 p) cX;rw[S1] at this;exact this
 have dK:∀(dI:SA) s,ml aU aW 138 [aP b,iv k,nv {f.node k with aN:=t2,size:=(a8 p).length}] s b dI ⟨eI,f.t,!ok⟩ (Fs.put ⟨eI,f.t,!ok⟩ k {f.node k with aN:=t2,size:=(a8 p).length}) (.tuple ⟨[]⟩):=λdI s=>
  si s b dI ⟨eI,f.t,!ok⟩ (bP.1.mono af) ht k hk _
 rw[S1] at hw;simp only at hw;generalize Fs.put ⟨eI,f.t,!ok⟩ k {f.node k with aN:=t2,size:=(a8 p).length}=f2 at *
 refine aO f139 ?_;dsimp only[j5,eM];cases hf:f.cK with
 |true=>
  rw[hf] at hw;rw[hw,if_pos rfl];(refine' cO)
  refine mw (v':=v) bB bj aq rfl
 |false=>
  rw[hf] at hw;rw[hw,if_neg (by decide)];(repeat' (first|refine' aX|refine' V5|refine' zc19|((with_reducible apply WO.mQ);exact aD;(first|exact λs=>hput9 _ s);exact eu;intro _ _ v_l9PutW _ _ k_l9PutW)|refine' GF|refine' ar|fail))
  all_goals try exact pb
  all_goals refine mw (v':=ph) bB bj aq rfl
theorem XK {l:List aT}(h:bz l=true):l.length<=12/\∀e∈l,e.name.length<=1000/\0<=e.id/\e.id<=1000:=by
 unfold bz at h;simp only[cv,iM,cl,fR] at h;refine⟨h.2,λe he=>?_⟩;have h1:=h.1.1 e he;have h2:e.name.length<=4:=by
  have:=h1.1;unfold bT at this;simp only[cv,cl,fR] at this;omega
 omega
theorem uV (f:Fs)(k:Int):(f.bF k).length<=12/\∀e∈f.bF k,e.name.length<=1000/\0<=e.id/\e.id<=1000:=by
 unfold Fs.bF;cases h:bJ f.st (f.node k) with
 |none=>simp
 |some l=>
  refine' zag
  exact XK fZ
theorem zc {l:List aT}{x:aT}{n:Nat}(h:l.length<=n/\∀e∈l,e.name.length<=1000/\0<=e.id/\e.id<=1000)(hx:x.name.length<=1000/\0<=x.id/\x.id<=1000):(gu l x).length<=n+1/\∀e∈gu l x,e.name.length<=1000/\0<=e.id/\e.id<=1000:=by
 refine⟨by rw[Pg.Mf];omega,λe he=>?_⟩;rcases Pg.mZ.1 he with rfl|he
 .exact hx
 .exact h.2 e he
theorem Tb {l:List aT}{i:Nat}{n:Nat}(h:l.length<=n/\∀e∈l,e.name.length<=1000/\0<=e.id/\e.id<=1000):(er l i).length<=n/\∀e∈er l i,e.name.length<=1000/\0<=e.id/\e.id<=1000:=
 ⟨ku (Pg.jf l i).length_le h.1,λe he=>h.2 e ((Pg.jf l i).subset he)⟩
abbrev cj (a:aH)(c:Nat)(p:dx):It:=.aJ (.slice a p.length c) 70 2 (ah p)
abbrev Ee (E:dy)(X:dM)(f:FuncId)(vs:aQ)(s:St)(v:SA)(an:aH)(a:aH)(c:Nat)(p q:dx)(ok:Bool):Prop:=fI E X f vs s [cj a c p] (im v++ai an) λR L=>∃a' c',R= .tuple ⟨[.slice a' q.length c',.bool ok]⟩/\L=[.aJ (.slice a' q.length c') 70 2 (ah q)]
section
variable {E:dy}{X:dM}{Γ:gY}{l:Kn}{L R:bn}{K:KO}{g:FuncId}{xs:List Operand}{ts:Array TypeId}{vs:aQ}{v:SA}{st:ak}{a an:aH}{c nn:Nat}{p q:dx}{ok:Bool}{csn:aQ}
theorem WO.V6 (hx:ky l xs vs)(h:∀s,cJ s v st->bM s an nn 10 csn->(∀i∈im v++ai an,i∉[cj a c p].flatMap It.aS)->Ee E X g vs s v an a c p q ok)(hp:oz [cj a c p] L R)(hh:qQ Γ R v st)(hn:jR Γ R an nn 10 csn)
  (k:∀m m' a' c',kb L m->m<=m'->K (.tuple ⟨[.slice a' q.length c',.bool ok]⟩) (.aJ (.slice a' q.length c') 70 2 (ah q)::R) m m' (λi=>i∈im v++ai an\/i∈[cj a c p].flatMap It.aS\/(m<=i/\i<m')) (λi=>i∈[cj a c p].flatMap It.aS\/(m<=i/\i<m'))):WO E X Γ l (.call ⟨.value (.func g),⟨xs⟩,ts⟩) L K:=by
 have jO:∀{s},Inv Γ s L->Inv Γ s R:=λhi=>hi.cR hp.cR|>.sub ⟨R,.refl _,np _ _⟩
 refine WO.call (Lm:=[cj a c p]) (R:=R) (A:=im v++ai an) hx hp.cR (λs hi b hb=>?_) (λs hi=>h s (hh.row (jO hi)).1 (hn.row (jO hi)).1 λi tG=>?_) (by rintro r L' m m' ho hm ⟨a',c',rfl,rfl⟩;exact k m m' a' c' ho hm)
 .rcases fJ.1 hb with hb|hb
  .exact(hh.row (jO hi)).2 b hb
  .exact(hn.row (jO hi)).2 b hb
 .have hip:=hi.cR hp.cR;rcases fJ.1 tG with hb|hb
  .rcases fJ.1 hb with hb|hb
   .exact jR.apart hh.r hip i hb
   .rcases fJ.1 hb with hb|hb
    .exact jR.apart hh.f hip i hb
    .exact jR.apart hh.l hip i hb
  .exact jR.apart hn hip i hb
theorem XL {rs:List ResultVar}{x:Ex}{a':aH}{c':Nat}(hx:x= .normal\/x= .ret)(hr:pV E l L rs [.slice a' q.length c',.bool ok])(hL:cr [.aJ (.slice a' q.length c') 70 2 (ah q)] L):
  ux E rs (λR L=>∃a' c',R= .tuple ⟨[.slice a' q.length c',.bool ok]⟩/\L=[.aJ (.slice a' q.length c') 70 2 (ah q)]) x l L:=⟨hx,_,_,hr,hL,a',c',rfl,rfl⟩
end
theorem ent_b4 {st:ak}{n:Nde}{l:List aT}(h:bJ st n=some l):l.length<=12/\∀e∈l,e.name.length<=4:=by
 refine' zag
 unfold bz at fZ;simp only[cv,iM,cl,fR] at fZ;refine⟨fZ.2,λe he=>?_⟩;have:=(fZ.1.1 e he).1;unfold bT at this;simp only[cv,cl] at this;omega
theorem xn {n:Nat}{kind:Nat->Int}{E:Nat->Option (List aT)}{f:Nat}{x:Fnd}(l:List aT)(o:dx):l.foldl (λr e=>if r.2 then iZ n kind E f ⟨dS x.ag e.name,e.id⟩ r.1 else r) (o,false)=(o,false):=by
 induction l with
 |nil=>rfl
 |cons e l ih=>rw[vF];exact ih
theorem Ef {n:Nat}{kind:Nat->Int}{E:Nat->Option (List aT)}:∀(f:Nat)(x:Fnd)(out:dx),(iZ n kind E f x out).2=true->out.length<(iZ n kind E f x out).1.length/\(iZ n kind E f x out).1.length<=144
 |0,x,out,h=>by cases h
 |f+1,x,out,h=>by
  rw[iZ] at h⊢;try simp only at h⊢
  split at h
  .cases h
  .rename_i hc;rw[if_neg hc];have hl:(out++[x]).length<=144:=by
    simp only[mC,cl,not_or] at hc;omega
   have tF:out.length<(out++[x]).length:=by rw[bR];simp
   split at h
   .rename_i h1;rw[if_pos h1];exact⟨tF,hl⟩
   .rename_i h1;rw[if_neg h1];cases he:E x.id.toNat with
    |none=>rw[he] at h;cases h
    |some l=>
     rw[he] at h;simp only at h⊢;have XM:∀(l:List aT)(o:dx),(l.foldl (λr e=>if r.2 then iZ n kind E f ⟨dS x.ag e.name,e.id⟩ r.1 else r) (o,true)).2=true->o.length<=144->o.length<=(l.foldl (λr e=>if r.2 then iZ n kind E f ⟨dS x.ag e.name,e.id⟩ r.1 else r) (o,true)).1.length/\(l.foldl (λr e=>if r.2 then iZ n kind E f ⟨dS x.ag e.name,e.id⟩ r.1 else r) (o,true)).1.length<=144:=by
      intro l;induction l with
      |nil=>intro o _ ho;exact⟨cy _,ho⟩
      |cons e l ih=>
       refine' za0
       rw[hw] at hb;cases b2 with
       |false=>rw[xn] at hb;cases hb
       |true=>
        have h3:=Ef f ⟨dS x.ag e.name,e.id⟩ o (by rw[hw]);rw[hw] at h3;have h4:=ih o2 hb h3.2;exact⟨by have:=h3.1;have:=h4.1;simp only at *;omega,h4.2⟩
     have h5:=XM l _ h hl;exact⟨af,h5.2⟩
theorem OQ (st:ak)(h:du 100000 st)(ns:List Nde)(tW:ns.length<=16)(v:SA)(an:aH)(cn:Nat):∀(f:Nat)(x:Fnd)(out:dx)(a:aH)(c:Nat)(s:St),out.length<=144->146<=f+out.length->x.ag.length+5*f<=1000->
  cJ s v st->bM s an ns.length 10 (ah ns)->(∀i∈im v++ai an,i∉[cj a c out].flatMap It.aS)->Ee aU aW 101 [fF v st,.slice an ns.length cn,.agg ⟨[sv x.ag,iv x.id]⟩,.slice a out.length c] s v an a c out (walk st ns f x out).1 (walk st ns f x out).2:=by
 intro f;induction f with
 |zero=>intro x out a c s h1 h2;omega
 |succ f ih=>
  intro x out a c s h1 h2 h3 hr hn hm;have tk:Rd ⟨s,[cj a c out].flatMap It.aS,im v++ai an⟩ v.r 64 1 (ah st.ep):=⟨hr.r,λb hb=>di _ (GS hb),λb hb=>hm b (di _ (GS hb))⟩;have tO:Rd ⟨s,[cj a c out].flatMap It.aS,im v++ai an⟩ v.f 64 1 (ah st.aV):=⟨hr.f,λb hb=>di _ (GU hb),λb hb=>hm b (di _ (GU hb))⟩;have tT:Rd ⟨s,[cj a c out].flatMap It.aS,im v++ai an⟩ v.l 64 1 (ah st.dq):=⟨hr.l,λb hb=>di _ (GV hb),λb hb=>hm b (di _ (GV hb))⟩;have oK:Rd ⟨s,[cj a c out].flatMap It.aS,im v++ai an⟩ an ns.length 10 (ah ns):=⟨hn,λb hb=>dH _ hb,λb hb=>hm b (dH _ hb)⟩;have hw:walk st ns (f+1) x out=if 144<(out++[x]).length||!fR x.id 0 (ns.length-1)||decide ((ns.getD x.id.toNat bu).kind=0) then(out++[x],false) else
   if(ns.getD x.id.toNat bu).kind=1 then(out++[x],true) else
   match bJ st (ns.getD x.id.toNat bu) with
   |none=>(out++[x],false)
   |some l=>l.foldl (λr e=>if r.2 then iZ ns.length (λi=>(ns.getD i bu).kind) (λi=>bJ st (ns.getD i bu)) f ⟨dS x.ag e.name,e.id⟩ r.1 else r) (out++[x],true):=rfl
  generalize walk st ns (f+1) x out=Y at *
  rw[bR,Au] at hw;have cX:(out++[x]).length=out.length+1:=by rw[bR];rfl
  have hnd0:(bu:Nde)=c9.lW (α:=Nde):=rfl;rw[hnd0] at hw;by_cases hC:144<out.length+1\/¬(0<=x.id/\x.id<=(ns.length:Int)-1)\/(ns.getD x.id.toNat c9.lW).kind=0
  .rw[if_pos (by simp only[fR,mC,cl,pG,zr,lD];omega)] at hw;subst hw;refine aO f101 ?_;dsimp only[cj];(refine' zb2)
   all_goals try exact pb
   all_goals exact XL bB bj aq
  .have hC1:out.length+1<=144:=by omega
   have hC2:0<=x.id/\x.id<=(ns.length:Int)-1:=by omega
   have hC3:(ns.getD x.id.toNat c9.lW).kind≠0:=λh=>hC (.inr (.inr h))
   rw[if_neg (by simp only[fR,mC,cl,pG,zr,lD];omega)] at hw;clear hC;by_cases hK:(ns.getD x.id.toNat c9.lW).kind=1
   .rw[if_pos hK] at hw;subst hw;refine aO f101 ?_;dsimp only[cj];(refine' zb2)
    all_goals first|(exfalso;omega;done)|contradiction|(exfalso;simp only[zr,lD] at tR;omega)|skip
    all_goals exact XL bB bj aq
   .rw[if_neg hK] at hw;obtain⟨es,okb,sP,hW,zF,hb4⟩:∃(es:List aT)(okb:Bool),(∀s,cJ s v st->ke aU aW 152 [fF v st,nv (ns.getD x.id.toNat c9.lW)] s (im v) 186 es okb)/\
                         Y=es.foldl (λr e=>if r.2 then iZ ns.length (λi=>(ns.getD i c9.lW).kind) (λi=>bJ st (ns.getD i c9.lW)) f ⟨dS x.ag e.name,e.id⟩ r.1 else r) (out++[x],okb)/\es.length<=12/\∀e∈es,e.name.length<=4:=by
     refine⟨(bJ st (ns.getD x.id.toNat c9.lW)).getD [],(bJ st (ns.getD x.id.toNat c9.lW)).isSome,λs hr=>lK s v st h _ hr,?_,?_⟩
     .rw[hw];cases bJ st (ns.getD x.id.toNat c9.lW)<;>rfl
     .cases he:bJ st (ns.getD x.id.toNat c9.lW) with
      |none=>simp
      |some l=>exact ent_b4 he
    clear hw;have hwk:∀x' o,iZ ns.length (λi=>(ns.getD i c9.lW).kind) (λi=>bJ st (ns.getD i c9.lW)) f x' o=walk st ns f x' o:=λ_ _=>rfl
    have hle:∀x' o,(walk st ns f x' o).2=true->o.length<(walk st ns f x' o).1.length/\(walk st ns f x' o).1.length<=144:=λx' o=>Ef f x' o
    have hF0:∀(l:List aT)(o:dx),l.foldl (λr e=>if r.2 then iZ ns.length (λi=>(ns.getD i c9.lW).kind) (λi=>bJ st (ns.getD i c9.lW)) f ⟨dS x.ag e.name,e.id⟩ r.1 else r) (o,false)=(o,false):=λl o=>xn l o
    have xA:∀(e:aT)(o:dx),(λ(r:dx×Bool) (e:aT)=>if r.2 then iZ ns.length (λi=>(ns.getD i c9.lW).kind) (λi=>bJ st (ns.getD i c9.lW)) f ⟨dS x.ag e.name,e.id⟩ r.1 else r) (o,true) e=walk st ns f ⟨dS x.ag e.name,e.id⟩ o:=λ_ _=>rfl
    generalize(λ(r:dx×Bool) (e:aT)=>if r.2 then iZ ns.length (λi=>(ns.getD i c9.lW).kind) (λi=>bJ st (ns.getD i c9.lW)) f ⟨dS x.ag e.name,e.id⟩ r.1 else r)=F at *
    refine aO f101 ?_;dsimp only[cj];(repeat' (first|refine' aX|refine' M1|((with_reducible apply WO.ta);exact aD;(first|exact λs hr=>sP s hr);exact ez;intro _ _ rn rp _ _)|refine' ar|fail))
    all_goals first|(exfalso;omega;done)|contradiction|(exfalso;simp only[zr,lD] at tR;omega)|skip
    refine W.bH (λk l L=>∃(i:Nat)(o:dx)(ok:Bool)(a3:aH)(c3 b4 b6:Nat),Le [(1,.slice an ns.length cn),(3,.slice a3 o.length c3),(4,aP b4),(6,aP b6),(10,.slice rn es.length rp),(11,.bool ok),(12,iv (i:Int))] l/\cr [.aJ (.slice a3 o.length c3) 70 2 (ah o),.box b4 (rz v st) 58 false,.box b6 [sv x.ag,iv x.id] 70 false,.aJ (.slice rn es.length rp) 186 2 (ah es)] L/\k=es.length-i/\i<=es.length/\(ok=true->o.length<=144/\out.length+1<=o.length)/\Y=(es.drop i).foldl F (o,ok))
     (λl L=>∃(o:dx)(ok:Bool)(a3:aH)(c3:Nat),Le [(3,.slice a3 o.length c3),(11,.bool ok)] l/\cr [.aJ (.slice a3 o.length c3) 70 2 (ah o)] L/\Y=(o,ok)) _ ⟨0,out++[x],okb,_,_,_,_,bd,aq,rfl,af,λ_=>by omega,hW⟩ ?_ ?_
    .rintro k l L ⟨i,o,ok,a3,c3,b4,b6,hl,hL,rfl,g1,g2,g3⟩;refine W.le ?_ hl hL;clear hl hL;by_cases hi:i<es.length
     .cases ok with
      |false=>
       (refine' cO)
       all_goals try refine cI
       all_goals exact⟨o,false,a3,c3,bd,aq,by rw[g3,hF0]⟩
      |true=>
       obtain⟨g4,g5⟩:=g2 rfl;have nf:=hb4 _ (aF hi c9.lW);rw[drop_cons hi,vF,xA] at g3;generalize hP:dS x.ag (es.getD i c9.lW).name=P at *
       have hPl:P.length<=x.ag.length+5:=by
        rw[<-hP];unfold dS;split<;>simp only[bR,dh]<;>omega
       have hrec:∀a c s,cJ s v st->bM s an ns.length 10 (ah ns)->(∀i∈im v++ai an,i∉[cj a c o].flatMap It.aS)->Ee aU aW 101 [fF v st,.slice an ns.length cn,.agg ⟨[sv P,iv (es.getD i c9.lW).id]⟩,.slice a o.length c] s v an a c o (walk st ns f ⟨P,(es.getD i c9.lW).id⟩ o).1 (walk st ns f ⟨P,(es.getD i c9.lW).id⟩ o).2:=λa c s hr hn hm=>ih ⟨P,(es.getD i c9.lW).id⟩ o a c s g4 af (by show P.length+5*f<=1000;omega) hr hn hm
       have tF:=hle ⟨P,(es.getD i c9.lW).id⟩ o;generalize walk st ns f ⟨P,(es.getD i c9.lW).id⟩ o=W2 at *
       obtain⟨o2,ok2⟩:=W2;by_cases Oc:x.ag=[47]
       .have hP:[47]++(es.getD i c9.lW).name=P:=by rw[<-hP,Oc];rfl
        subst hP;(repeat' (first|refine' aX|refine' zc147|refine' ar|fail))
        all_goals try refine cI
        all_goals refine' za4
       .have hP:(x.ag++[47])++(es.getD i c9.lW).name=P:=by rw[<-hP];unfold dS;rw[if_neg Oc,kA];rfl
        subst hP;(repeat' (first|refine' aX|refine' zc147|refine' ar|fail))
        all_goals try refine cI
        all_goals refine' za4
     .have fG:i=es.length:=by omega
      subst fG;rw[ig] at g3;(refine' cO)
      all_goals try refine cI
      all_goals exact⟨o,ok,a3,c3,bd,aq,g3⟩
    .rintro l L ⟨o,ok,a3,c3,hl,hL,g3⟩;refine aj ?_;refine W.le ?_ hl hL;(refine' cO)
     rw[g3];all_goals exact XL bB bj aq
end Go.Pl
