/- Lemmas of the proof. No conditions. -/
import Derived.Test.YtajgfdfbnhchcaaGreatDoorAd7
set_option maxRecDepth 100000
set_option maxHeartbeats 4000000
set_option linter.unusedVariables false
set_option linter.unusedSimpArgs false
open Go.Proofs.Tryz
namespace Go
theorem zaa{P:Prop}(h:P:=by
 have B3:=sP f.ad i (av (f.ad.getD i ak.ah).af).1;have B4:=sQ f.ad i (f.ad.getD i ak.ah).id;rw[<-g2.nE] at B3;rw[<-g2.li] at B4;have Ru:((i:Int)-1).toNat=i-1:=by omega
 have EW:=lQ ht;have ku:∀s b,iQ s b a c f.ad a' c' f.ae->bP 30 [bc b,iv (f.ad.getD i ak.ah).id] s (qN b a a') (de a' t 3 0):=λs b hr=>by
  have:=fT s b a c f.ad a' c' f.ae hs ag (f.ad.getD i ak.ah).id hr;rw[ht] at this;exact this
 all_goals(rcases(_:_)with h;exact h)):P:=h
theorem zac{P:Prop}(h:P:=by
 obtain⟨hf,hr,hs,hi,g2⟩:=h;intro Q hQ;unfold PG JM JN;refine W.ur rfl rfl ?_;have oR:=fN.n hr;have qI:=fN.t hr;have pz:=hf.tl;have nC:=hf.nl;have hx:=(hf.nm _ (aJ hi ak.ah)).1;have Cd:=hx.1;have kK:=fW (f.ad.getD i ak.ah).af;have Pu:∀ch∈(av (f.ad.getD i ak.ah).af).2,ch.toNat<128:=λch dS=>hx.2.1 ch (fV _ ch dS)
 all_goals(rcases(_:_)with h;exact h)):P:=h
theorem zad{P:Prop}(h:P:=by
 have Cu:=gz (f.ad.getD ((i:Int)-1).toNat ak.ah).af (f.ad.getD i ak.ah).af;rw[c1] at Cu;clear hr hf hs g2;(refine' sA)
 all_goals try refine NH
 all_goals(rcases(_:_)with h;exact h)):P:=h
theorem zae{P:Prop}(h:P:=by
 all_goals try refine cM
 all_goals(refine qK (v':=v) bB bn au ?_ (λhc=>(by cases hc));rfl)
 all_goals(rcases(_:_)with h;exact h)):P:=h
theorem zaf{P:Prop}(h:P:=by
 rw[tE] at hB;(repeat' (first|refine' a7|refine' NI|refine' W8|refine' aw|fail))
 all_goals try refine cM
 all_goals first
  |(refine⟨_,ag,i+1,_,bk,au,rfl,ag,λj hj=>?_⟩;rcases Qd.1 hj with h|h;exact g2 j h;subst h;rw[hB];clear ru JJ g2 hf hr oR qI hB hx h3 SG h2;generalize f.ae.getD j ak.ah=x at *;(try simp only[show((j:Int)-1).toNat=j-1 by omega] at *);generalize f.ae.getD (j-1) ak.ah=y at *;simp[*]<;>(intros;first|omega|(exfalso;omega));done)
  |(have hz:f.kA=false:=JJ (by(rw[hB];clear ru JJ g2 hf hr oR qI hB hx h3 SG h2;generalize f.ae.getD i ak.ah=x at *;(try simp only[show((i:Int)-1).toNat=i-1 by omega] at *);generalize f.ae.getD (i-1) ak.ah=y at *;simp[*]<;>(intros;first|omega|(exfalso;omega)|(exfalso;have hq:x.aW.length=0:=(by have h5:x.aW=[]:=(by assumption);rw[h5];rfl);omega));done))
    rw[hz];(refine' ax);rfl)
 all_goals(rcases(_:_)with h;exact h)):P:=h
theorem zaq{P:Prop}(h:P:=by
 have Cu:=gz (f.ad.getD ((i:Int)-1).toNat ak.ah).af (f.ad.getD i ak.ah).af;clear hr hf hs g2;(refine' sA)
 all_goals try refine NH
 all_goals(rcases(_:_)with h;exact h)):P:=h
theorem zas{P:Prop}(h:P:=by
 have e:gJ o=(let two:=decide (o.kind=6)||decide (o.kind=7)
   let at2:=decide (o.kind=3)||decide (o.kind=4)
   if !fR o.kind 1 7||!aT o.af||(two&&!aT o.to)||(!two&&decide (o.to≠[])) then false
   else if(decide (o.kind≠3)&&decide (o.aW≠[]))||decide (24<o.aW.length) then false
   else decide (o.at_=0)||(at2&&fR o.at_ 0 192)):=rfl
 all_goals(rcases(_:_)with h;exact h)):P:=h
theorem zat{P:Prop}(h:P:=by
 have nU:∀dI a c s,bO s a wI.length 2 (ai wI)->(∀j∈aj a,j∉(kg b dI f1).flatMap It.aY)->Bi 158 [bc b,iv at_,.slice a wI.length c] s (kg b dI f1) (aj a) λR L=>∃v':SA,R= .tuple ⟨[]⟩/\L=kg b v' (Fs.bf f1 at_ wI):=λdI a c s hr hm=>
  om s b dI f1 (Ce.mono ag) at_ nJ a c wI ag kK.2 hr hm
 generalize Fs.bf f1 at_ wI=f2 at *
 all_goals(rcases(_:_)with h;exact h)):P:=h
theorem zau{P:Prop}(h:P:=by
 obtain⟨⟨eL,t2,cC⟩,code⟩:=r;simp only at iX mD;by_cases M9:code=0
 all_goals(rcases(_:_)with h;exact h)):P:=h
theorem zaz{P:Prop}(h:P:=by
 all_goals try refine cM
 all_goals refine mP (v':=v) bB bn au rfl
 all_goals(rcases(_:_)with h;exact h)):P:=h
theorem zaE{P:Prop}(h:P:=by
 all_goals try refine cM
 all_goals refine mP (v':=jm) bB bn au rfl
 all_goals(rcases(_:_)with h;exact h)):P:=h
theorem zaI{P:Prop}(h:P:=by
 obtain⟨l1,q1,ya⟩:=EL (e:=en) NM hid UD Oh;have e4':gI G id (some en) at_=some e:=by rw[fM _ _ nJ];exact e4
 have jC:=dV e4;have tg:bz e.es=true:=by have:=pG hG.wf at_;rwa [jC] at this
 all_goals(rcases(_:_)with h;exact h)):P:=h
theorem zaK{P:Prop}(h:P:=by
 have iX:eT st t o=(eL,t2,0):=iX;rw[iX];refine aU f76 ?_;dsimp only[eO];(refine' Ha)
 all_goals try refine cM
 all_goals(refine qK (v':=wM) bB bn au ?_ (λhc=>(by cases hc));rfl)
 all_goals(rcases(_:_)with h;exact h)):P:=h
theorem zaT{P:Prop}(h:P:=by
 simp only;generalize Fs.put ⟨eL,t,!ok⟩ k n2=f2 at *
 have ha2:0<=o.at_/\o.at_<=192:=by omega
 have h32:¬192<o.at_+(o.aW.length:Int):=by omega
 all_goals(rcases(_:_)with h;exact h)):P:=h
theorem zaZ{P:Prop}(h:P:=by
 intro o hb ho;rw[wi] at hb⊢;simp only[if_true] at hb⊢;rcases hw:jk n kind E f ⟨dU x.af e.name,e.id⟩ o with⟨o2,b2⟩
 all_goals(rcases(_:_)with h;exact h)):P:=h
theorem za3{P:Prop}(h:P:=by
 all_goals try refine cM
 exact⟨_,ag,i+1,o2,ok2,_,_,_,_,bk,au,rfl,ag,λhh=>by have:=tZ hh;dsimp only at this;omega,g3⟩
 all_goals(rcases(_:_)with h;exact h)):P:=h
theorem za4{P:Prop}(h:P:=by
 have:=lK s b v ⟨st,t,false⟩ tc ht at_ ag hr;rwa [jC] at this
 all_goals(rcases(_:_)with h;exact h)):P:=h
theorem za5{P:Prop}(h:P:=by
 have nJ:at_≠k:=λhc=>by
  have:Pg.bH G at_=[]:=by rw[hc];exact IB
  rw[Pg.dV p3] at this;rw[this] at p6;simp at p6
 all_goals(rcases(_:_)with h;exact h)):P:=h
theorem za6{P:Prop}(h:P:=by
 obtain⟨R,hR⟩:=h.JF he;obtain⟨ln,qn,hq,hh⟩:=((h.at_ k).some he).2;rw[hq] at hR;rcases hh with⟨_,hh⟩|hh
 all_goals(rcases(_:_)with h;exact h)):P:=h
theorem zbb{P:Prop}(h:P:=by
 have hzz:(ir ((a:Int)-((bA st n).length:Int))).length=a-(bA st n).length:=by unfold ir;rw[ry];omega
 all_goals(rcases(_:_)with h;exact h)):P:=h
theorem zbc{P:Prop}(h:P:=by
 have Qw:Rd ⟨s,([]:bE).flatMap It.aY,aj a++aj a'⟩ a' q.length 3 (ai q):=Rd.of h2 λ_ hb=>dz _ hb
 all_goals(rcases(_:_)with h;exact h)):P:=h
end Go
namespace Go.Pg
open Go.Pl
section
variable {l:List aZ}{x e:aZ}{s:aA}{i j:Nat}{st:ar}{t:bX}{G:Gr}{q:cW}
theorem zv:∀s:aA,bL s s=false
 |[]=>rfl
 |a::s=>by unfold bL;rw[if_neg ag,if_neg ag];exact zv s
theorem eU:∀{a b c:aA},bL a b=true->bL b c=true->bL a c=true
 |[],[],_,h,_=>by cases h
 |[],_::_,[],_,h=>by cases h
 |[],_::_,_::_,_,_=>rfl
 |_::_,[],_,h,_=>by cases h
 |_::_,_::_,[],_,h=>by cases h
 |x::a,y::b,z::c,h,k=>by
  unfold bL at h k⊢;split at h
  .split at k
   .rw[if_pos ag]
   .split at k
    .cases k
    .rw[if_pos ag]
  .split at h
   .cases h
   .split at k
    .rw[if_pos ag]
    .split at k
     .cases k
     .rw[if_neg ag,if_neg ag];exact eU h k
theorem lI:∀{a b:aA},bL a b=false->a≠b->bL b a=true
 |[],[],_,h=>absurd rfl h
 |[],_::_,h,_=>by cases h
 |_::_,[],_,_=>rfl
 |x::a,y::b,h,hn=>by
  unfold bL at h⊢;split at h
  .cases h
  .split at h
   .rename_i h2;rw[if_pos h2]
   .rename_i h1 h2;have UM:x=y:=w6.1 ag;subst UM;rw[if_neg ag,if_neg ag];exact lI h (λe=>hn (by rw[e]))
def Asc (l:List aZ):Prop:=l.Pairwise λa b=>bL a.name b.name=true
theorem sJ:∀l:List aZ,mL l=true↔Asc l
 |[]=>by simp[mL,Asc]
 |[a]=>by simp[mL,Asc]
 |a::b::l=>by
  have ih:=sJ (b::l);rw[mL,bU,ih];unfold Asc;rw[jS (a:=a)];constructor
  .rintro⟨h1,h2⟩;refine⟨λx hx=>?_,h2⟩;rcases bR.1 hx with rfl|hx
   .exact h1
   .exact eU h1 ((jS.1 h2).1 x hx)
  .rintro⟨h1,h2⟩;exact⟨h1 b (by simp),h2⟩
theorem Yl (h:Asc l)(hx:x∈l):l.find? (λy=>decide (y.name=x.name))=some x:=by
 induction l with
 |nil=>cases hx
 |cons a l ih=>
  rw[List.find?_cons];have hp:=jS.1 h;rcases bR.1 hx with rfl|hx
  .simp
  .have du:=hp.1 x hx;have fK:a.name≠x.name:=λe=>by rw[e,zv] at du;cases du
   simp only[fK,decide_false];exact ih hp.2 hx
theorem ny:x∈gm l e↔x=e\/x∈l:=by
 induction l with
 |nil=>simp[gm]
 |cons a l ih=>
  unfold gm;split
  .simp
  .simp[ih];constructor<;>(rintro(h|h|h)<;>simp[h])
theorem MJ (l:List aZ)(e:aZ):(gm l e).length=l.length+1:=by
 induction l with
 |nil=>rfl
 |cons a l ih=>unfold gm;split<;>simp[ih]
theorem Ym (h:Asc l)(hn:∀x∈l,x.name≠e.name):Asc (gm l e):=by
 induction l with
 |nil=>simp[gm,Asc]
 |cons a l ih=>
  have hp:=jS.1 h;unfold gm;split
  .rename_i du;refine jS.2 ⟨λx hx=>?_,h⟩;rcases bR.1 hx with rfl|hx
   .exact du
   .exact eU du (hp.1 x hx)
  .rename_i du;refine jS.2 ⟨λx hx=>?_,ih hp.2 (λx hx=>hn x (by simp[hx]))⟩;rcases ny.1 hx with rfl|hx
   .exact lI (by simpa using du) (λe=>hn a (by simp) e.symm)
   .exact hp.1 x hx
theorem TL (h:l.find? (λy=>decide (y.name=s))=none):∀x∈l,x.name≠s:=by
 intro x hx;have:=List.find?_eq_none.1 h x hx;simpa using this
theorem Cw (h:bz l=true)(hn:∀x∈l,x.name≠e.name)(he:bG e.name=true)(hi:1<=e.id/\e.id<=15)(hl:l.length<12):bz (gm l e)=true:=by
 obtain⟨h1,h2,h3⟩:=ib h;unfold bz;rw[bU,bU,gQ,sJ,bQ,MJ];refine⟨⟨λx hx=>?_,Ym ((sJ l).1 h2) hn⟩,ag⟩;rcases ny.1 hx with rfl|hx
 .simp[he,fR,hi]
 .have:=h1 x hx;simp[this.1,fR,this.2]
theorem Jx {l l':List aZ}(h:bz l=true)(hs:l'.Sublist l):bz l'=true:=by
 obtain⟨h1,h2,h3⟩:=ib h;have:=hs.length_le;unfold bz;rw[bU,bU,gQ,sJ,bQ];refine⟨⟨λx hx=>?_,((sJ l).1 h2).sublist hs⟩,ag⟩;have:=h1 x (hs.subset hx);simp[this.1,fR,this.2]
theorem jq (l:List aZ)(i:Nat):(eu l i).Sublist l:=by
 unfold eu
 conv=>rhs;rw[<-yd i l]
 refine Kf (F4 _) ?_;rw[<-mm];exact List.drop_sublist _ _
def cE (j:Nat)(l:List aZ):Nat:=l.countP λx=>decide (x.id.toNat=j)
theorem Jy (j:Nat)(l:List aZ)(e:aZ):cE j (gm l e)=cE j l+if e.id.toNat=j then 1 else 0:=by
 unfold cE;induction l with
 |nil=>simp[gm,iC]
 |cons a l ih=>
  unfold gm;split
  .simp[iC]
  .rw[iC,ih,iC];omega
theorem MK (h:i<l.length):l=l.take i++l.getD i ⟨[],0⟩::l.drop (i+1):=by
 have:l.getD i ⟨[],0⟩=l[i]:=by rw[aR,bd h];rfl
 rw[this];simp
theorem Jz (j:Nat)(h:i<l.length):cE j (eu l i)+(if(l.getD i ⟨[],0⟩).id.toNat=j then 1 else 0)=cE j l:=by
 conv=>rhs;rw[MK h]
 unfold cE eu;rw[A1,A1,iC];simp;omega
theorem zw (l:List aZ)(s:aA):(eA l s).map (λk=>l.getD k ⟨[],0⟩)=l.find? (λy=>decide (y.name=s)):=by
 unfold eA;induction l with
 |nil=>rfl
 |cons a l ih=>
  rw[Qc,List.find?_cons];by_cases h:a.name=s
  .simp[h]
  .simp only[h,decide_false,Option.map_map];rw[<-ih];cases List.findIdx? (λe=>decide (e.name=s)) l<;>simp
theorem Pt {k:Nat}(h:eA l s=some k):k<l.length:=by
 unfold eA at h;rw[oC] at h;exact h.1
def bH (G:Gr)(k:Nat):List aZ:=match G k with
 |none=>[]
 |some e=>e.es
def iI (G:Gr)(j:Nat):Nat:=((List.range 16).map λk=>cE j (bH G k)).sum
def UO (e:Option NE):List aZ:=match e with
 |none=>[]
 |some e=>e.es
theorem gj (G:Gr)(id:Nat)(e:Option NE)(k:Nat):bH (gI G id e) k=if k=id then UO e else bH G k:=by
 unfold bH gI UO;by_cases h:k=id
 .simp only[if_pos h]
 .simp only[if_neg h]
theorem Rg (f g:Nat->Nat)(id:Nat)(h:∀k,k≠id->f k=g k):∀n:Nat,((List.range n).map f).sum+(if id<n then g id else 0)=((List.range n).map g).sum+if id<n then f id else 0
 |0=>by simp
 |n+1=>by
  have ih:=Rg f g id h n;rw[AZ,J7,J7,Kl,Kl];simp only[vp,Ga,CL,List.sum_nil];by_cases hn:n=id
  .subst hn;rw[if_neg ag,if_neg ag] at ih;rw[if_pos ag,if_pos ag];omega
  .rw[h n hn];by_cases h2:id<n
   .rw[if_pos h2,if_pos h2] at ih;rw[if_pos ag,if_pos ag];omega
   .rw[if_neg h2,if_neg h2] at ih;rw[if_neg ag,if_neg ag];omega
theorem mH (G:Gr){id:Nat}(hid:id<16)(e:Option NE)(j:Nat):iI (gI G id e) j+cE j (bH G id)=iI G j+cE j (UO e):=by
 have:=Rg (λk=>cE j (bH (gI G id e) k)) (λk=>cE j (bH G k)) id (λk hk=>by show cE j _=cE j _;rw[gj,if_neg hk]) 16;rw[if_pos hid,if_pos hid] at this;unfold iI;simp only[gj,if_pos] at this⊢;exact this
theorem EK (f:Nat->Nat){k:Nat}:∀{n:Nat},k<n->f k<=((List.range n).map f).sum
 |0,h=>by omega
 |n+1,h=>by
  rw[AZ,J7,Kl];simp only[vp,Ga,CL,List.sum_nil];by_cases hk:k=n
  .subst hk;omega
  .have:=EK f (k:=k) (n:=n) ag;omega
theorem Rh (f:Nat->Nat){k j:Nat}(Sg:k≠j):∀{n:Nat},k<n->j<n->f k+f j<=((List.range n).map f).sum
 |0,h,_=>by omega
 |n+1,h,h'=>by
  rw[AZ,J7,Kl];simp only[vp,Ga,CL,List.sum_nil];by_cases hk:k=n
  .have:=EK f (k:=j) (n:=n) ag;subst hk;omega
  .by_cases hj:j=n
   .have:=EK f (k:=k) (n:=n) ag;subst hj;omega
   .have:=Rh f Sg (n:=n) ag ag;omega
def WfN (e:NE):Prop:=(e.n.kind=1/\e.es=[]/\1<=e.n.bF/\e.n.bF<=9)\/(e.n.kind=2/\bz e.es=true/\e.n.bF=1)
structure Gd (G:Gr):Prop where
 wf:∀k e,G k=some e->WfN e
 hi:∀k,16<=k->G k=none
 cy:∃e,G 0=some e/\e.n.kind=2
 ids:∀k,∀x∈bH G k,∃e,G x.id.toNat=some e
 lk:∀j e,j≠0->G j=some e->((iI G j:Nat):Int)=e.n.bF
 ac:∃d:Nat->Nat,∀k,∀x∈bH G k,d k<d x.id.toNat
theorem J5.wf {e:NE}(h:J5 st e):WfN e:=by
 obtain⟨l,q,_,⟨h0,h⟩|h⟩:=h
 .exact .inl ⟨h.kd,h0,h.lk⟩
 .exact .inr ⟨h.kd,h.eo,h.lk⟩
theorem rp.wf {l q:cW}(h:rp st t G l q):∀k e,G k=some e->WfN e:=λk e he=>((h.at_ k).some he).2.wf
theorem pG (h:∀k e,G k=some e->WfN e)(k:Nat):bz (bH G k)=true:=by
 unfold bH;cases hg:G k with
 |none=>rfl
 |some e=>
  rcases h k e hg with⟨_,h,_⟩|⟨_,h,_⟩
  .simp only;rw[h];rfl
  .exact h
theorem vV (h:∀k e,G k=some e->WfN e){k:Nat}(hx:x∈bH G k):1<=x.id/\x.id<=15/\bG x.name=true:=by
 have:=(ib (pG h k)).1 x hx;exact⟨this.2.1,this.2.2,this.1⟩
theorem Cx (hi:∀k,16<=k->G k=none){k:Nat}(hx:x∈bH G k):k<16:=by
 by_cases h:k<16
 .exact h
 .unfold bH at hx;rw[hi k ag] at hx;cases hx
theorem mI {k:Nat}{es:List aZ}(h:nw (G k)=some es):bH G k=es/\∃e,G k=some e/\e.n.kind=2/\e.es=es:=by
 unfold nw at h;unfold bH;cases hg:G k with
 |none=>rw[hg] at h;cases h
 |some e=>
  rw[hg] at h;simp only at h;split at h
  .rename_i hk;cases h;exact⟨rfl,e,rfl,hk,rfl⟩
  .cases h
theorem xQ {k:Nat}{e:NE}(h:G k=some e)(hk:e.n.kind=2):nw (G k)=some e.es:=by
 unfold nw;rw[h];simp only;rw[if_pos hk]
theorem xR (h:∀k e,G k=some e->WfN e){k:Nat}(hx:x∈bH G k):nw (G k)=some (bH G k):=by
 unfold bH at hx⊢;cases hg:G k with
 |none=>rw[hg] at hx;cases hx
 |some e=>
  rw[hg] at hx;rcases h k e hg with⟨_,h,_⟩|⟨hk,_,_⟩
  .simp only at hx;rw[h] at hx;cases hx
  .unfold nw;simp only;rw[if_pos hk]
def look (G:Gr):List aA->Nat->Option Nat
 |[],k=>some k
 |s::l,k=>match nw (G k) with
  |none=>none
  |some es=>match es.find? (λx=>decide (x.name=s)) with
   |none=>none
   |some x=>look G l x.id.toNat
theorem oU (G:Gr):∀(l r:List aA)(k:Nat),look G (l++r) k=match look G l k with
  |none=>none
  |some j=>look G r j
 |[],r,k=>rfl
 |s::l,r,k=>by
  rw[BI,look,look];cases nw (G k) with
  |none=>rfl
  |some es=>
   simp only;cases es.find? (λx=>decide (x.name=s)) with
   |none=>rfl
   |some x=>exact oU G l r x.id.toNat
theorem vi {k j:Nat}(h:look G [s] k=some j):∃x∈bH G k,x.name=s/\x.id.toNat=j/\nw (G k)=some (bH G k)/\(bH G k).find? (λx=>decide (x.name=s))=some x:=by
 rw[look] at h;cases he:nw (G k) with
 |none=>rw[he] at h;cases h
 |some es=>
  rw[he] at h;simp only at h;have h1:=(mI he).1;cases hf:es.find? (λx=>decide (x.name=s)) with
  |none=>rw[hf] at h;cases h
  |some x=>
   rw[hf] at h;simp only[look] at h;cases h
   rw[h1];exact⟨x,List.mem_of_find?_eq_some hf,by simpa using List.find?_some hf,rfl,rfl,hf⟩
theorem TN (h:∀k e,G k=some e->WfN e){k:Nat}(hx:x∈bH G k):look G [x.name] k=some x.id.toNat:=by
 rw[look,xR h hx];simp only;rw[Yl ((sJ _).1 (ib (pG h k)).2.1) hx];rfl
theorem HL {l q:cW}(h:rp st t G l q)(cC:Bool)(k:Nat):bK st (Fs.node ⟨st,t,cC⟩ k)=nw (G k):=h.bK k
theorem xS {l q:cW}(h:rp st t G l q)(cC:Bool)(ad:List aA):∀(k:Nat),Fs.GQ ⟨st,t,cC⟩ ad k=match look G ad k with
  |none=>-1
  |some j=>(j:Int):=by
 induction ad with
 |nil=>intro k;rfl
 |cons s ad ih=>
  intro k;have he:=HL h cC k;unfold Fs.GQ at ih⊢;rw[oM,look];simp only;rw[he];cases tg:nw (G k) with
  |none=>rfl
  |some es=>
   simp only;have h1:=zw es s;cases ha:eA es s with
   |none=>rw[ha] at h1;rw[<-h1];rfl
   |some i=>
    rw[ha] at h1;simp only[wh] at h1;rw[<-h1];simp only;have hm:es.getD i ⟨[],0⟩∈bH G k:=by
     rw[(mI tg).1];exact List.mem_of_find?_eq_some h1.symm
    have hid:=vV h.wf hm;have:=ih (es.getD i ⟨[],0⟩).id.toNat;rw[yi ag] at this;exact this
theorem tP {d:Nat->Nat}(hd:∀k,∀x∈bH G k,d k<d x.id.toNat):∀(l:List aA)(k j:Nat),look G l k=some j->d k+l.length<=d j
 |[],k,j,h=>by cases h;simp
 |s::l,k,j,h=>by
  have h':look G ([s]++l) k=some j:=h;rw[oU] at h';cases h1:look G [s] k with
  |none=>rw[h1] at h';cases h'
  |some m=>
   rw[h1] at h';simp only at h';obtain⟨x,hx,_,rfl,_⟩:=vi h1;have:=hd k x hx;have:=tP hd l _ _ h';rw[cY];omega
theorem xT {α:Type}(l:List α):l=[]\/∃a x,l=a++[x]:=by
 rcases List.eq_nil_or_concat l with h|⟨a,x,h⟩
 .exact .inl h
 .exact .inr ⟨a,x,by rw[h,List.concat_eq_append]⟩
theorem ae1 (h:cE j l<=1){x y:aZ}(hx:x∈l)(hy:y∈l)(hxj:x.id.toNat=j)(hyj:y.id.toNat=j):x=y:=by
 unfold cE at h;rw[List.countP_eq_length_filter] at h;have h1:x∈l.filter λx=>decide (x.id.toNat=j):=qR.2 ⟨hx,by simpa using hxj⟩
 have h2:y∈l.filter λx=>decide (x.id.toNat=j):=qR.2 ⟨hy,by simpa using hyj⟩
 generalize l.filter (λx=>decide (x.id.toNat=j))=w at h h1 h2
 match w,h with
 |[],_=>cases h1
 |[a],_=>simp at h1 h2;rw[h1,h2]
theorem HM (h:Gd G):∀(n:Nat)(p p':List aA)(k:Nat)(e:NE),p.length<=n->look G p 0=some k->look G p' 0=some k->G k=some e->e.n.kind=2->p=p'
 |0,p,p',k,e,hn,h1,h2,h3,h4=>by
  have:p=[]:=mT ag;subst this;cases h1
  obtain⟨d,hd⟩:=h.ac;have:=tP hd p' 0 0 h2;exact(mT ag).symm
 |n+1,p,p',k,e,hn,h1,h2,h3,h4=>by
  obtain⟨d,hd⟩:=h.ac;rcases xT p with rfl|⟨a,s,rfl⟩
  .cases h1
   have:=tP hd p' 0 0 h2;exact(mT ag).symm
  .rcases xT p' with rfl|⟨a',s',rfl⟩
   .cases h2
    have:=tP hd _ 0 0 h1;rw[bJ,A5] at this;omega
   .rw[oU] at h1 h2;cases e1:look G a 0 with
    |none=>rw[e1] at h1;cases h1
    |some m=>
     cases e2:look G a' 0 with
     |none=>rw[e2] at h2;cases h2
     |some m'=>
      rw[e1] at h1;rw[e2] at h2;simp only at h1 h2;obtain⟨x,hx,RW,hxk,hxe,_⟩:=vi h1;obtain⟨y,hy,hys,hyk,_⟩:=vi h2;have R9:k≠0:=by have:=vV h.wf hx;omega
      have hl:=h.lk k e R9 h3;rcases h.wf k e h3 with⟨hw,_⟩|⟨_,_,hw⟩
      .omega
      .rw[hw] at hl;have hl:iI G k=1:=by omega
       have hm:=Cx h.hi hx;have hm':=Cx h.hi hy;have c1:1<=cE k (bH G m):=Gj.2 ⟨x,hx,by simpa using hxk⟩;have c2:1<=cE k (bH G m'):=Gj.2 ⟨y,hy,by simpa using hyk⟩;have hmm:m=m':=by
        by_cases hc:m=m'
        .exact hc
        .exfalso;have:=Rh (λi=>cE k (bH G i)) hc hm hm';unfold iI at hl;omega
       subst hmm;have aln:cE k (bH G m)<=1:=by
        have:=EK (λi=>cE k (bH G i)) hm;unfold iI at hl;omega
       have UM:=ae1 aln hx hy hxk hyk;subst UM;obtain⟨em,alo,alp,_⟩:=(mI hxe).2;have:=HM h n a a' m em (by rw[bJ,A5] at hn;omega) e1 e2 alo alp;rw[this,<-RW,<-hys]
end
section
variable {f:Fs}{id at_ k:Nat}{st:ar}{t:bX}{G:Gr}{l q:cW}{af:aA}{cC:Bool}
def FS (st:ar)(t:bX):Prop:=∃G l q,rp st t G l q/\Gd G
theorem zx {id:Int}{n:iG}(h:(f.put id n).cC=false):f.cC=false:=by
 unfold Fs.put at h;by_cases hf:f.cC=true
 .rw[if_pos hf] at h;rw[h]
 .simpa using hf
theorem abv {n:iG}(h:(f.put id n).cC=false):pr f.st f.t id n=((f.put id n).st,(f.put id n).t,true):=by
 have hf:=zx h;unfold Fs.put at h⊢;rw[if_neg (by rw[hf];simp)] at h⊢;rw[uy] at h⊢;rcases hp:pr f.st f.t id n with⟨st,t,ok⟩
 rw[hp] at h;simp only at h⊢;have:ok=true:=by simpa using h
 rw[this]
theorem xU {id:Int}{l:List aZ}(h:(f.bf id l).cC=false):f.cC=false:=by
 unfold Fs.bf at h;by_cases hf:f.cC=true
 .rw[if_pos hf] at h;rw[h]
 .simpa using hf
theorem EL {e:NE}(h:FX st t G id e.Q l q)(hid:id<16)(he:J5 st e)(hp:(Fs.put ⟨st,t,false⟩ id e.n).cC=false):∃l' q',rp (Fs.put ⟨st,t,false⟩ id e.n).st (Fs.put ⟨st,t,false⟩ id e.n).t (gI G id (some e)) l' q':=
 Yj h hid he (abv hp)
theorem nz (h:rp st t G l q)(cC:Bool)(k:Nat):Fs.node ⟨st,t,cC⟩ k=((G k).map (·.n)).getD bu:=by
 unfold Fs.node;rw[show(jj st t k)=_ from h.jj k]
theorem oV {e:NE}{es':List aZ}(h:rp st t G l q)(he:G at_=some e)(hk:e.n.kind=2)(tg:bz es'=true)(hp:(Fs.bf ⟨st,t,false⟩ at_ es').cC=false):
  ∃e' l' q',rp (Fs.bf ⟨st,t,false⟩ at_ es').st (Fs.bf ⟨st,t,false⟩ at_ es').t (gI G at_ (some e')) l' q'/\e'.es=es'/\e'.n.kind=2/\e'.n.bF=e.n.bF:=by
 obtain⟨_,hid⟩:=h.lt he;obtain⟨ln,qn,hq,hh⟩:=((h.at_ at_).some he).2;rcases hh with⟨_,hf⟩|hd
 .rw[hf.kd] at hk;cases hk
 have aiv:Fs.node ⟨st,t,false⟩ at_=e.n:=by rw[nz h,he];rfl
 unfold Fs.bf at hp⊢;rw[if_neg (by simp)] at hp⊢;simp only[aiv] at hp⊢;rcases hb:kz st e.n.aS (bg es') with⟨st1,t1,ok⟩
 rw[hb] at hp;simp only at hp⊢;have fF:ok=true:=by have:=zx hp;simpa using this
 subst fF;have NM:=h.fx hid;have Yk:gq G at_=e.Q:=by unfold gq;rw[he]
 have c8:=(lY tg).1;obtain⟨l1,q1,h1,h2,h3,h4,h5⟩:=Pp (R:=cG l q++rL G at_) hd.tr (NM.so.cR (by
  rw[Yk,hq];exact oE _ _ _)) ag hb
 have TK:FX st1 t G at_ (cG l1 q1) l q:=NM.step h3 h2
 let e':NE:=⟨{e.n with aS:=t1,size:=((bg es').length:Int)},es',cG l1 q1⟩
 have hn:J5 st1 e':=⟨l1,q1,rfl,.inr ⟨h1,hd.kd,tg,rfl,hd.lk,h4,h5⟩⟩;obtain⟨l',q',k⟩:=EL (e:=e') TK hid hn hp;exact⟨e',l',q',k,rfl,hd.kd,rfl⟩
theorem Yn (h:aT af=true):∀s∈aH af,bG s=true:=by
 intro s hs;unfold aT at h;split at h
 .rename_i h0;rw[h0] at hs;unfold aH at hs;rw[if_pos rfl] at hs;cases hs
 .split at h
  .cases h
  .rw[bU,gQ] at h;exact h.1 s hs
theorem xV (h:aH af≠[]):aH af=(aH af).dropLast++[Fs.base af]:=by
 unfold Fs.base;rw[List.getLastD_eq_getLast?,List.getLast?_eq_some_getLast h,pV,List.dropLast_concat_getLast]
theorem zy (h:rp st t G l q)(hr:¬0<(Fs.bM ⟨st,t,cC⟩ af).2):
  ∃(at_:Nat)(e:NE),Fs.bM ⟨st,t,cC⟩ af=((at_:Int),0)/\aH af≠[]/\look G (aH af).dropLast 0=some at_/\G at_=some e/\e.n.kind=2:=by
 unfold Fs.bM at hr⊢;simp only at hr⊢;by_cases hn:aH af=[]
 .rw[if_pos hn] at hr;exact absurd (by decide) hr
 .rw[if_neg hn] at hr⊢;have hl:Fs.GQ ⟨st,t,cC⟩ (aH af).dropLast 0=_:=xS h cC (aH af).dropLast 0;rw[hl] at hr⊢;cases L9:look G (aH af).dropLast 0 with
  |none=>rw[L9] at hr;exact absurd (show(0:Int)<2 by decide) hr
  |some at_=>
   rw[L9] at hr;simp only at hr⊢;rw[if_neg ag] at hr⊢;rw[nz h] at hr⊢;cases hg:G at_ with
   |none=>rw[hg] at hr;exact absurd (show(0:Int)<4 by decide) hr
   |some e=>
    rw[hg] at hr;simp only[wh,pV] at hr⊢;by_cases hk:e.n.kind=2
    .rw[if_neg (by simpa using hk)];exact⟨at_,e,rfl,hn,rfl,hg,hk⟩
    .rw[if_pos hk] at hr;exact absurd (by decide) hr
theorem HN (h:rp st t G l q)(cC:Bool)(af:aA):Fs.da ⟨st,t,cC⟩ af=match look G (aH af) 0 with
  |none=>-1
  |some j=>(j:Int):=xS h cC (aH af) 0
theorem iB (h:rp st t G l q)(hf:¬Fs.da ⟨st,t,cC⟩ af<0):∃k:Nat,Fs.da ⟨st,t,cC⟩ af=k/\look G (aH af) 0=some k:=by
 rw[HN h] at hf⊢;cases hl:look G (aH af) 0 with
 |none=>rw[hl] at hf;exact absurd (by decide) hf
 |some k=>exact⟨k,rfl,rfl⟩
theorem ML (h:rp st t G l q)(hf:¬0<=Fs.da ⟨st,t,cC⟩ af):look G (aH af) 0=none:=by
 rw[HN h] at hf;cases hl:look G (aH af) 0 with
 |none=>rfl
 |some k=>rw[hl] at hf;exact absurd (by simp) hf
theorem Yo {e:NE}(hn:aH af≠[])(hl:look G (aH af).dropLast 0=some at_)(he:G at_=some e)(hk:e.n.kind=2)(hf:look G (aH af) 0=none):∀x∈e.es,x.name≠Fs.base af:=by
 rw[xV hn,oU,hl] at hf;simp only at hf;rw[look,xQ he hk] at hf;simp only at hf;cases FW:e.es.find? (λx=>decide (x.name=Fs.base af)) with
 |none=>exact TL FW
 |some x=>rw[FW] at hf;cases hf
theorem JA (h:aT af=true)(hn:aH af≠[]):bG (Fs.base af)=true:=by
 apply Yn h;rw[xV hn];simp
theorem sK (h:rp st t G l q)(hp:aT af=true)(hr:¬0<(Fs.bD ⟨st,t,cC⟩ af).2):
  ∃(at_:Nat)(e:NE),(Fs.bD ⟨st,t,cC⟩ af).1=(at_:Int)/\aH af≠[]/\look G (aH af).dropLast 0=some at_/\G at_=some e/\e.n.kind=2/\(∀x∈e.es,x.name≠Fs.base af)/\bG (Fs.base af)=true:=by
 unfold Fs.bD at hr⊢;simp only at hr⊢;by_cases h1:0<(Fs.bM ⟨st,t,cC⟩ af).2
 .rw[if_pos h1] at hr;exact absurd h1 hr
 .rw[if_neg h1] at hr⊢;obtain⟨at_,e,e1,e2,e3,e4,e5⟩:=zy h h1;by_cases h2:0<=Fs.da ⟨st,t,cC⟩ af
  .rw[if_pos h2] at hr;exact absurd (by decide) hr
  .rw[if_neg h2,e1];exact⟨at_,e,rfl,e2,e3,e4,e5,Yo e2 e3 e4 e5 (ML h h2),JA hp e2⟩
theorem l9 (h:rp st t G l q)(cC:Bool){e:NE}(he:G k=some e)(hk:e.n.kind=2):Fs.bH ⟨st,t,cC⟩ k=e.es:=by
 unfold Fs.bH;rw[HL h cC k,xQ he hk];rfl
theorem fu (G:Gr)(id:Nat)(e:Option NE):gI G id e id=e:=by unfold gI;rw[if_pos rfl]
theorem fM (G:Gr)(e:Option NE)(h:k≠id):gI G id e k=G k:=by unfold gI;rw[if_neg h]
theorem dV {e:NE}(h:G k=some e):bH G k=e.es:=by unfold bH;rw[h]
theorem Ri {kind:Int}(hk:kind=1\/kind=2)(h:FS st t)(hp:aT af=true)(h0:(Fs.make ⟨st,t,false⟩ af kind).2=0)(hf:(Fs.make ⟨st,t,false⟩ af kind).1.cC=false):FS (Fs.make ⟨st,t,false⟩ af kind).1.st (Fs.make ⟨st,t,false⟩ af kind).1.t:=by
 obtain⟨G,l,q,hF,hG⟩:=h;unfold Fs.make at h0 hf⊢;simp only at h0 hf⊢;by_cases h1:0<(Fs.bD ⟨st,t,false⟩ af).2
 .rw[if_pos h1] at h0;simp only at h0;omega
 .rw[if_neg h1] at h0 hf⊢;obtain⟨at_,e,e1,e2,e3,e4,e5,e6,e7⟩:=sK hF hp h1;rw[e1] at h0 hf⊢;cases Ae:uR st t with
  |none=>rw[Ae] at h0;simp at h0
  |some id=>
   rw[Ae] at h0 hf;simp only at h0 hf⊢;rw[l9 hF false e4 e5] at h0 hf⊢;by_cases Ai:12<=e.es.length
   .rw[if_pos Ai] at h0;simp at h0
   .rw[if_neg Ai] at hf⊢;simp only at hf⊢;obtain⟨hid,wH⟩:=EJ hF Ae;have nJ:at_≠id:=λhc=>by rw[hc,wH] at e4;cases e4
    have FY:id≠0:=λhc=>by obtain⟨r,hr,_⟩:=hG.cy;rw[hc,hr] at wH;cases wH
    let en:NE:=⟨⟨kind,1,0,eY⟩,[],[]⟩
    have Oh:=xU hf;have Yk:gq G id=[]:=by unfold gq;rw[wH]
    have NM:FX st t G id en.Q l q:=by have:=hF.fx hid;rw[Yk] at this;exact this
    have hhn:c9 16=c9 16:=rfl;have UD:J5 st en:=by
     refine⟨c9 16,[],by unfold cG;rw[lh];rfl,?_⟩;rcases hk with rfl|rfl
     .exact .inl ⟨rfl,sD st,rfl,by decide,rfl,by decide,λj hj=>by have hj:(j:Int)<0:=hj;omega⟩
     .exact .inr ⟨sD st,rfl,rfl,rfl,rfl,rfl,by unfold tx;rw[show(c9 16).getD 0 bq=bq from rfl,lH lG];rfl⟩
    refine' zaI
    have zA:bz (gm e.es ⟨Fs.base af,id⟩)=true:=Cw tg e6 e7 (by show 1<=(id:Int)/\(id:Int)<=15;omega) ag;generalize o9:(Fs.put ⟨st,t,false⟩ id ⟨kind,1,0,eY⟩)=fs at hf Oh⊢;have ya:rp fs.st fs.t (gI G id (some en)) l1 q1:=by rw[<-o9];exact ya
    obtain⟨st1,t1,zB⟩:=fs;simp only at Oh;subst Oh;obtain⟨e',l2,q2,Fk,g1,g2,g3⟩:=oV ya e4' e5 zA hf;refine⟨_,l2,q2,Fk,Fk.wf,Fk.hi,?_,?_,?_,?_⟩
    .obtain⟨r,hr1,nG⟩:=hG.cy;by_cases ha:at_=0
     .subst ha;exact⟨e',fu _ _ _,g2⟩
     .rw[fM _ _ (λh=>ha h.symm),fM _ _ (λh=>FY h.symm)];exact⟨r,hr1,nG⟩
    .have hold:∀k r,G k=some r->∃r',gI (gI G id (some en)) at_ (some e') k=some r':=λk r hr=>by
      by_cases hk:k=at_
      .subst hk;exact⟨_,fu _ _ _⟩
      .rw[fM _ _ hk];by_cases yH:k=id
       .subst yH;exact⟨_,fu _ _ _⟩
       .rw[fM _ _ yH];exact⟨r,hr⟩
     have lA:∃r',gI (gI G id (some en)) at_ (some e') id=some r':=by
      rw[fM _ _ (λh=>nJ h.symm)];exact⟨_,fu _ _ _⟩
     intro k x hx;rw[gj] at hx;by_cases hk:k=at_
     .rw[if_pos hk] at hx;have hx:x∈e'.es:=hx;rw[g1] at hx;rcases ny.1 hx with rfl|hx
      .exact lA
      .rw[<-jC] at hx;obtain⟨r,hr⟩:=hG.ids at_ x hx;exact hold _ r hr
     .rw[if_neg hk,gj] at hx;by_cases yH:k=id
      .rw[if_pos yH] at hx;cases hx
      .rw[if_neg yH] at hx;obtain⟨r,hr⟩:=hG.ids k x hx;exact hold _ r hr
    .have IM:∀j,iI (gI (gI G id (some en)) at_ (some e')) j=iI G j+if id=j then 1 else 0:=λj=>by
      have c1:=mH (gI G id (some en)) (ya.lt e4').2 (some e') j;have c2:=mH G hid (some en) j;rw[dV e4'] at c1;have:bH G id=[]:=by unfold bH;rw[wH]
      rw[this] at c2;have c3:=Jy j e.es ⟨Fs.base af,id⟩;have c4:UO (some e')=gm e.es ⟨Fs.base af,id⟩:=g1;rw[c4,c3] at c1;have c5:cE j (UO (some en))=0:=rfl;have c6:cE j []=0:=rfl;rw[c5,c6] at c2;simp only[uy] at c1;omega
     have hz:iI G id=0:=by
      unfold iI;have:∀k,cE id (bH G k)=0:=λk=>by
       unfold cE;rw[uz];intro x hx;obtain⟨r,hr⟩:=hG.ids k x hx;simp only[bQ];intro hc;rw[hc,wH] at hr;cases hr
      rw[show(λk=>cE id (bH G k))=λ_=>0 from funext this];rfl
     intro j r hj hr;rw[IM];by_cases MM:j=at_
     .subst MM;rw[fu] at hr;cases hr
      rw[if_neg (λh=>nJ h.symm),g3];have:=hG.lk j e hj e4;omega
     .rw[fM _ _ MM] at hr;by_cases wK:j=id
      .subst wK;rw[fu] at hr;cases hr
       rw[if_pos rfl,hz];rfl
      .rw[fM _ _ wK] at hr;rw[if_neg (λh=>wK h.symm)];have:=hG.lk j r hj hr;omega
    .obtain⟨d,hd⟩:=hG.ac;have fK:∀k,∀x∈bH G k,x.id.toNat≠id:=λk x hx hc=>by
      obtain⟨r,hr⟩:=hG.ids k x hx;rw[hc,wH] at hr;cases hr
     refine⟨λk=>if k=id then d at_+1 else d k,λk x hx=>?_⟩;rw[gj] at hx;by_cases hk:k=at_
     .rw[if_pos hk] at hx;have hx:x∈e'.es:=hx;rw[g1] at hx;rw[hk];show(if at_=id then d at_+1 else d at_)<(if x.id.toNat=id then d at_+1 else d x.id.toNat);rw[if_neg nJ];rcases ny.1 hx with rfl|hx
      .simp
      .rw[<-jC] at hx;rw[if_neg (fK at_ x hx)];exact hd at_ x hx
     .rw[if_neg hk,gj] at hx;by_cases yH:k=id
      .rw[if_pos yH] at hx;cases hx
      .rw[if_neg yH] at hx;simp only[if_neg yH,if_neg (fK k x hx)];exact hd k x hx
end
section
variable {G:Gr}{id k:Nat}{st:ar}{t:bX}{af:aA}
theorem ma {e:NE}(h:∃r,G k=some r):∃r,gI G id (some e) k=some r:=by
 by_cases hk:k=id
 .subst hk;exact⟨e,fu _ _ _⟩
 .rw[fM _ _ hk];exact h
theorem nA {e:NE}(h:∃r,G 0=some r/\r.n.kind=2)(he:id=0->e.n.kind=2):∃r,gI G id (some e) 0=some r/\r.n.kind=2:=by
 by_cases hk:0=id
 .subst hk;exact⟨e,fu _ _ _,he rfl⟩
 .rw[fM _ _ hk];exact h
theorem Rj (h:∀k e,G k=some e->WfN e){e:NE}(he:G k=some e)(hk:e.n.kind=1):e.es=[]/\1<=e.n.bF/\e.n.bF<=9:=by
 rcases h k e he with⟨_,h1,h2⟩|⟨h1,_⟩
 .exact⟨h1,h2⟩
 .rw[hk] at h1;cases h1
theorem jr (hG:Gd G){ad:List aA}(h:look G ad 0=some k):∃e,G k=some e:=by
 rcases xT ad with rfl|⟨a,s,rfl⟩
 .cases h;obtain⟨e,he,_⟩:=hG.cy;exact⟨e,he⟩
 .rw[oU] at h;cases h1:look G a 0 with
  |none=>rw[h1] at h;cases h
  |some m=>
   rw[h1] at h;obtain⟨x,hx,_,rfl,_⟩:=vi h;exact hG.ids m x hx
theorem Gd.same (h:Gd G){e e':NE}(he:G id=some e)(hw:∀k r,gI G id (some e') k=some r->WfN r)(tg:e'.es=e.es)(hk:e'.n.kind=e.n.kind)(hl:e'.n.bF=e.n.bF):Gd (gI G id (some e')):=by
 have hid:id<16:=by
  by_cases hid:id<16
  .exact hid
  .rw[h.hi id ag] at he;cases he
 have hE:∀k,bH (gI G id (some e')) k=bH G k:=λk=>by
  rw[gj];split
  .rename_i hk;rw[hk,dV he];exact tg
  .rfl
 refine⟨hw,Ps h.hi hid,?_,λk x hx=>?_,λj r hj hr=>?_,?_⟩
 .obtain⟨r,hr,nG⟩:=h.cy;exact nA ⟨r,hr,nG⟩ (λhc=>by subst hc;rw[hr] at he;cases he;rw[hk];exact nG)
 .rw[hE] at hx;exact ma (h.ids k x hx)
 .have:iI (gI G id (some e')) j=iI G j:=by unfold iI;simp only[hE]
  rw[this];by_cases wK:j=id
  .subst wK;rw[fu] at hr;cases hr
   rw[hl];exact h.lk j e hj he
  .rw[fM _ _ wK] at hr;exact h.lk j r hj hr
 .obtain⟨d,hd⟩:=h.ac;exact⟨d,λk x hx=>by rw[hE] at hx;exact hd k x hx⟩
theorem TO {o:Pl.Op}(h:FS st t)(ha:0<=o.at_/\o.at_<=192)(h0:(Fs.change ⟨st,t,false⟩ o).2=0)(hf:(Fs.change ⟨st,t,false⟩ o).1.cC=false):FS (Fs.change ⟨st,t,false⟩ o).1.st (Fs.change ⟨st,t,false⟩ o).1.t:=by
 obtain⟨G,l,q,hF,hG⟩:=h;unfold Fs.change at h0 hf⊢;simp only at h0 hf⊢;by_cases h1:Fs.da ⟨st,t,false⟩ o.af<0
 .rw[if_pos h1] at h0;cases h0
 .rw[if_neg h1] at h0 hf⊢;obtain⟨id,e1,e2⟩:=iB hF h1;obtain⟨e,he⟩:=jr hG e2;rw[e1,nz hF,he] at h0 hf⊢;simp only[wh,pV] at h0 hf⊢;by_cases hk:e.n.kind=1
  .rw[if_neg (by simpa using hk)] at h0 hf⊢;by_cases hm:192<o.at_+(o.aW.length:Int)
   .rw[if_pos hm] at h0;cases h0
   .rw[if_neg hm] at hf⊢;obtain⟨_,hid⟩:=hF.lt he;obtain⟨ln,qn,hq,hh⟩:=((hF.at_ id).some he).2;have HO:pf st e.n ln qn:=by
     rcases hh with⟨_,hh⟩|hd
     .exact hh
     .have:=hd.kd;rw[hk] at this;cases this
    have NM:=hF.fx hid;have Yk:gq G id=e.Q:=by unfold gq;rw[he]
    have WE:mQ st (cG ln qn++(cG l q++rL G id)):=NM.so.cR (by rw[Yk,hq];exact oE _ _ _);rcases hr:(if o.kind=3 then fy st e.n o.at_.toNat o.aW else fk st e.n o.at_.toNat) with⟨st1,n1,ok⟩
    rw[hr] at hf;simp only at hf⊢;have fF:ok=true:=by have:=zx hf;simpa using this
    subst fF;have IS:∃l' q',pf st1 n1 l' q'/\mQ st1 (cG l' q'++(cG l q++rL G id))/\dM st st1 (cG l q++rL G id)/\n1.bF=e.n.bF/\n1.kind=e.n.kind:=by
     split at hr
     .exact Ju HO WE ag hr
     .exact Pq HO WE ag hr
    obtain⟨l1,q1,g1,g2,g3,g4,g5⟩:=IS;have TK:FX st1 t G id (cG l1 q1) l q:=NM.step g3 g2
    let e':NE:=⟨n1,[],cG l1 q1⟩
    obtain⟨l2,q2,Fk⟩:=EL (e:=e') TK hid ⟨l1,q1,rfl,.inl ⟨rfl,g1⟩⟩ hf;exact⟨_,l2,q2,Fk,hG.same he Fk.wf (Rj hG.wf he hk).1.symm g5 g4⟩
  .rw[if_pos (by simpa using hk)] at h0;cases h0
theorem abw {af to:aA}(h:FS st t)(hp:aT to=true)(h0:(Fs.link ⟨st,t,false⟩ af to).2=0)(hf:(Fs.link ⟨st,t,false⟩ af to).1.cC=false):FS (Fs.link ⟨st,t,false⟩ af to).1.st (Fs.link ⟨st,t,false⟩ af to).1.t:=by
 obtain⟨G,l,q,hF,hG⟩:=h;unfold Fs.link at h0 hf⊢;simp only at h0 hf⊢;by_cases h1:Fs.da ⟨st,t,false⟩ af<0
 .rw[if_pos h1] at h0;cases h0
 .rw[if_neg h1] at h0 hf⊢;obtain⟨id,e1,e2⟩:=iB hF h1;obtain⟨ei,qO⟩:=jr hG e2;rw[e1,nz hF,qO] at h0 hf⊢;simp only[wh,pV] at h0 hf⊢;by_cases hk:ei.n.kind=1
  .rw[if_neg (by simpa using hk)] at h0 hf⊢;by_cases h2:0<(Fs.bD ⟨st,t,false⟩ to).2
   .rw[if_pos h2] at h0;simp only at h0;omega
   .rw[if_neg h2] at h0 hf⊢;obtain⟨at_,e,UP,_,e3,e4,e5,e6,e7⟩:=sK hF hp h2;rw[UP,l9 hF false e4 e5] at h0 hf⊢;by_cases Ai:9<=ei.n.bF\/12<=e.es.length
    .rw[if_pos Ai] at h0;cases h0
    .rw[if_neg Ai] at hf⊢;obtain⟨_,hid⟩:=hF.lt qO;have nJ:at_≠id:=λhc=>by rw[hc,qO] at e4;cases e4;rw[hk] at e5;cases e5
     have FY:id≠0:=λhc=>by obtain⟨r,hr,nG⟩:=hG.cy;rw[hc,hr] at qO;cases qO;rw[hk] at nG;cases nG
     obtain⟨alq,L9⟩:=Rj hG.wf qO hk
     let en:NE:=⟨{ei.n with bF:=ei.n.bF+1},[],ei.Q⟩
     have Oh:=xU hf;have Yk:gq G id=ei.Q:=by unfold gq;rw[qO]
     have NM:FX st t G id en.Q l q:=by have:=hF.fx hid;rw[Yk] at this;exact this
     have UD:J5 st en:=by
      obtain⟨ln,qn,hq,⟨_,hh⟩|hd⟩:=((hF.at_ id).some qO).2
      .exact⟨ln,qn,hq,.inl ⟨rfl,hh.tr,hh.kd,hh.sz,hh.mn,by show 1<=ei.n.bF+1/\ei.n.bF+1<=9;omega,hh.ft⟩⟩
      .have:=hd.kd;rw[hk] at this;cases this
     refine' zaI
     have zA:bz (gm e.es ⟨Fs.base to,id⟩)=true:=Cw tg e6 e7 (by show 1<=(id:Int)/\(id:Int)<=15;omega) ag;generalize o9:(Fs.put ⟨st,t,false⟩ id {ei.n with bF:=ei.n.bF+1})=fs at hf Oh⊢;have ya:rp fs.st fs.t (gI G id (some en)) l1 q1:=by rw[<-o9];exact ya
     obtain⟨st1,t1,zB⟩:=fs;simp only at Oh;subst Oh;obtain⟨e',l2,q2,Fk,g1,g2,g3⟩:=oV ya e4' e5 zA hf;have IB:bH G id=[]:=by rw[dV qO];exact alq
     have hE:∀k,bH (gI (gI G id (some en)) at_ (some e')) k=if k=at_ then gm e.es ⟨Fs.base to,id⟩ else bH G k:=λk=>by
      rw[gj];split
      .exact g1
      .rw[gj];split
       .rename_i hk;rw[hk,IB];rfl
       .rfl
     refine⟨_,l2,q2,Fk,Fk.wf,Fk.hi,?_,?_,?_,?_⟩
     .exact nA (nA hG.cy (λhc=>absurd hc FY)) (λ_=>g2)
     .intro k x hx;rw[hE] at hx;refine ma (ma ?_);split at hx
      .rcases ny.1 hx with rfl|hx
       .exact⟨ei,by simpa using qO⟩
       .rw[<-jC] at hx;exact hG.ids at_ x hx
      .exact hG.ids k x hx
     .intro j r hj hr;have c1:=mH (gI G id (some en)) (ya.lt e4').2 (some e') j;have c2:=mH G hid (some en) j;have c3:=Jy j e.es ⟨Fs.base to,id⟩;have c4:UO (some e')=gm e.es ⟨Fs.base to,id⟩:=g1;rw[dV e4',c4,c3] at c1;rw[IB] at c2;have c5:cE j (UO (some en))=0:=rfl;have c6:cE j []=0:=rfl;rw[c5,c6] at c2;simp only[uy] at c1;by_cases MM:j=at_
      .subst MM;rw[fu] at hr;cases hr
       rw[if_neg (λh=>nJ h.symm)] at c1;rw[g3];have:=hG.lk j e hj e4;omega
      .rw[fM _ _ MM] at hr;by_cases wK:j=id
       .subst wK;rw[fu] at hr;cases hr
        rw[if_pos rfl] at c1;show _=ei.n.bF+1;have:=hG.lk j ei hj qO;omega
       .rw[fM _ _ wK] at hr;rw[if_neg (λh=>wK h.symm)] at c1;have:=hG.lk j r hj hr;omega
     .obtain⟨d,hd⟩:=hG.ac;have alr:∀k,∀x∈bH G k,k≠id:=λk x hx hc=>by rw[hc,IB] at hx;cases hx
      refine⟨λk=>if k=id then d id+d at_+1 else d k,λk x hx=>?_⟩;rw[hE] at hx;show(if k=id then _ else _)<(if x.id.toNat=id then _ else _);split at hx
      .rename_i hk;rw[hk,if_neg nJ];rcases ny.1 hx with rfl|hx
       .rw[if_pos (by simp)];omega
       .rw[<-jC] at hx;have:=hd at_ x hx;split
        .omega
        .exact this
      .rw[if_neg (alr k x hx)];have:=hd k x hx;split
       .rename_i hc;rw[hc] at this;omega
       .exact this
  .rw[if_pos (by simpa using hk)] at h0;cases h0
theorem sL {l q:cW}(hF:rp st t G l q)(hG:Gd G)(hl:look G (aH af) 0=some id)(hid:id≠0):
  ∃(at_:Nat)(e:NE)(i:Nat),Fs.bM ⟨st,t,false⟩ af=((at_:Int),0)/\look G (aH af).dropLast 0=some at_/\G at_=some e/\e.n.kind=2/\eA e.es (Fs.base af)=some i/\i<e.es.length/\(e.es.getD i ⟨[],0⟩).id.toNat=id/\aH af≠[]:=by
 have hn:aH af≠[]:=λh=>by rw[h] at hl;cases hl;exact hid rfl
 have jG:=hl;rw[xV hn,oU] at jG;cases h1:look G (aH af).dropLast 0 with
 |none=>rw[h1] at jG;cases jG
 |some at_=>
  rw[h1] at jG;obtain⟨x,hx,hxn,hxi,hxe,hxf⟩:=vi jG;obtain⟨hee,e,he,hk,tg⟩:=mI hxe;have h2:=zw e.es (Fs.base af);rw[tg,hxf] at h2;cases hi:eA (bH G at_) (Fs.base af) with
  |none=>rw[hi] at h2;cases h2
  |some i=>
   rw[hi] at h2;simp only[wh] at h2;have h3:(bH G at_).getD i ⟨[],0⟩=x:=by injection h2
   refine⟨at_,e,i,?_,rfl,he,hk,by rw[tg];exact hi,by rw[tg];exact Pt hi,by rw[tg,h3];exact hxi,hn⟩;unfold Fs.bM;simp only;rw[if_neg hn];have L9:Fs.GQ ⟨st,t,false⟩ (aH af).dropLast 0=_:=xS hF false (aH af).dropLast 0;rw[L9,h1];simp only;rw[if_neg ag,nz hF,he];simp only[wh,pV];rw[if_neg (by simpa using hk)]
theorem Yp (h:FS st t)(h0:(Fs.qe ⟨st,t,false⟩ af).2=0)(hf:(Fs.qe ⟨st,t,false⟩ af).1.cC=false):FS (Fs.qe ⟨st,t,false⟩ af).1.st (Fs.qe ⟨st,t,false⟩ af).1.t:=by
 obtain⟨G,l,q,hF,hG⟩:=h;unfold Fs.qe at h0 hf⊢;simp only at h0 hf⊢;by_cases h1:Fs.da ⟨st,t,false⟩ af<0
 .rw[if_pos h1] at h0;cases h0
 .rw[if_neg h1] at h0 hf⊢;obtain⟨id,e1,e2⟩:=iB hF h1;obtain⟨ei,qO⟩:=jr hG e2;rw[e1,nz hF,qO] at h0 hf⊢;simp only[wh,pV] at h0 hf⊢;by_cases hb:(id:Int)=0\/(ei.n.kind=2/\0<ei.n.size)
  .rw[if_pos hb] at h0;cases h0
  .rw[if_neg hb] at h0 hf⊢;have FY:id≠0:=λhc=>hb (.inl ag)
   obtain⟨at_,e,i,p1,p2,p3,p4,p5,p6,p7,_⟩:=sL hF hG e2 FY;rw[p1] at h0 hf⊢;simp only at h0 hf⊢;rw[l9 hF false p3 p4,p5] at h0 hf⊢;simp only[pV] at h0 hf⊢;obtain⟨_,hid⟩:=hF.lt qO;have jC:=dV p3;have tg:bz e.es=true:=by have:=pG hG.wf at_;rwa [jC] at this
   have zA:=Jx tg (jq e.es i);have IB:bH G id=[]:=by
    rw[dV qO];obtain⟨ln,qn,hq,⟨h0,_⟩|hd⟩:=((hF.at_ id).some qO).2
    .exact h0
    .have iW:=hd.sz;have Vq:=hd.kd;have:ei.es=[]:=by
      by_cases hc:ei.es=[]
      .exact hc
      .have h3:=(lY hd.eo).2 hc;exact absurd (.inr ⟨Vq,ag⟩) hb
     exact this
   have nJ:at_≠id:=λhc=>by
    have:bH G at_=[]:=by rw[hc];exact IB
    rw[jC] at this;rw[this] at p6;simp at p6
   have JB:(Fs.bf ⟨st,t,false⟩ at_ (eu e.es i)).cC=false:=by
    by_cases hl:0<ei.n.bF-1
    .rw[if_pos hl] at hf;exact zx hf
    .rw[if_neg hl] at hf;by_cases hfu:(Fs.bf ⟨st,t,false⟩ at_ (eu e.es i)).cC=true
     .rw[if_pos hfu] at hf;exact hf
     .simpa using hfu
   obtain⟨e',l1,q1,ya,g1,g2,g3⟩:=oV hF p3 p4 zA JB;generalize o9:(Fs.bf ⟨st,t,false⟩ at_ (eu e.es i))=fs at hf JB ya⊢;obtain⟨st1,t1,zB⟩:=fs;simp only at JB;subst JB;have ae2:gI G at_ (some e') id=some ei:=by rw[fM _ _ (λh=>nJ h.symm)];exact qO
   have vy:∀j,iI (gI G at_ (some e')) j+(if id=j then 1 else 0)=iI G j:=λj=>by
    have c1:=mH G (hF.lt p3).2 (some e') j;have c4:UO (some e')=eu e.es i:=g1;rw[jC,c4] at c1;have c2:=Jz j p6;rw[p7] at c2;omega
   have JC:∀k x,x∈bH (gI G at_ (some e')) k->∃r,G x.id.toNat=some r:=λk x hx=>by
    rw[gj] at hx;split at hx
    .have hx:x∈e'.es:=hx;rw[g1] at hx;have:=(jq e.es i).subset hx;rw[<-jC] at this;exact hG.ids at_ x this
    .exact hG.ids k x hx
   obtain⟨d,hd⟩:=hG.ac;have Pu:∀k x,x∈bH (gI G at_ (some e')) k->d k<d x.id.toNat:=λk x hx=>by
    rw[gj] at hx;split at hx
    .rename_i hk;have hx:x∈e'.es:=hx;rw[g1] at hx;have:=(jq e.es i).subset hx;rw[<-jC] at this;rw[hk];exact hd at_ x this
    .exact hd k x hx
   have L9:=hG.lk id ei FY qO;have hci:=vy id;rw[if_pos rfl] at hci;have hE:∀(o:Option NE),UO o=[]->∀k,bH (gI (gI G at_ (some e')) id o) k=bH (gI G at_ (some e')) k:=λo ho k=>by
    rw[gj];split
    .rename_i hk;rw[ho,hk,gj,if_neg (λh=>nJ h.symm),IB]
    .rfl
   by_cases hl:0<ei.n.bF-1
   .rw[if_pos hl] at hf⊢;have x8:ei.n.kind=1:=by
     rcases hG.wf id ei qO with⟨hk,_⟩|⟨_,_,hk⟩
     .exact hk
     .omega
    let en:NE:=⟨{ei.n with bF:=ei.n.bF-1},[],ei.Q⟩
    have Yk:gq (gI G at_ (some e')) id=ei.Q:=by unfold gq;rw[ae2]
    have NM:FX st1 t1 (gI G at_ (some e')) id en.Q l1 q1:=by have:=ya.fx hid;rw[Yk] at this;exact this
    have UD:J5 st1 en:=by
     obtain⟨ln,qn,hq,⟨_,hh⟩|hd⟩:=((ya.at_ id).some ae2).2
     .have:=hh.lk;exact⟨ln,qn,hq,.inl ⟨rfl,hh.tr,hh.kd,hh.sz,hh.mn,by show 1<=ei.n.bF-1/\ei.n.bF-1<=9;omega,hh.ft⟩⟩
     .have:=hd.kd;rw[x8] at this;cases this
    obtain⟨l2,q2,Fk⟩:=EL (e:=en) NM hid UD hf;have hE2:=hE (some en) rfl;refine⟨_,l2,q2,Fk,Fk.wf,Fk.hi,nA (nA hG.cy (λ_=>g2)) (λhc=>absurd hc FY),λk x hx=>?_,λj r hj hr=>?_,d,λk x hx=>by rw[hE2] at hx;exact Pu k x hx⟩
    .rw[hE2] at hx;exact ma (ma (JC k x hx))
    .have hnr:iI (gI (gI G at_ (some e')) id (some en)) j=iI (gI G at_ (some e')) j:=by unfold iI;simp only[hE2]
     have hcj:=vy j;rw[hnr];by_cases wK:j=id
     .subst wK;rw[fu] at hr;cases hr
      show _=ei.n.bF-1;omega
     .rw[fM _ _ wK] at hr;rw[if_neg (λh=>wK h.symm)] at hcj;by_cases MM:j=at_
      .subst MM;rw[fu] at hr;cases hr
       rw[g3];have:=hG.lk j e hj p3;omega
      .rw[fM _ _ MM] at hr;have:=hG.lk j r hj hr;omega
   .rw[if_neg hl] at hf⊢;rw[if_neg (by simp)] at hf⊢;rcases tL:dY st1 t1 id with⟨eL,t2,ok⟩
    rw[tL] at hf;simp only at hf⊢;have fF:ok=true:=by simpa using hf
    subst fF;obtain⟨l2,q2,Fk⟩:=Jw ya ae2 tL;have hE2:=hE none rfl;have anB:1<=ei.n.bF:=by rcases hG.wf id ei qO with⟨_,_,hk,_⟩|⟨_,_,hk⟩<;>omega
    have hz:iI (gI G at_ (some e')) id=0:=by omega
    refine⟨_,l2,q2,Fk,Fk.wf,Fk.hi,?_,λk x hx=>?_,λj r hj hr=>?_,d,λk x hx=>by rw[hE2] at hx;exact Pu k x hx⟩
    .rw[fM _ _ (λh=>FY h.symm)];exact nA hG.cy (λ_=>g2)
    .rw[hE2] at hx;have fK:x.id.toNat≠id:=λhc=>by
      have Jv:k<16:=Cx ya.hi hx;have c1:1<=cE id (bH (gI G at_ (some e')) k):=Gj.2 ⟨x,hx,by simpa using hc⟩;have:=EK (λi=>cE id (bH (gI G at_ (some e')) i)) Jv;unfold iI at hz;omega
     rw[fM _ _ fK];exact ma (JC k x hx)
    .have hnr:iI (gI (gI G at_ (some e')) id none) j=iI (gI G at_ (some e')) j:=by unfold iI;simp only[hE2]
     have hcj:=vy j;rw[hnr];by_cases wK:j=id
     .subst wK;rw[fu] at hr;cases hr
     .rw[fM _ _ wK] at hr;rw[if_neg (λh=>wK h.symm)] at hcj;by_cases MM:j=at_
      .subst MM;rw[fu] at hr;cases hr
       rw[g3];have:=hG.lk j e hj p3;omega
      .rw[fM _ _ MM] at hr;have:=hG.lk j r hj hr;omega
end
section
variable {st:ar}{t:bX}
theorem Pv {s top r:aA}(hs:aT s=true)(ht:aT top=true){aO:List aA}(h:aH s=aH top++aO):under s top=true:=by
 unfold under;rw[hs,ht,h];simp
theorem JD {l a r:List aA}(hl:l≠[])(h:l.dropLast=a++r):∃aO,l=a++aO:=by
 refine⟨r++[l.getLast hl],?_⟩;rw[<-kG,<-h,List.dropLast_concat_getLast]
theorem abx {af to:aA}(h:FS st t)(SI:aT af=true)(hp:aT to=true)(h0:(Fs.move ⟨st,t,false⟩ af to).2=0)(hf:(Fs.move ⟨st,t,false⟩ af to).1.cC=false):FS (Fs.move ⟨st,t,false⟩ af to).1.st (Fs.move ⟨st,t,false⟩ af to).1.t:=by
 obtain⟨G,l,q,hF,hG⟩:=h;unfold Fs.move at h0 hf⊢;simp only at h0 hf⊢;by_cases h1:Fs.da ⟨st,t,false⟩ af<0
 .rw[if_pos h1] at h0;cases h0
 rw[if_neg h1] at h0 hf⊢;obtain⟨id,e1,e2⟩:=iB hF h1;obtain⟨ei,qO⟩:=jr hG e2;rw[e1] at h0 hf⊢;by_cases hz:(id:Int)=0
 .rw[if_pos hz] at h0;cases h0
 rw[if_neg hz] at h0 hf⊢;by_cases UQ:0<=Fs.da ⟨st,t,false⟩ to
 .rw[if_pos UQ] at h0;cases h0
 rw[if_neg UQ] at h0 hf⊢;by_cases IL:under to af=true
 .rw[if_pos IL] at h0;cases h0
 rw[if_neg IL] at h0 hf⊢;by_cases rD:0<(Fs.bM ⟨st,t,false⟩ to).2
 .rw[if_pos rD] at h0;simp only at h0;omega
 rw[if_neg rD] at h0 hf⊢;have FY:id≠0:=by omega
 obtain⟨at_,e,a1,a2,a3,a4,a5⟩:=zy hF rD;obtain⟨fr,ef,i,p1,p2,p3,p4,p5,p6,p7,p8⟩:=sL hF hG e2 FY;have aiw:=Yo a2 a3 a4 a5 (ML hF UQ);have aix:=JA hp a2;rw[a1,p1] at h0 hf⊢;simp only at h0 hf⊢;rw[l9 hF false p3 p4,p5,l9 hF false a4 a5] at h0 hf⊢;simp only[pV] at h0 hf⊢;obtain⟨_,hid⟩:=hF.lt qO;have EM:=dV p3;have zC:=dV a4;have aiy:bz ef.es=true:=by have:=pG hG.wf fr;rwa [EM] at this
 have als:bz e.es=true:=by have:=pG hG.wf at_;rwa [zC] at this
 have ac2:=Jx aiy (jq ef.es i);have c8:(eu ef.es i).length+1=ef.es.length:=by
  unfold eu;rw[bJ,cZ,gd];omega
 have anC:=(ib aiy).2.2;have aiz:1<=(id:Int)/\(id:Int)<=15:=by omega
 have BS:∀r,look G r id≠some at_:=by
  intro r hr;have h1:look G (aH af++r) 0=some at_:=by rw[oU,e2];exact hr
  have h2:=HM hG _ _ _ at_ e (cA _) a3 h1 a4 a5;obtain⟨aO,h3⟩:=JD a2 h2;exact IL (Pv (r:=to) hp SI h3)
 obtain⟨d,hd⟩:=hG.ac;by_cases vc:¬(at_:Int)=(fr:Int)/\12<=e.es.length
 .rw[if_pos vc] at h0;cases h0
 rw[if_neg vc] at h0 hf⊢;by_cases MN:(at_:Int)=(fr:Int)
 ·
  rw[if_pos MN] at hf⊢;have MN:at_=fr:=by omega
  subst MN;rw[a4] at p3;cases p3
  have zA:bz (gm (eu e.es i) ⟨Fs.base to,id⟩)=true:=Cw ac2 (λx hx=>aiw x ((jq e.es i).subset hx)) aix aiz ag;obtain⟨e',l1,q1,ya,g1,g2,g3⟩:=oV hF a4 a5 zA hf;have Ed:∀k x,x∈bH (gI G at_ (some e')) k->(k=at_/\x=⟨Fs.base to,id⟩)\/x∈bH G k:=λk x hx=>by
   rw[gj] at hx;split at hx
   .rename_i hk;have hx:x∈e'.es:=hx;rw[g1] at hx;rcases ny.1 hx with rfl|hx
    .exact .inl ⟨hk,rfl⟩
    .right;rw[hk,zC];exact(jq e.es i).subset hx
   .exact .inr hx
  have hdi:d at_<d id:=by
   have:e.es.getD i ⟨[],0⟩∈bH G at_:=by rw[zC,aR,bd p6];exact qS _
   have:=hd at_ _ this;rw[p7] at this;exact this
  refine⟨_,l1,q1,ya,ya.wf,ya.hi,nA hG.cy (λ_=>g2),λk x hx=>?_,λj r hj hr=>?_,d,λk x hx=>?_⟩
  .rcases Ed k x hx with⟨_,rfl⟩|hx
   .exact ma ⟨ei,by simpa using qO⟩
   .exact ma (hG.ids k x hx)
  .have c1:=mH G (hF.lt a4).2 (some e') j;have c4:UO (some e')=gm (eu e.es i) ⟨Fs.base to,id⟩:=g1;have c2:=Jz j p6;rw[zC,c4,Jy] at c1;rw[p7] at c2;simp only[uy] at c1;by_cases MM:j=at_
   .subst MM;rw[fu] at hr;cases hr
    rw[g3];have:=hG.lk j e hj a4;omega
   .rw[fM _ _ MM] at hr;have:=hG.lk j r hj hr;omega
  .rcases Ed k x hx with⟨rfl,rfl⟩|hx
   .simpa using hdi
   .exact hd k x hx
 ·
  rw[if_neg MN] at hf⊢;have fK:at_≠fr:=λh=>MN (by rw[h])
  simp only at hf⊢;have JB:=xU hf;obtain⟨UP,l1,q1,ya,g1,g2,g3⟩:=oV hF p3 p4 ac2 JB;generalize o9:(Fs.bf ⟨st,t,false⟩ fr (eu ef.es i))=fs at hf JB ya⊢;obtain⟨st1,t1,zB⟩:=fs;simp only at JB;subst JB;have a4':gI G fr (some UP) at_=some e:=by rw[fM _ _ fK];exact a4
  rw[l9 ya false a4' a5] at hf⊢;have zA:bz (gm e.es ⟨Fs.base to,id⟩)=true:=Cw als aiw aix aiz ag;obtain⟨e2',l2,q2,Fk,k1,k2,k3⟩:=oV ya a4' a5 zA hf;have Ed:∀k x,x∈bH (gI (gI G fr (some UP)) at_ (some e2')) k->(k=at_/\x=⟨Fs.base to,id⟩)\/x∈bH G k:=λk x hx=>by
   rw[gj] at hx;split at hx
   .rename_i hk;have hx:x∈e2'.es:=hx;rw[k1] at hx;rcases ny.1 hx with rfl|hx
    .exact .inl ⟨hk,rfl⟩
    .right;rw[hk,zC];exact hx
   .rw[gj] at hx;split at hx
    .rename_i hk;have hx:x∈UP.es:=hx;rw[g1] at hx
     right;rw[hk,EM];exact(jq ef.es i).subset hx
    .exact .inr hx
  refine⟨_,l2,q2,Fk,Fk.wf,Fk.hi,nA (nA hG.cy (λ_=>g2)) (λ_=>k2),λk x hx=>?_,λj r hj hr=>?_,?_⟩
  .rcases Ed k x hx with⟨_,rfl⟩|hx
   .exact ma (ma ⟨ei,by simpa using qO⟩)
   .exact ma (ma (hG.ids k x hx))
  .have c1:=mH G (hF.lt p3).2 (some UP) j;have c2:=mH (gI G fr (some UP)) (ya.lt a4').2 (some e2') j;have c3:=Jz j p6;have c4:UO (some UP)=eu ef.es i:=g1;have c5:UO (some e2')=gm e.es ⟨Fs.base to,id⟩:=k1;rw[EM,c4] at c1;rw[dV a4',c5,Jy] at c2;rw[p7] at c3;simp only[uy] at c2;by_cases MM:j=at_
   .subst MM;rw[fu] at hr;cases hr
    rw[k3];have:=hG.lk j e hj a4;omega
   .rw[fM _ _ MM] at hr;by_cases hjf:j=fr
    .subst hjf;rw[fu] at hr;cases hr
     rw[g3];have:=hG.lk j ef hj p3;omega
    .rw[fM _ _ hjf] at hr;have:=hG.lk j r hj hr;omega
  .classical
   refine⟨λk=>if(∃r,look G r id=some k) then d k+d at_+1 else d k,λk x hx=>?_⟩;show(if _ then _ else _)<(if _ then _ else _);rcases Ed k x hx with⟨rfl,rfl⟩|hx
   .rw[if_neg (λ⟨r,hr⟩=>BS r hr),if_pos ⟨[],by simp[look]⟩];rw[show((id:Int)).toNat=id from uy id];omega
   .have du:=hd k x hx;by_cases hk:∃r,look G r id=some k
    .obtain⟨r,hr⟩:=hk;rw[if_pos ⟨r,hr⟩,if_pos ⟨r++[x.name],by rw[oU,hr];exact TN hG.wf hx⟩];omega
    .rw[if_neg hk];by_cases Sk:∃r,look G r id=some x.id.toNat
     .rw[if_pos Sk];exact yb du (ik (Nat.le_add_right _ _) (Nat.le_add_right _ _))
     .rw[if_neg Sk];exact du
theorem AN {o:Pl.Op}(h:gJ o=true):aT o.af=true/\(o.kind=6\/o.kind=7->aT o.to=true)/\0<=o.at_/\o.at_<=192:=by
 unfold gJ at h;simp only at h;split at h
 .cases h
 .rename_i h1;split at h
  .cases h
  .simp only[mS,pU,bU,bQ,fR,not_or,wy] at h1 h;obtain⟨⟨⟨h2,h3⟩,h4⟩,h5⟩:=h1;refine⟨h3,λhk=>?_,?_⟩
   .cases hc:aT o.to with
    |true=>rfl
    |false=>exact absurd ⟨hk,hc⟩ h4
   .rcases h with h|⟨_,h⟩
    .omega
    .exact h
theorem Rk {o:Pl.Op}(h:FS st t)(ho:gJ o=true):FS (eT st t o).1 (eT st t o).2.1:=by
 obtain⟨hp,UQ,ha⟩:=AN ho;unfold eT;simp only;have jw:∀r:Fs×Int,(r.2=0->r.1.cC=false->FS r.1.st r.1.t)->FS (if(if r.2=0/\r.1.cC=true then 7 else r.2)≠0 then(st,t,(if r.2=0/\r.1.cC=true then 7 else r.2)) else(r.1.st,r.1.t,(if r.2=0/\r.1.cC=true then 7 else r.2))).1 (if(if r.2=0/\r.1.cC=true then 7 else r.2)≠0 then(st,t,(if r.2=0/\r.1.cC=true then 7 else r.2)) else(r.1.st,r.1.t,(if r.2=0/\r.1.cC=true then(7:Int) else r.2))).2.1:=by
  intro r hr;by_cases hc:r.2=0/\r.1.cC=true
  .rw[if_pos hc,if_pos (by decide)];exact h
  .rw[if_neg hc];by_cases hz:r.2=0
   .rw[if_neg (by simpa using hz)];exact hr hz (by simpa using λh=>hc ⟨hz,h⟩)
   .rw[if_pos hz];exact h
 apply jw;intro h0 hf;by_cases k1:o.kind=1
 .rw[if_pos k1] at h0 hf⊢;exact Ri (.inl rfl) h hp h0 hf
 rw[if_neg k1] at h0 hf⊢;by_cases k2:o.kind=2
 .rw[if_pos k2] at h0 hf⊢;exact Ri (.inr rfl) h hp h0 hf
 rw[if_neg k2] at h0 hf⊢;by_cases k5:o.kind=5
 .rw[if_pos k5] at h0 hf⊢;exact Yp h h0 hf
 rw[if_neg k5] at h0 hf⊢;by_cases k6:o.kind=6
 .rw[if_pos k6] at h0 hf⊢;exact abw h (UQ (.inl k6)) h0 hf
 rw[if_neg k6] at h0 hf⊢;by_cases k7:o.kind=7
 .rw[if_pos k7] at h0 hf⊢;exact abx h hp (UQ (.inr k7)) h0 hf
 rw[if_neg k7] at h0 hf⊢;exact TO h ha h0 hf
theorem Cy (h:FS st t):FS (next st) t:=by
 obtain⟨G,l,q,hF,hG⟩:=h;obtain⟨h1,h2,h3⟩:=aa5 hF.so;have yR:∀{p:jt},p∈cG l q++MH G->gk (next st) p=gk st p:=λhp=>h3 _ hp
 have Br:∀{l' q':cW},(∀p∈cG l' q',p∈cG l q++MH G)->∀j,tx (next st) l' j=tx st l' j:=λhm j=>nk λhh=>yR (hm _ (dz _ (dx.2 ⟨jA hh,hh⟩)))
 have Dq:∀{t':bX}{l' q':cW},(∀p∈cG l' q',p∈cG l q++MH G)->qM st t' l' q'->qM (next st) t' l' q':=λhm h=>h.ext (λp hp=>yR (hm p (cP _ hp))) (by rw[h2];omega)
 have Fe:∀p∈cG l q,p∈cG l q++MH G:=λp hp=>cP _ hp
 refine⟨G,l,q,⟨Dq Fe hF.tr,h1,λk=>?_,hF.hi⟩,hG⟩;have hk:=hF.at_ k;unfold At at hk⊢;cases hg:G k with
 |none=>rw[hg] at hk;simp only at hk⊢;rw[Br Fe,hk]
 |some e=>
  rw[hg] at hk;simp only at hk⊢;refine⟨by rw[Br Fe];exact hk.1,?_⟩;have Jv:=(hF.lt hg).2;have hm:∀p∈e.Q,p∈cG l q++MH G:=λp hp=>dz _ (ae0 Jv p (by unfold gq;rw[hg];exact hp))
  obtain⟨ln,qn,hq,hh⟩:=hk.2;rw[hq] at hm;refine⟨ln,qn,hq,?_⟩;rcases hh with⟨h0,hh⟩|hh
  .exact .inl ⟨h0,Dq hm hh.tr,hh.kd,hh.sz,hh.mn,hh.lk,λj hj=>by rw[Br hm];exact hh.ft j hj⟩
  .exact .inr ⟨Dq hm hh.tr,hh.kd,hh.eo,hh.sz,hh.lk,hh.mn,by rw[Br hm];exact hh.tx0⟩
theorem MO (same:Bool):mQ (bT same) []:=by
 refine⟨rfl,rfl,rfl,rfl,yj 1,by simp,λi hi=>?_,by simp[bT]⟩;show((zT i ([]++[]):Nat):Int)<=(List.replicate 64 (0:Int)).getD i 0;rw[aR,U1];split<;>simp[zT]
theorem wS (same:Bool):(pr (bT same) eY 0 ⟨2,1,0,eY⟩).2.2=true:=by
 cases same<;>decide+kernel
theorem MP (same:Bool):FS (mZ same).1 (mZ same).2:=by
 let G0:Gr:=λ_=>none
 let en:NE:=⟨⟨2,1,0,eY⟩,[],[]⟩
 have hgb:rL G0 0=[]:=by
  unfold rL;rw[List.flatMap_eq_nil_iff];intro k _;split<;>rfl
 have NM:FX (bT same) eY G0 0 en.Q (c9 16) []:=by
  refine⟨sD _,?_,λk hk=>?_,λk hk=>rfl⟩
  .rw[hgb];unfold cG;rw[lh];exact MO same
  .show tx _ _ k=[];unfold tx;rw[(sD (bT same)).hl k (by show(0:Int)<=_;omega),lH lG]
 have UD:J5 (bT same) en:=⟨c9 16,[],by unfold cG;rw[lh];rfl,.inr ⟨sD _,rfl,rfl,rfl,rfl,rfl,by unfold tx;rw[show(c9 16).getD 0 bq=bq from rfl,lH lG];rfl⟩⟩;have hp:=wS same;unfold mZ;simp only;rcases hr:pr (bT same) eY 0 ⟨2,1,0,eY⟩ with⟨st,t,ok⟩
 rw[hr] at hp;simp only at hp;subst hp;obtain⟨l',q',hF⟩:=Yj (e:=en) NM ag UD hr;have hE:∀k,bH (gI G0 0 (some en)) k=[]:=λk=>by
  rw[gj];split<;>rfl
 refine⟨_,l',q',hF,hF.wf,hF.hi,⟨en,fu _ _ _,rfl⟩,λk x hx=>?_,λj r hj hr=>?_,λ_=>0,λk x hx=>?_⟩
 .rw[hE] at hx;cases hx
 .rw[fM _ _ hj] at hr;cases hr
 .rw[hE] at hx;cases hx
theorem MQ:∀o∈first,gJ o=true:=by decide+kernel
end
section
variable {G:Gr}{n k m:Nat}{e:NE}{t:bX}{q:cW}
theorem MR {d:Nat->Nat}{a b:Nat}(h:d a<d b):∀n:Nat,((List.range n).countP λj=>decide (d j<d a))<=((List.range n).countP λj=>decide (d j<d b))/\(a<n->((List.range n).countP λj=>decide (d j<d a))<((List.range n).countP λj=>decide (d j<d b)))
 |0=>by simp
 |n+1=>by
  have ih:=MR h n;rw[AZ,A1,A1];simp only[iC,Ki,nF,bQ];constructor
  .have:=ih.1;split<;>split<;>omega
  .intro ha;by_cases hn:a=n
   .subst hn;have:=ih.1;rw[if_neg ag,if_pos h];omega
   .have:=ih.2 ag;split<;>split<;>omega
theorem HP (h:Gd G):∃d:Nat->Nat,(∀k,∀x∈bH G k,d k<d x.id.toNat)/\∀k,d k<=16:=by
 obtain⟨d,hd⟩:=h.ac;refine⟨λk=>(List.range 16).countP λj=>decide (d j<d k),λk x hx=>?_,λk=>?_⟩
 .exact(MR (hd k x hx) 16).2 (Cx h.hi hx)
 .have:=F3 (p:=λj=>decide (d j<d k)) (l:=List.range 16);simpa using this
def wl (G:Gr):Nat->a6->List a6
 |0,x=>[x]
 |f+1,x=>x::(bH G x.id.toNat).flatMap λe=>wl G f ⟨dU x.af e.name,e.id⟩
def cF (j:Nat)(l:List a6):Nat:=l.countP λx=>decide (x.id.toNat=j)
def nn (G:Gr):Nat->Nat->Nat->Nat
 |0,k,j=>if k=j then 1 else 0
 |f+1,k,j=>(if k=j then 1 else 0)+((bH G k).map λe=>nn G f e.id.toNat j).sum
theorem Yq (G:Gr)(j:Nat):∀(f:Nat)(x:a6),cF j (wl G f x)=nn G f x.id.toNat j
 |0,x=>by simp[cF,wl,nn,iC]
 |f+1,x=>by
  rw[wl,nn];unfold cF;rw[iC,List.countP_flatMap,Nat.add_comm];have:∀e:aZ,List.countP (λx=>decide (x.id.toNat=j)) (wl G f ⟨dU x.af e.name,e.id⟩)=nn G f e.id.toNat j:=λe=>Yq G j f ⟨dU x.af e.name,e.id⟩
  simp only[Function.comp_def,this,bQ]
def sm (n:Nat)(f:Nat->Nat):Nat:=((List.range n).map f).sum
theorem rq (n:Nat)(f:Nat->Nat):sm (n+1) f=sm n f+f n:=by
 unfold sm;rw[AZ,J7,Kl];simp
theorem Pw (n:Nat)(f g:Nat->Nat):sm n (λa=>f a+g a)=sm n f+sm n g:=by
 induction n with
 |zero=>rfl
 |succ n ih=>rw[rq,rq,rq,ih];omega
theorem qz {f g:Nat->Nat}(h:∀a,a<n->f a=g a):sm n f=sm n g:=by
 induction n with
 |zero=>rfl
 |succ n ih=>rw[rq,rq,ih (λa ha=>h a ag),h n ag]
theorem vW (n:Nat):sm n (λ_=>0)=0:=by
 induction n with
 |zero=>rfl
 |succ n ih=>rw[rq,ih]
theorem Px (M:Nat->Nat):∀{n:Nat},k<n->sm n (λa=>(if k=a then 1 else 0)*M a)=M k
 |0,h=>by omega
 |n+1,h=>by
  rw[rq];by_cases hk:k=n
  .subst hk;rw[if_pos rfl,qz (g:=λ_=>0) (λa ha=>by rw[if_neg ag];simp),vW];omega
  .rw[if_neg hk,Px M ag];omega
theorem Rl {α:Type}(n:Nat)(F:α->Nat->Nat)(M:Nat->Nat):∀l:List α,sm n (λa=>(l.map λe=>F e a).sum*M a)=(l.map λe=>sm n λa=>F e a*M a).sum
 |[]=>by simp[vW]
 |x::l=>by
  simp only[vp,CL,mK];rw[Pw,Rl n F M l]
theorem JE {α:Type}(l:List α)(f g:α->Nat):(l.map λe=>f e+g e).sum=(l.map f).sum+(l.map g).sum:=by
 induction l with
 |nil=>rfl
 |cons x l ih=>simp only[vp,CL,ih];omega
theorem ae3 (j:Nat)(l:List aZ):(l.map λe=>if e.id.toNat=j then 1 else 0).sum=cE j l:=by
 unfold cE;induction l with
 |nil=>rfl
 |cons x l ih=>rw[vp,CL,ih,iC];simp;omega
theorem Rm (h:Gd G){d:Nat->Nat}(hd:∀k,∀x∈bH G k,d k<d x.id.toNat)(IA:∀k,d k<=16)(j:Nat):∀(f k:Nat),17<=f+d k->k<16->nn G f k j=(if k=j then 1 else 0)+sm 16 λa=>nn G f k a*cE j (bH G a)
 |0,k,hf,_=>by have:=IA k;omega
 |f+1,k,hf,hk=>by
  have e1:∀a,nn G (f+1) k a=(if k=a then 1 else 0)+((bH G k).map λe=>nn G f e.id.toNat a).sum:=λa=>rfl
  rw[e1 j];simp only[e1,mK];have e3:=Rl 16 (λ(e:aZ) a=>nn G f e.id.toNat a) (λa=>cE j (bH G a)) (bH G k);rw[Pw,Px (λa=>cE j (bH G a)) hk,e3];have e2:((bH G k).map λe=>nn G f e.id.toNat j)=(bH G k).map λe=>(if e.id.toNat=j then 1 else 0)+sm 16 λa=>nn G f e.id.toNat a*cE j (bH G a):=by
   apply Fl;intro e he;have hid:=vV h.wf he;have:=hd k e he;exact Rm h hd IA j f e.id.toNat ag ag
  rw[e2,JE,ae3]
theorem Yr {α:Type}(l:List α):(l.map λ_=>0).sum=0:=by
 induction l with
 |nil=>rfl
 |cons x l ih=>rw[vp,CL,ih]
theorem Ys (h:Gd G){j:Nat}(hj:G j=none):∀(f k:Nat),(∃e,G k=some e)->nn G f k j=0
 |0,k,⟨e,he⟩=>by
  unfold nn;rw[if_neg];rintro rfl;rw[hj] at he;cases he
 |f+1,k,⟨e,he⟩=>by
  unfold nn;rw[if_neg (by rintro rfl;rw[hj] at he;cases he)];have:((bH G k).map λe=>nn G f e.id.toNat j)=(bH G k).map λ_=>0:=by
   apply Fl;intro x hx;exact Ys h hj f _ (h.ids k x hx)
  rw[this,Yr]
theorem zD (G:Gr)(j:Nat):iI G j=sm 16 λa=>cE j (bH G a):=rfl
theorem MS (h:Gd G){f:Nat}(hf:17<=f):∀j e,G j=some e->((nn G f 0 j:Nat):Int)=e.n.bF:=by
 obtain⟨d,hd,IA⟩:=HP h;have HK:=λj=>Rm h hd IA j f 0 ag ag
 have aiA:∀(m j:Nat)(e:NE),d j<=m->G j=some e->e.n.kind=2->nn G f 0 j=1:=by
  intro m;induction m with
  |zero=>
   intro j e hm he hk;have hM:∀a,cE j (bH G a)=0:=λa=>by
    unfold cE;rw[uz];intro x hx;simp only[bQ];intro hc;have:=hd a x hx;rw[hc] at this;omega
   rw[HK,qz (g:=λ_=>0) (λa _=>by rw[hM];simp),vW];by_cases hj:0=j
   .rw[if_pos hj]
   .have:=h.lk j e (λhc=>hj hc.symm) he;have hz:iI G j=0:=by
     rw[zD,qz (g:=λ_=>0) (λa _=>hM a),vW]
    rw[hz] at this;rcases h.wf j e he with⟨x8,_⟩|⟨_,_,hl⟩
    .rw[hk] at x8;cases x8
    .omega
  |succ m ih=>
   intro j e hm he hk;have key:sm 16 (λa=>nn G f 0 a*cE j (bH G a))=iI G j:=by
    rw[zD];apply qz;intro a ha;rcases wc (cE j (bH G a)) with hz|hp
    .rw[hz];simp
    .obtain⟨x,hx,hxj⟩:=Gj.1 hp;have du:=hd a x hx;have hxj:x.id.toNat=j:=by simpa using hxj
     rw[hxj] at du;obtain⟨_,ea,hea,hka,_⟩:=mI (xR h.wf hx);rw[ih a ea ag hea hka,Nat.one_mul]
   rw[HK,key];by_cases hj:0=j
   .subst hj;have hz:iI G 0=0:=by
     rw[zD];have hM:∀a,cE 0 (bH G a)=0:=λa=>by
      unfold cE;rw[uz];intro x hx;have:=vV h.wf hx;simp only[bQ];omega
     rw[qz (g:=λ_=>0) (λa _=>hM a),vW]
    rw[hz];rfl
   .have:=h.lk j e (λhc=>hj hc.symm) he;rcases h.wf j e he with⟨x8,_⟩|⟨_,_,hl⟩
    .rw[hk] at x8;cases x8
    .rw[if_neg hj];omega
 intro j e he;rcases h.wf j e he with⟨x8,_,_⟩|⟨yH,_,hl⟩
 .have hj:j≠0:=λhc=>by subst hc;obtain⟨r,hr,nG⟩:=h.cy;rw[hr] at he;cases he;rw[x8] at nG;cases nG
  have key:sm 16 (λa=>nn G f 0 a*cE j (bH G a))=iI G j:=by
   rw[zD];apply qz;intro a ha;rcases wc (cE j (bH G a)) with hz|hp
   .rw[hz];simp
   .obtain⟨x,hx,_⟩:=Gj.1 hp;obtain⟨_,ea,hea,hka,_⟩:=mI (xR h.wf hx);rw[aiA (d a) a ea (cA _) hea hka,Nat.one_mul]
  rw[<-h.lk j e hj he,HK,if_neg (λhc=>hj hc.symm),nF,key]
 .rw[aiA (d j) j e (cA _) he yH,hl];rfl
theorem Yt:∀l:List a6,(∀x∈l,x.id.toNat<16)->l.length=sm 16 λj=>cF j l
 |[],_=>(vW 16).symm
 |x::l,h=>by
  have ih:=Yt l (λy hy=>h y (by simp[hy]));have:∀j,cF j (x::l)=cF j l+(if x.id.toNat=j then 1 else 0)*1:=λj=>by simp[cF,iC]
  rw[cY,ih,qz (λj _=>this j),Pw,Px (λ_=>1) (h x (by simp))]
def vj (m:Nat)(p:aA):Prop:=∃ad:List aA,(∀s∈ad,bG s=true)/\ad.length<=m/\p=pathOf ad
theorem TP (ad:List aA)(h:∀s∈ad,bG s=true):(ad.map λs=>47::s).flatten.length<=5*ad.length:=by
 induction ad with
 |nil=>simp
 |cons s l ih=>
  have:=(rk (h s (by simp))).2;have:=ih (λx hx=>h x (by simp[hx]));rw[vp,List.flatten_cons,bJ];simp only[cY];omega
theorem vj.len {p:aA}(h:vj m p):1<=p.length/\p.length<=5*m+1:=by
 obtain⟨ad,h1,h2,rfl⟩:=h;unfold pathOf;split
 .simp
 .rename_i hn;have:=TP ad h1;refine⟨?_,ag⟩;cases ad with
  |nil=>exact absurd rfl hn
  |cons s l=>simp
theorem vj.add {p s:aA}(h:vj m p)(hs:bG s=true):vj (m+1) (dU p s):=by
 obtain⟨ad,h1,h2,rfl⟩:=h;refine⟨ad++[s],λx hx=>?_,by simp;omega,?_⟩
 .rcases eX.1 hx with hx|hx
  .exact h1 x hx
  .have:x=s:=by simpa using hx
   rw[this];exact hs
 .unfold dU pathOf;rw[if_neg (show ad++[s]≠[] by simp)];cases ad with
  |nil=>simp
  |cons a l=>
   rw[if_neg (show a::l≠[] by simp)];rw[if_neg]
   .simp
   .intro hc;have:=fI List.length hc;have ha:=(rk (h1 a (by simp))).2;rw[vp,List.flatten_cons,bJ] at this;simp at this;omega
theorem Yu (h:Gd G):∀(f m:Nat)(x:a6),0<=x.id->(∃e,G x.id.toNat=some e)->vj m x.af->∀y∈wl G f x,(0<=y.id/\∃e,G y.id.toNat=some e)/\vj (m+f) y.af
 |0,m,x,h0,he,hp,y,hy=>by
  have:y=x:=by simpa[wl] using hy
  subst this;exact⟨⟨h0,he⟩,hp⟩
 |f+1,m,x,h0,he,hp,y,hy=>by
  rw[wl] at hy;rcases bR.1 hy with rfl|hy
  .obtain⟨n,h1,h2,h3⟩:=hp;exact⟨⟨h0,he⟩,n,h1,ag,h3⟩
  .obtain⟨e,hee,hy⟩:=ph.1 hy;have hid:=vV h.wf hee;have:=Yu h f (m+1) ⟨dU x.af e.name,e.id⟩ (by show 0<=e.id;omega) (h.ids _ e hee) (hp.add hid.2.2) y hy;rw[show m+(f+1)=m+1+f by omega];exact this
theorem Gd.lt (h:Gd G)(he:G k=some e):k<16:=by
 by_cases hk:k<16
 .exact hk
 .rw[h.hi k ag] at he;cases he
theorem ae4 (h:Gd G){f:Nat}(hf:17<=f)(p:aA)(hp:vj 0 p):(wl G f ⟨p,0⟩).length<=144:=by
 obtain⟨r,hr,nG⟩:=h.cy;have bS:=Yu h f 0 ⟨p,0⟩ (yj 0) ⟨r,hr⟩ hp;rw[Yt _ (λx hx=>by obtain⟨⟨_,e,he⟩,_⟩:=bS x hx;exact h.lt he)];have hle:∀j,cF j (wl G f ⟨p,0⟩)<=9:=λj=>by
  rw[Yq];show nn G f 0 j<=9;cases hg:G j with
  |none=>rw[Ys h hg f 0 ⟨r,hr⟩];omega
  |some e=>
   have:=MS h hf j e hg;rcases h.wf j e hg with⟨_,_,_,hl⟩|⟨_,_,hl⟩<;>omega
 have:∀n,sm n (λj=>cF j (wl G f ⟨p,0⟩))<=9*n:=λn=>by
  induction n with
  |zero=>exact cA _
  |succ n ih=>rw[rq];have:=hle n;omega
 exact this 16
theorem MT (h:Gd G){d:Nat->Nat}(hd:∀k,∀x∈bH G k,d k<d x.id.toNat)(IA:∀k,d k<=16){kind:Nat->Int}{E:Nat->Option (List aZ)}(hn:∀k e,G k=some e->k<n)(hk:∀k e,G k=some e->kind k=e.n.kind)(hE:∀k,E k=nw (G k)):
  ∀(f:Nat)(x:a6)(out:List a6),17<=f+d x.id.toNat->0<=x.id->(∃e,G x.id.toNat=some e)->out.length+(wl G f x).length<=144->jk n kind E f x out=(out++wl G f x,true)
 |0,x,out,hf,_,_,_=>by have:=IA x.id.toNat;omega
 |f+1,x,out,hf,h0,⟨e,he⟩,hl=>by
  rw[jk,wl];rw[wl,cY] at hl;have hxn:=hn _ e he;have hkx:=hk _ e he;rw[if_neg]
  .rcases h.wf _ e he with⟨x8,tg,_⟩|⟨yH,_,_⟩
   .rw[if_pos (by rw[hkx,x8])];rw[dV he,tg];rfl
   .rw[if_neg (by rw[hkx,yH];decide),hE,xQ he yH,dV he];rw[dV he] at hl;simp only;have bS:∀y∈e.es,y∈bH G x.id.toNat:=λy hy=>by rw[dV he];exact hy
    have key:∀(l:List aZ)(o:List a6),(∀y∈l,y∈bH G x.id.toNat)->o.length+(l.flatMap λe=>wl G f ⟨dU x.af e.name,e.id⟩).length<=144->
      l.foldl (λr e=>if r.2=true then jk n kind E f ⟨dU x.af e.name,e.id⟩ r.1 else r) (o,true)=(o++l.flatMap λe=>wl G f ⟨dU x.af e.name,e.id⟩,true):=by
     intro l;induction l with
     |nil=>intro o _ _;simp
     |cons y l ih=>
      intro o hm c8;rw[mo,bJ] at c8;rw[wi];simp only[if_true];have hy:=hm y (by simp);have hid:=vV h.wf hy;have hdy:=hd _ y hy;rw[MT h hd IA hn hk hE f ⟨dU x.af y.name,y.id⟩ o (by show 17<=f+d y.id.toNat;omega) (by show 0<=y.id;omega) (h.ids _ y hy) ag];rw[ih _ (λz hz=>hm z (by simp[hz])) (by rw[bJ];omega),mo,kG]
    rw[key e.es (out++[x]) bS (by rw[bJ,A5];omega)];simp
  .rw[hkx];have hkk:¬e.n.kind=0:=by rcases h.wf _ e he with⟨x8,_⟩|⟨yH,_⟩<;>omega
   simp only[mS,bQ,pU,fR,zX,mb,bJ,A5];omega
theorem rp.fm {st:ar}{l q:cW}(h:rp st t G l q):(Go.Pl.fm st t).length=t.many.toNat/\∀k,(Go.Pl.fm st t).getD k bu=((G k).map (·.n)).getD bu:=by
 have hl:(Go.Pl.fm st t).length=t.many.toNat:=by unfold Go.Pl.fm;rw[ux,oT h.tr];simp
 refine⟨hl,λk=>?_⟩;have x9:=h.tr.mn;have nJ:=(h.at_ k).get;by_cases hk:k<t.many.toNat
 .unfold Go.Pl.fm;rw[aR,BK,oT h.tr,BK,RL hk];simp only[wh,pV];rw[nJ]
 .rw[aR,rT ag];rw[xP h.tr ag,u7] at nJ;rw[<-nJ]
theorem rp.JF {st:ar}{l q:cW}(h:rp st t G l q)(he:G k=some e):∃R,mQ st (e.Q++R):=by
 have hk:=(h.lt he).2;refine⟨rL G k++cG l q,h.so.cR ?_⟩;refine(pj _ (sI G hk)).trans ?_;have e1:gq G k=e.Q:=by unfold gq;rw[he]
 rw[e1];refine List.perm_append_comm.trans ?_;rw[kG]
theorem rp.TQ {st:ar}{l q:cW}(h:rp st t G l q)(he:G k=some e):fg st e.n.aS=true:=by
 refine' za6
 .exact sH hh.tr hR
 .exact sH hh.tr hR
theorem rp.table {st:ar}{l q:cW}(h:rp st t G l q):oz st t=true:=by
 unfold oz;rw[sH h.tr h.so,yf,gQ,oT h.tr];intro s hs;obtain⟨k,hk,rfl⟩:=kO.1 hs;have nJ:=(h.at_ k).get;cases hg:G k with
 |none=>rw[(h.at_ k).none hg];rfl
 |some e=>
  rw[hg] at nJ;rw[nJ];simp only[wh];rw[h.TQ hg];simp
theorem rp.file {st:ar}{l q:cW}(h:rp st t G l q)(he:G k=some e)(hk:e.n.kind=1):kX st e.n=true/\(bA st e.n).length<=192:=by
 refine' za6
 .refine⟨TI hh.tr hR hh.ok hk hh.ft,?_⟩;have h1:=nu hh.tr hh.sz.1 hh.mn hh.ft;have h2:=hh.sz;omega
 .have:=hh.kd;rw[hk] at this;cases this
structure ac3 (f:Flat):Prop where
 n0:f.ad≠[]
 t0:f.ae≠[]
 nl:f.ad.length<=144
 tl:f.ae.length<=16
 nm:∀x∈f.ad,vj 146 x.af/\0<=x.id/\x.id<=15
 th:∀x∈f.ae,0<=x.id/\x.id<=15/\x.aW.length<=192
theorem EN {st:ar}{out:List a6}:∀(L:List iG)(k:Nat),(∀i,i<L.length->((L.getD i bu).kind≠0->lD out (k+i)=(L.getD i bu).bF)/\((L.getD i bu).kind=1->kX st (L.getD i bu)=true))->lE st out k L=true
 |[],k,_=>rfl
 |n::L,k,h=>by
  rw[lE,EN L (k+1) (λi hi=>by
   have:=h (i+1) (by simp;omega);rw[AY] at this;rw[show k+1+i=k+(i+1) by omega];exact this)]
  have:=h 0 (by simp);rw[Kk,wY] at this;simp only[Kg,pU,CG,zX,mb,CF];constructor
  .by_cases hk:n.kind=0
   .left;simpa using hk
   .right;rw[this.1 hk];simp
  .by_cases hk:n.kind=1
   .right;exact this.2 hk
   .left;exact hk
theorem HQ {st:ar}:∀(L:List iG)(k:Nat),(∀i,i<L.length->(L.getD i bu).kind=1->(bA st (L.getD i bu)).length<=192)->k+L.length<=16->(gK st k L).length<=L.length/\∀x∈gK st k L,0<=x.id/\x.id<=15/\x.aW.length<=192
 |[],k,_,_=>by simp[gK]
 |n::L,k,h,hl=>by
  rw[cY] at hl;obtain⟨h1,h2⟩:=HQ L (k+1) (λi hi=>by have:=h (i+1) (by simp;omega);rwa [AY] at this) ag;have h0:=h 0 (by simp);rw[Kk] at h0;rw[gK];refine⟨?_,λx hx=>?_⟩
  .rw[bJ,cY];split
   .simp;omega
   .split<;>simp<;>omega
  .rcases eX.1 hx with hx|hx
   .split at hx
    .have:x=⟨k,true,[]⟩:=by simpa using hx
     subst this;simp;omega
    .split at hx
     .rename_i hk;have:x=⟨k,false,bA st n⟩:=by simpa using hx
      subst this;have:=h0 hk;simp;omega
     .cases hx
   .exact h2 x hx
theorem aiB (G:Gr)(f:Nat)(x:a6):wl G f x≠[]:=by cases f<;>simp[wl]
theorem JG {st:ar}(h:FS st t):∃f,IV st t=some f/\ac3 f:=by
 obtain⟨G,l,q,hF,hG⟩:=h;obtain⟨d,hd,IA⟩:=HP hG;obtain⟨nC,hng⟩:=hF.fm;obtain⟨r,hr,nG⟩:=hG.cy;have x9:=hF.tr.mn;have hr0:=hF.lt hr;have Wa:vj 0 [47]:=⟨[],by simp,by simp,rfl⟩;have c8:=ae4 hG (f:=146) ag [47] Wa;have fJ:∀k e,G k=some e->(fm st t).getD k bu=e.n:=λk e he=>by rw[hng,he];rfl
 have ac4:walk st (fm st t) 146 ⟨[47],0⟩ []=([]++wl G 146 ⟨[47],0⟩,true):=by
  apply MT hG hd IA
  .intro k e he;have:=hF.lt he;omega
  .intro k e he;rw[fJ k e he]
  .intro k;have:=hF.bK k;rw[hF.jj] at this;rw[hng];exact this
  .show 17<=146+_;omega
  .decide
  .exact⟨r,hr⟩
  .simpa using c8
 rw[pT] at ac4;have bS:=Yu hG 146 0 ⟨[47],0⟩ (by decide) ⟨r,hr⟩ Wa;have hgo:lE st (wl G 146 ⟨[47],0⟩) 0 (fm st t)=true:=by
  apply EN;intro i hi;rw[nF];cases hg:G i with
  |none=>
   have:(fm st t).getD i bu=bu:=by rw[hng,hg];rfl
   rw[this];exact⟨λh=>absurd rfl h,λh=>by cases h⟩
  |some e=>
   rw[fJ i e hg];refine⟨λ_=>?_,λhk=>(hF.file hg hk).1⟩;rw[<-MS hG (f:=146) ag i e hg];have:=Yq G i 146 ⟨[47],0⟩;rw[show(⟨[47],0⟩:a6).id.toNat=0 from rfl] at this;rw[<-this];unfold lD cF;rw[List.countP_eq_length_filter]
   congr 2
   apply List.filter_congr;intro x hx;have:=(bS x hx).1.1;rw[Gg];omega
 have uv:¬(fm st t=[]\/((fm st t).headD bu).kind≠2):=by
  have h0:=fJ 0 r hr;rintro(hc|hc)
  .rw[hc] at nC;simp at nC;omega
  .have:(fm st t).headD bu=r.n:=by
    rw[<-h0];cases fm st t<;>rfl
   rw[this] at hc;exact hc nG
 have B2:lX st t=some (wl G 146 ⟨[47],0⟩):=by
  unfold lX;rw[if_neg (by rw[hF.table];simp)];simp only;rw[if_neg uv,ac4];simp only;rw[if_pos hgo]
 refine⟨⟨wl G 146 ⟨[47],0⟩,gK st 0 (fm st t)⟩,by unfold IV;rw[B2],?_⟩;obtain⟨ht1,ht2⟩:=HQ (st:=st) (fm st t) 0 (λi hi hk=>by
  cases hg:G i with
  |none=>
   have:(fm st t).getD i bu=bu:=by rw[hng,hg];rfl
   rw[this] at hk;cases hk
  |some e=>
   rw[fJ i e hg] at hk⊢;exact(hF.file hg hk).2) ag
 refine⟨aiB _ _ _,?_,c8,by show(gK st 0 (fm st t)).length<=16;omega,λx hx=>?_,ht2⟩
 .show gK st 0 (fm st t)≠[];have h0:=fJ 0 r hr;cases hn:fm st t with
  |nil=>rw[hn] at nC;simp at nC;omega
  |cons n L=>
   rw[hn,Kk] at h0;rw[gK,h0,if_pos nG];simp
 .obtain⟨⟨h1,e,he⟩,h2⟩:=bS x hx;have:=hG.lt he;rw[nF] at h2;exact⟨h2,h1,ag⟩
end
end Go.Pg
namespace Go.Pl
open Go Go.Ev Go.Lg Go.Proofs
theorem Yv (st:ar)(t:bX)(k:Int):j5 ((jj st t k).getD bu):=by
 unfold jj;split
 .exact j5.no
 .cases h:eP (Sr st t k.toNat) with
  |none=>exact j5.no
  |some n=>exact j5.of (Pg.xE h).1
theorem BA:∀(w:List aA)(k n:Nat)(st:ar)(t:bX),(∀s∈w,s.length<=3000)->k+w.length<=16->dv n st->eb t->dv (n+30*w.length) (lC w k st t).1/\eb (lC w k st t).2.1
 |[],k,n,st,t,_,_,h,ht=>⟨h,ht⟩
 |s::w,k,n,st,t,hs,hk,h,ht=>by
  rw[cY] at hk;have bS:=nt (k:=k) (z:=s) h ht ag (hs s (by simp));rw[lC,cY];rcases hp:nH st t k s with⟨eL,t2,ok⟩
  rw[hp] at bS;cases ok with
  |true=>
   have:=BA w (k+1) (n+30) eL t2 (λx hx=>hs x (by simp[hx])) ag bS.1 bS.2.1;exact⟨this.1.mono ag,this.2⟩
  |false=>exact⟨bS.1.mono ag,ht⟩
theorem BB {n:Nat}{st:ar}{t:bX}{z:aA}(h:dv n st)(ht:eb t):dv (n+600) (kz st t z).1/\eb (kz st t z).2.1:=by
 unfold kz;simp only;split
 .exact⟨h.mono ag,ht⟩
 .have bS:=BA (dw (z.length+1) z) 0 n st t (λs hs=>by have:=xN _ _ s hs;omega) ag h ht;rcases hp:lC (dw (z.length+1) z) 0 st t with⟨eL,t2,ok⟩
  rw[hp] at bS;cases ok with
  |false=>exact⟨bS.1.mono ag,bS.2⟩
  |true=>
   have h3:=zr (many:=((dw (z.length+1) z).length:Int)) bS.1 bS.2 ag;exact⟨h3.1.mono ag,h3.2.1⟩
structure sM (n:Nat)(f:Fs):Prop where
 st:dv n f.st
 t:eb f.t
theorem sM.mono {n m:Nat}{f:Fs}(h:sM n f)(hm:n<=m):sM m f:=⟨h.st.mono hm,h.t⟩
theorem sM.put {n:Nat}{f:Fs}(h:sM n f){k:Int}(hk:k.toNat<16)(x:iG):sM (n+30) (f.put k x):=by
 unfold Fs.put;split
 .exact h.mono ag
 .have:=nt (k:=k.toNat) (z:=fZ x) h.st h.t hk (by have:=xO x;omega);unfold pr;exact⟨this.1,this.2.1⟩
theorem sM.bf {n:Nat}{f:Fs}(h:sM n f){k:Int}(hk:k.toNat<16)(l:List aZ):sM (n+630) (f.bf k l):=by
 unfold Fs.bf;split
 .exact h.mono ag
 .have:=BB (z:=bg l) h.st (Yv f.st f.t k).tr;exact sM.put (f:=⟨_,f.t,_⟩) ⟨this.1,h.t⟩ hk _
theorem EO (s:St)(b:Nat)(v:SA)(f:Fs)(h:dv 100000 f.st)(ht:eb f.t)(z:aA)(hz:z.length<=90000)(hp:aT z=true)(hr:lJ s b v f):bP 154 [bc b,sv z] s (tN b v) (.tuple ⟨[iv (f.bD z).1,iv (f.bD z).2]⟩):=by
 have NL:=ED.bx hr;have tL:=ED.rw hr;have uj:=ED.rf hr;have uq:=ED.la hr;have he:f.bD z=if 0<(f.bM z).2 then(0,(f.bM z).2) else if 0<=f.da z then(0,3) else((f.bM z).1,0):=rfl
 generalize f.bD z=r at *
 refine aU f154 ?_;(repeat' (first|refine' a7|((with_reducible apply WO.I8);exact aE;exact uc;(first|exact λs hr=>tO s _ _ _ (by assumption) (by assumption) _ ag (by assumption) hr);intro _ _ _ _)|((with_reducible apply WO.I8);exact aE;exact uc;(first|exact λs hr=>pS s _ _ _ (by assumption) (by assumption) _ ag (by assumption) hr);intro _ _ _ _)|refine' aw|fail))
 all_goals(refine' ax)
 all_goals(first|(rw[if_pos ag] at he;rw[he];rfl)|(rw[if_neg ag,if_pos ag] at he;rw[he];rfl)|(rw[if_neg ag,if_neg ag] at he;rw[he];rfl))
section
variable {E:dA}{X:dM}{Γ:ij}{l:Kn}{L R:bE}{K:KO}{g:FuncId}{xs:List Operand}{ts:Array TypeId}{vs:aQ}{v:SA}{f f':Fs}{b:Nat}{r:Value}
theorem WO.AB (hx:kL l xs vs)(h:∀v s,mG E X g vs s b v f f' r)(hp:oO (kg b v f) L R)(k:∀m m' v',kq L m->m<=m'->K r (kg b v' f'++R) m m' (λi=>i∈([]:List Nat)\/i∈(kg b v f).flatMap It.aY\/(m<=i/\i<m')) (λi=>i∈(kg b v f).flatMap It.aY\/(m<=i/\i<m'))):WO E X Γ l (.call ⟨.value (.func g),⟨xs⟩,ts⟩) L K:=WO.ait hx (h v) hp k
theorem WO.vH (hx:kL l xs vs)(h:∀s,lJ s b v f->qj E X g vs s (tN b v) r)(hh:La Γ L b v f)(k:∀m m',kq L m->m<=m'->K r L m m' (λi=>i∈tN b v\/i∈([]:bE).flatMap It.aY\/(m<=i/\i<m')) (λi=>i∈([]:bE).flatMap It.aY\/(m<=i/\i<m'))):WO E X Γ l (.call ⟨.value (.func g),⟨xs⟩,ts⟩) L K:=WO.I8 hx hh h k
theorem WO.Lu {α:Type}{sz:Nat}{enc:ak α sz}{e:TypeId}{p:List α}(hx:kL l xs vs)(h:∀s,lJ s b v f->fa E X g vs s (tN b v) e p)(hh:La Γ L b v f)(k:∀m m' a c,kq L m->m<=m'->K (.slice a p.length c) (.aN (.slice a p.length c) e sz (ai (sz:=sz) p)::L) m m' (λi=>i∈tN b v\/i∈([]:bE).flatMap It.aY\/(m<=i/\i<m')) (λi=>i∈([]:bE).flatMap It.aY\/(m<=i/\i<m'))):WO E X Γ l (.call ⟨.value (.func g),⟨xs⟩,ts⟩) L K:=WO.Rb hx hh h k
theorem WO.WU {a:aK}{n sz:Nat}{cs:aQ}(hx:kL l xs vs)(h:∀v s,bO s a n sz cs->(∀i∈aj a,i∉(kg b v f).flatMap It.aY)->fH E X g vs s (kg b v f) (aj a) λR L=>∃v':SA,R=r/\L=kg b v' f')(hp:oO (kg b v f) L R)(hh:jY Γ R a n sz cs)(k:∀m m' v',kq L m->m<=m'->K r (kg b v' f'++R) m m' (λi=>i∈aj a\/i∈(kg b v f).flatMap It.aY\/(m<=i/\i<m')) (λi=>i∈(kg b v f).flatMap It.aY\/(m<=i/\i<m'))):WO E X Γ l (.call ⟨.value (.func g),⟨xs⟩,ts⟩) L K:=
 WO.call (Lm:=kg b v f) (R:=R) hx hp.cR (λs hi=>(hh.row (hi.cR hp.cR|>.sub ⟨R,.refl _,nK _ _⟩)).2) (λs hi=>h v s (hh.row (hi.cR hp.cR|>.sub ⟨R,.refl _,nK _ _⟩)).1 (jY.apart hh (hi.cR hp.cR))) (by rintro r' L' m m' ho hm ⟨v',rfl,rfl⟩;exact k m m' v' ho hm)
theorem WO.aeo {a:aK}{n c Sx e':Nat}{cs:aQ}{α:Type}{sz:Nat}{enc:ak α sz}{e:TypeId}{p:List α}(hx:kL l xs vs)(hm:It.aN (.slice a n c) e' Sx cs∈L)(h:∀s,bO s a n Sx cs->FH s a n c e' Sx->fa E X g vs s (aj a) e p)(k:∀m m' a' c',kq L m->m<=m'->K (.slice a' p.length c') (.aN (.slice a' p.length c') e sz (ai (sz:=sz) p)::L) m m' (λi=>i∈aj a\/i∈([]:bE).flatMap It.aY\/(m<=i/\i<m')) (λi=>i∈([]:bE).flatMap It.aY\/(m<=i/\i<m'))):WO E X Γ l (.call ⟨.value (.func g),⟨xs⟩,ts⟩) L K:=
 WO.K1 hx (λs hi=>by
   have h1:=(jY.aN (Γ:=Γ) hm).row hi;exact⟨h1.2,h s h1.1 (yN.slv (hi.it _ hm) λb hb=>(h1.2 b hb).1)⟩) k
end
theorem om (s:St)(b:Nat)(v:SA)(f:Fs)(h:sM 60000 f)(k:Nat)(hk:k<16)(a:aK)(c:Nat)(p:List aZ)(hp:p.length<=20)(hn:∀e∈p,e.name.length<=1000/\0<=e.id/\e.id<=1000)(hr:bO s a p.length 2 (ai p))(hm:∀i∈aj a,i∉(kg b v f).flatMap It.aY):
  Bi 158 [bc b,iv k,.slice a p.length c] s (kg b v f) (aj a) λR L=>∃v':SA,R= .tuple ⟨[]⟩/\L=kg b v' (f.bf k p):=by
 have hd:Rd ⟨s,(kg b v f).flatMap It.aY,aj a⟩ a p.length 2 (ai p):=⟨hr,λb hb=>hb,hm⟩;have jw:=h.st.mono (show 60000<=100000 by omega);have ht:=h.t;have hn3:∀e∈p,e.name.length<=3000/\0<=e.id/\e.id<=1000000000:=λe he=>by have:=hn e he;omega
 have uv:=Yv f.st f.t k;have c8:(bg p).length<=50000:=by
  have:∀(l:List aZ),(∀e∈l,e.name.length<=1000/\0<=e.id/\e.id<=1000)->(bg l).length<=l.length*1100:=by
   intro l;induction l with
   |nil=>intro _;simp[bg]
   |cons x l ih=>
    intro hl;have h1:=ih λe he=>hl e (by simp[he])
    have h2:=hl x (by simp);have h3:(dec x.id).length<=10:=n9 x.id ag;have:bg (x::l)=(x.name++61::(dec x.id++[59]))++bg l:=rfl;rw[this,bJ,bJ,cY,bJ,cY];simp only[cY,mJ];omega
  have:=this p hn;omega
 have hw:f.bf k p=if f.cC then f else match kz f.st (f.node k).aS (bg p) with
  |(st,t,ok)=>Fs.put ⟨st,f.t,!ok⟩ k {f.node k with aS:=t,size:=(bg p).length}:=rfl
 have bS:=BB (z:=bg p) h.st uv.tr;rcases TG:kz f.st (f.node k).aS (bg p) with⟨eL,t2,ok⟩
 rw[show kz f.st ((jj f.st f.t k).getD bu).aS (bg p)=_ from TG] at bS;have aiC:∀(dI:SA) s,eQ a8 bj 198 [fD dI f.st,tv (f.node k).aS,sv (bg p)] s [] dI f.st eL true (B1 t2 ok):=λdI s=>by
  have:=Yb s dI f.st (h.st.mono ag) (f.node k).aS uv.tr (bg p) c8;rw[TG] at this;exact this
 have dK:∀(dI:SA) s,mG a8 bj 157 [bc b,iv k,nv {f.node k with aS:=t2,size:=(bg p).length}] s b dI ⟨eL,f.t,!ok⟩ (Fs.put ⟨eL,f.t,!ok⟩ k {f.node k with aS:=t2,size:=(bg p).length}) (.tuple ⟨[]⟩):=λdI s=>
  sG s b dI ⟨eL,f.t,!ok⟩ (bS.1.mono ag) ht k hk _
 rw[TG] at hw;simp only at hw;generalize Fs.put ⟨eL,f.t,!ok⟩ k {f.node k with aS:=t2,size:=(bg p).length}=f2 at *
 refine aU f158 ?_;dsimp only[kg,eO];cases hf:f.cC with
 |true=>
  rw[hf] at hw;rw[hw,if_pos rfl];(refine' cU)
  refine mP (v':=v) bB bn au rfl
 |false=>
  rw[hf] at hw;rw[hw,if_neg (by decide)];(repeat' (first|refine' a7|refine' WN|refine' ahf|((with_reducible apply WO.nf);exact aE;(first|exact λs=>aiC _ s);exact ey;intro _ _ aiD _ _ aiE)|refine' G8|refine' aw|fail))
  all_goals try exact pq
  all_goals refine mP (v':=pB) bB bn au rfl
theorem Yw {l:List aZ}(h:bz l=true):l.length<=12/\∀e∈l,e.name.length<=1000/\0<=e.id/\e.id<=1000:=by
 unfold bz at h;simp only[bU,gQ,bQ,fR] at h;refine⟨h.2,λe he=>?_⟩;have h1:=h.1.1 e he;have h2:e.name.length<=4:=by
  have:=h1.1;unfold bG at this;simp only[bU,bQ,fR] at this;omega
 omega
theorem vk (f:Fs)(k:Int):(f.bH k).length<=12/\∀e∈f.bH k,e.name.length<=1000/\0<=e.id/\e.id<=1000:=by
 unfold Fs.bH;cases h:bK f.st (f.node k) with
 |none=>simp
 |some l=>
  refine' zah
  exact Yw fF
theorem zE {l:List aZ}{x:aZ}{n:Nat}(h:l.length<=n/\∀e∈l,e.name.length<=1000/\0<=e.id/\e.id<=1000)(hx:x.name.length<=1000/\0<=x.id/\x.id<=1000):(gm l x).length<=n+1/\∀e∈gm l x,e.name.length<=1000/\0<=e.id/\e.id<=1000:=by
 refine⟨by rw[Pg.MJ];omega,λe he=>?_⟩;rcases Pg.ny.1 he with rfl|he
 .exact hx
 .exact h.2 e he
theorem TR {l:List aZ}{i:Nat}{n:Nat}(h:l.length<=n/\∀e∈l,e.name.length<=1000/\0<=e.id/\e.id<=1000):(eu l i).length<=n/\∀e∈eu l i,e.name.length<=1000/\0<=e.id/\e.id<=1000:=
 ⟨ik (Pg.jq l i).length_le h.1,λe he=>h.2 e ((Pg.jq l i).subset he)⟩
abbrev cv (a:aK)(c:Nat)(p:List a6):It:=.aN (.slice a p.length c) 39 2 (ai p)
abbrev EP (E:dA)(X:dM)(f:FuncId)(vs:aQ)(s:St)(v:SA)(an:aK)(a:aK)(c:Nat)(p q:List a6)(ok:Bool):Prop:=fH E X f vs s [cv a c p] (iH v++aj an) λR L=>∃a' c',R= .tuple ⟨[.slice a' q.length c',.bool ok]⟩/\L=[.aN (.slice a' q.length c') 39 2 (ai q)]
section
variable {E:dA}{X:dM}{Γ:ij}{l:Kn}{L R:bE}{K:KO}{g:FuncId}{xs:List Operand}{ts:Array TypeId}{vs:aQ}{v:SA}{st:ar}{a an:aK}{c nn:Nat}{p q:List a6}{ok:Bool}{csn:aQ}
theorem WO.WQ (hx:kL l xs vs)(h:∀s,cK s v st->bO s an nn 10 csn->(∀i∈iH v++aj an,i∉[cv a c p].flatMap It.aY)->EP E X g vs s v an a c p q ok)(hp:oO [cv a c p] L R)(hh:re Γ R v st)(hn:jY Γ R an nn 10 csn)
  (k:∀m m' a' c',kq L m->m<=m'->K (.tuple ⟨[.slice a' q.length c',.bool ok]⟩) (.aN (.slice a' q.length c') 39 2 (ai q)::R) m m' (λi=>i∈iH v++aj an\/i∈[cv a c p].flatMap It.aY\/(m<=i/\i<m')) (λi=>i∈[cv a c p].flatMap It.aY\/(m<=i/\i<m'))):WO E X Γ l (.call ⟨.value (.func g),⟨xs⟩,ts⟩) L K:=by
 have jg:∀{s},Inv Γ s L->Inv Γ s R:=λhi=>hi.cR hp.cR|>.sub ⟨R,.refl _,nK _ _⟩
 refine WO.call (Lm:=[cv a c p]) (R:=R) (A:=iH v++aj an) hx hp.cR (λs hi b hb=>?_) (λs hi=>h s (hh.row (jg hi)).1 (hn.row (jg hi)).1 λi ua=>?_) (by rintro r L' m m' ho hm ⟨a',c',rfl,rfl⟩;exact k m m' a' c' ho hm)
 .rcases eX.1 hb with hb|hb
  .exact(hh.row (jg hi)).2 b hb
  .exact(hn.row (jg hi)).2 b hb
 .have hip:=hi.cR hp.cR;rcases eX.1 ua with hb|hb
  .rcases eX.1 hb with hb|hb
   .exact jY.apart hh.r hip i hb
   .rcases eX.1 hb with hb|hb
    .exact jY.apart hh.f hip i hb
    .exact jY.apart hh.l hip i hb
  .exact jY.apart hn hip i hb
theorem Yx {rs:List ResultVar}{x:Ex}{a':aK}{c':Nat}(hx:x= .normal\/x= .ret)(hr:qi E l L rs [.slice a' q.length c',.bool ok])(hL:cz [.aN (.slice a' q.length c') 39 2 (ai q)] L):
  uW E rs (λR L=>∃a' c',R= .tuple ⟨[.slice a' q.length c',.bool ok]⟩/\L=[.aN (.slice a' q.length c') 39 2 (ai q)]) x l L:=⟨hx,_,_,hr,hL,a',c',rfl,rfl⟩
end
theorem ae5 {st:ar}{n:iG}{l:List aZ}(h:bK st n=some l):l.length<=12/\∀e∈l,e.name.length<=4:=by
 refine' zah
 unfold bz at fF;simp only[bU,gQ,bQ,fR] at fF;refine⟨fF.2,λe he=>?_⟩;have:=(fF.1.1 e he).1;unfold bG at this;simp only[bU,bQ] at this;omega
theorem xW {n:Nat}{kind:Nat->Int}{E:Nat->Option (List aZ)}{f:Nat}{x:a6}(l:List aZ)(o:List a6):l.foldl (λr e=>if r.2 then jk n kind E f ⟨dU x.af e.name,e.id⟩ r.1 else r) (o,false)=(o,false):=by
 induction l with
 |nil=>rfl
 |cons e l ih=>rw[wi];exact ih
theorem ER {n:Nat}{kind:Nat->Int}{E:Nat->Option (List aZ)}:∀(f:Nat)(x:a6)(out:List a6),(jk n kind E f x out).2=true->out.length<(jk n kind E f x out).1.length/\(jk n kind E f x out).1.length<=144
 |0,x,out,h=>by cases h
 |f+1,x,out,h=>by
  rw[jk] at h⊢;try simp only at h⊢
  split at h
  .cases h
  .rename_i hc;rw[if_neg hc];have hl:(out++[x]).length<=144:=by
    simp only[mS,bQ,not_or] at hc;omega
   have tZ:out.length<(out++[x]).length:=by rw[bJ];simp
   split at h
   .rename_i h1;rw[if_pos h1];exact⟨tZ,hl⟩
   .rename_i h1;rw[if_neg h1];cases he:E x.id.toNat with
    |none=>rw[he] at h;cases h
    |some l=>
     rw[he] at h;simp only at h⊢;have Yy:∀(l:List aZ)(o:List a6),(l.foldl (λr e=>if r.2 then jk n kind E f ⟨dU x.af e.name,e.id⟩ r.1 else r) (o,true)).2=true->o.length<=144->o.length<=(l.foldl (λr e=>if r.2 then jk n kind E f ⟨dU x.af e.name,e.id⟩ r.1 else r) (o,true)).1.length/\(l.foldl (λr e=>if r.2 then jk n kind E f ⟨dU x.af e.name,e.id⟩ r.1 else r) (o,true)).1.length<=144:=by
      intro l;induction l with
      |nil=>intro o _ ho;exact⟨cA _,ho⟩
      |cons e l ih=>
       refine' zaZ
       rw[hw] at hb;cases b2 with
       |false=>rw[xW] at hb;cases hb
       |true=>
        have h3:=ER f ⟨dU x.af e.name,e.id⟩ o (by rw[hw]);rw[hw] at h3;have h4:=ih o2 hb h3.2;exact⟨by have:=h3.1;have:=h4.1;simp only at *;omega,h4.2⟩
     have h5:=Yy l _ h hl;exact⟨ag,h5.2⟩
theorem Py (st:ar)(h:dv 100000 st)(ns:List iG)(uv:ns.length<=16)(v:SA)(an:aK)(cn:Nat):∀(f:Nat)(x:a6)(out:List a6)(a:aK)(c:Nat)(s:St),out.length<=144->146<=f+out.length->x.af.length+5*f<=1000->
  cK s v st->bO s an ns.length 10 (ai ns)->(∀i∈iH v++aj an,i∉[cv a c out].flatMap It.aY)->EP a8 bj 120 [fD v st,.slice an ns.length cn,.agg ⟨[sv x.af,iv x.id]⟩,.slice a out.length c] s v an a c out (walk st ns f x out).1 (walk st ns f x out).2:=by
 intro f;induction f with
 |zero=>intro x out a c s h1 h2;omega
 |succ f ih=>
  intro x out a c s h1 h2 h3 hr hn hm;have tL:Rd ⟨s,[cv a c out].flatMap It.aY,iH v++aj an⟩ v.r 64 1 (ai st.er):=⟨hr.r,λb hb=>cP _ (Hk hb),λb hb=>hm b (cP _ (Hk hb))⟩;have uj:Rd ⟨s,[cv a c out].flatMap It.aY,iH v++aj an⟩ v.f 64 1 (ai st.aX):=⟨hr.f,λb hb=>cP _ (Hl hb),λb hb=>hm b (cP _ (Hl hb))⟩;have uq:Rd ⟨s,[cv a c out].flatMap It.aY,iH v++aj an⟩ v.l 64 1 (ai st.dm):=⟨hr.l,λb hb=>cP _ (Hm hb),λb hb=>hm b (cP _ (Hm hb))⟩;have oR:Rd ⟨s,[cv a c out].flatMap It.aY,iH v++aj an⟩ an ns.length 10 (ai ns):=⟨hn,λb hb=>dz _ hb,λb hb=>hm b (dz _ hb)⟩;have hw:walk st ns (f+1) x out=if 144<(out++[x]).length||!fR x.id 0 (ns.length-1)||decide ((ns.getD x.id.toNat bu).kind=0) then(out++[x],false) else
   if(ns.getD x.id.toNat bu).kind=1 then(out++[x],true) else
   match bK st (ns.getD x.id.toNat bu) with
   |none=>(out++[x],false)
   |some l=>l.foldl (λr e=>if r.2 then jk ns.length (λi=>(ns.getD i bu).kind) (λi=>bK st (ns.getD i bu)) f ⟨dU x.af e.name,e.id⟩ r.1 else r) (out++[x],true):=rfl
  generalize walk st ns (f+1) x out=Y at *
  rw[bJ,A5] at hw;have c8:(out++[x]).length=out.length+1:=by rw[bJ];rfl
  have alu:(bu:iG)=ak.ah (α:=iG):=rfl;rw[alu] at hw;by_cases hC:144<out.length+1\/¬(0<=x.id/\x.id<=(ns.length:Int)-1)\/(ns.getD x.id.toNat ak.ah).kind=0
  .rw[if_pos (by simp only[fR,mS,bQ,pU,zX,mb];omega)] at hw;subst hw;refine aU f120 ?_;dsimp only[cv];(refine' zb2)
   all_goals try exact pq
   all_goals exact Yx bB bn au
  .have hC1:out.length+1<=144:=by omega
   have hC2:0<=x.id/\x.id<=(ns.length:Int)-1:=by omega
   have hC3:(ns.getD x.id.toNat ak.ah).kind≠0:=λh=>hC (.inr (.inr h))
   rw[if_neg (by simp only[fR,mS,bQ,pU,zX,mb];omega)] at hw;clear hC;by_cases hK:(ns.getD x.id.toNat ak.ah).kind=1
   .rw[if_pos hK] at hw;subst hw;refine aU f120 ?_;dsimp only[cv];(refine' zb2)
    all_goals first|(exfalso;omega;done)|contradiction|(exfalso;simp only[zX,mb] at um;omega)|skip
    all_goals exact Yx bB bn au
   .rw[if_neg hK] at hw;obtain⟨es,okb,tg,hW,Ai,hb4⟩:∃(es:List aZ)(okb:Bool),(∀s,cK s v st->kr a8 bj 171 [fD v st,nv (ns.getD x.id.toNat ak.ah)] s (iH v) 200 es okb)/\
                         Y=es.foldl (λr e=>if r.2 then jk ns.length (λi=>(ns.getD i ak.ah).kind) (λi=>bK st (ns.getD i ak.ah)) f ⟨dU x.af e.name,e.id⟩ r.1 else r) (out++[x],okb)/\es.length<=12/\∀e∈es,e.name.length<=4:=by
     refine⟨(bK st (ns.getD x.id.toNat ak.ah)).getD [],(bK st (ns.getD x.id.toNat ak.ah)).isSome,λs hr=>lZ s v st h _ hr,?_,?_⟩
     .rw[hw];cases bK st (ns.getD x.id.toNat ak.ah)<;>rfl
     .cases he:bK st (ns.getD x.id.toNat ak.ah) with
      |none=>simp
      |some l=>exact ae5 he
    clear hw;have hwk:∀x' o,jk ns.length (λi=>(ns.getD i ak.ah).kind) (λi=>bK st (ns.getD i ak.ah)) f x' o=walk st ns f x' o:=λ_ _=>rfl
    have hle:∀x' o,(walk st ns f x' o).2=true->o.length<(walk st ns f x' o).1.length/\(walk st ns f x' o).1.length<=144:=λx' o=>ER f x' o
    have hF0:∀(l:List aZ)(o:List a6),l.foldl (λr e=>if r.2 then jk ns.length (λi=>(ns.getD i ak.ah).kind) (λi=>bK st (ns.getD i ak.ah)) f ⟨dU x.af e.name,e.id⟩ r.1 else r) (o,false)=(o,false):=λl o=>xW l o
    have ya:∀(e:aZ)(o:List a6),(λ(r:List a6×Bool) (e:aZ)=>if r.2 then jk ns.length (λi=>(ns.getD i ak.ah).kind) (λi=>bK st (ns.getD i ak.ah)) f ⟨dU x.af e.name,e.id⟩ r.1 else r) (o,true) e=walk st ns f ⟨dU x.af e.name,e.id⟩ o:=λ_ _=>rfl
    generalize(λ(r:List a6×Bool) (e:aZ)=>if r.2 then jk ns.length (λi=>(ns.getD i ak.ah).kind) (λi=>bK st (ns.getD i ak.ah)) f ⟨dU x.af e.name,e.id⟩ r.1 else r)=F at *
    refine aU f120 ?_;dsimp only[cv];(repeat' (first|refine' a7|refine' NI|((with_reducible apply WO.tD);exact aE;(first|exact λs hr=>tg s hr);exact eC;intro _ _ rI rJ _ _)|refine' aw|fail))
    all_goals first|(exfalso;omega;done)|contradiction|(exfalso;simp only[zX,mb] at um;omega)|skip
    refine W.bN (λk l L=>∃(i:Nat)(o:List a6)(ok:Bool)(a3:aK)(c3 b4 b6:Nat),Le [(1,.slice an ns.length cn),(3,.slice a3 o.length c3),(4,bc b4),(6,bc b6),(10,.slice rI es.length rJ),(11,.bool ok),(12,iv (i:Int))] l/\cz [.aN (.slice a3 o.length c3) 39 2 (ai o),.box b4 (rP v st) 81 false,.box b6 [sv x.af,iv x.id] 39 false,.aN (.slice rI es.length rJ) 200 2 (ai es)] L/\k=es.length-i/\i<=es.length/\(ok=true->o.length<=144/\out.length+1<=o.length)/\Y=(es.drop i).foldl F (o,ok))
     (λl L=>∃(o:List a6)(ok:Bool)(a3:aK)(c3:Nat),Le [(3,.slice a3 o.length c3),(11,.bool ok)] l/\cz [.aN (.slice a3 o.length c3) 39 2 (ai o)] L/\Y=(o,ok)) _ ⟨0,out++[x],okb,_,_,_,_,bk,au,rfl,ag,λ_=>by omega,hW⟩ ?_ ?_
    .rintro k l L ⟨i,o,ok,a3,c3,b4,b6,hl,hL,rfl,g1,g2,g3⟩;refine W.le ?_ hl hL;clear hl hL;by_cases hi:i<es.length
     .cases ok with
      |false=>
       (refine' cU)
       all_goals try refine cM
       all_goals exact⟨o,false,a3,c3,bk,au,by rw[g3,hF0]⟩
      |true=>
       obtain⟨g4,g5⟩:=g2 rfl;have nC:=hb4 _ (aJ hi ak.ah);rw[drop_cons hi,wi,ya] at g3;generalize hP:dU x.af (es.getD i ak.ah).name=P at *
       have hPl:P.length<=x.af.length+5:=by
        rw[<-hP];unfold dU;split<;>simp only[bJ,cY]<;>omega
       have akQ:∀a c s,cK s v st->bO s an ns.length 10 (ai ns)->(∀i∈iH v++aj an,i∉[cv a c o].flatMap It.aY)->EP a8 bj 120 [fD v st,.slice an ns.length cn,.agg ⟨[sv P,iv (es.getD i ak.ah).id]⟩,.slice a o.length c] s v an a c o (walk st ns f ⟨P,(es.getD i ak.ah).id⟩ o).1 (walk st ns f ⟨P,(es.getD i ak.ah).id⟩ o).2:=λa c s hr hn hm=>ih ⟨P,(es.getD i ak.ah).id⟩ o a c s g4 ag (by show P.length+5*f<=1000;omega) hr hn hm
       have tZ:=hle ⟨P,(es.getD i ak.ah).id⟩ o;generalize walk st ns f ⟨P,(es.getD i ak.ah).id⟩ o=W2 at *
       obtain⟨o2,ok2⟩:=W2;by_cases OV:x.af=[47]
       .have hP:[47]++(es.getD i ak.ah).name=P:=by rw[<-hP,OV];rfl
        subst hP;(repeat' (first|refine' a7|refine' acy|refine' aw|fail))
        all_goals try refine cM
        all_goals refine' za3
       .have hP:(x.af++[47])++(es.getD i ak.ah).name=P:=by rw[<-hP];unfold dU;rw[if_neg OV,kG];rfl
        subst hP;(repeat' (first|refine' a7|refine' acy|refine' aw|fail))
        all_goals try refine cM
        all_goals refine' za3
     .have fE:i=es.length:=by omega
      subst fE;rw[iD] at g3;(refine' cU)
      all_goals try refine cM
      all_goals exact⟨o,ok,a3,c3,bk,au,g3⟩
    .rintro l L ⟨o,ok,a3,c3,hl,hL,g3⟩;refine aq ?_;refine W.le ?_ hl hL;(refine' cU)
     rw[g3];all_goals exact Yx bB bn au
section
variable {i:Nat}
theorem HR {n:Nat}{kind:Nat->Int}{E:Nat->Option (List aZ)}:∀(f:Nat)(x:a6)(out:List a6),(jk n kind E f x out).2=true->(∀y∈out,0<=y.id/\y.id<=(n:Int)-1)->∀y∈(jk n kind E f x out).1,0<=y.id/\y.id<=(n:Int)-1
 |0,x,out,h,_=>by cases h
 |f+1,x,out,h,ho=>by
  rw[jk] at h⊢;try simp only at h⊢
  split at h
  .cases h
  .rename_i hc;rw[if_neg hc];have hx:0<=x.id/\x.id<=(n:Int)-1:=by
    simp only[fR,mS,bQ,not_or,pU,zX,mb] at hc;omega
   have A9:∀y∈out++[x],0<=y.id/\y.id<=(n:Int)-1:=λy hy=>by
    rcases eX.1 hy with hy|hy
    .exact ho y hy
    .rw[gR] at hy;subst hy;exact hx
   split at h
   .rename_i h1;rw[if_pos h1];exact A9
   .rename_i h1;rw[if_neg h1];cases he:E x.id.toNat with
    |none=>rw[he] at h;cases h
    |some l=>
     rw[he] at h;simp only at h⊢;have Yy:∀(l:List aZ)(o:List a6),(l.foldl (λr e=>if r.2 then jk n kind E f ⟨dU x.af e.name,e.id⟩ r.1 else r) (o,true)).2=true->(∀y∈o,0<=y.id/\y.id<=(n:Int)-1)->∀y∈(l.foldl (λr e=>if r.2 then jk n kind E f ⟨dU x.af e.name,e.id⟩ r.1 else r) (o,true)).1,0<=y.id/\y.id<=(n:Int)-1:=by
      intro l;induction l with
      |nil=>intro o _ ho;exact ho
      |cons e l ih=>
       refine' zaZ
       rw[hw] at hb;cases b2 with
       |false=>rw[xW] at hb;cases hb
       |true=>
        have h3:=HR f ⟨dU x.af e.name,e.id⟩ o (by rw[hw]) ho;rw[hw] at h3;exact ih o2 hb h3
     exact Yy l _ h A9
theorem JH (out:List a6)(x:a6)(k:Nat):lD (out++[x]) k=lD out k+if x.id=(k:Int) then 1 else 0:=by
 unfold lD;rw[pW,bJ];by_cases h:x.id=(k:Int)<;>simp[h]
theorem j4 {l:List Int}{i k:Nat}{v:Int}(hi:i<l.length):(l.set i v).getD k 0=if k=i then v else l.getD k 0:=by
 rw[aR,aR,List.getElem?_set];by_cases h:i=k
 .subst h;simp[hi]
 .rw[if_neg h,if_neg (λe=>h e.symm)]
theorem aiF {q:List a6}(hi:i<q.length):q.take (i+1)=q.take i++[q.getD i ak.ah]:=by
 rw[wz,aR,bd hi];rfl
theorem Pz (out:List a6)(k:Nat):0<=lD out k/\lD out k<=out.length:=by
 unfold lD;have:=CK (λx:a6=>decide (x.id=(k:Int))) out;omega
theorem TS (s:St)(v:SA)(st:ar)(h:dv 100000 st)(t:bX)(ht:eb t)(hr:cK s v st):kr a8 bj 78 [fD v st,tv t] s (iH v) 39 ((lX st t).getD []) (lX st t).isSome:=by
 have tL:=Rd.Eg hr;have uj:=Rd.off hr;have uq:=Rd.Cr hr;have B2:lX st t=if !oz st t then none else if fm st t=[]\/((fm st t).headD bu).kind≠2 then none else match walk st (fm st t) 146 ⟨[47],0⟩ [] with
  |(_,false)=>none
  |(out,true)=>if lE st out 0 (fm st t) then some out else none:=rfl
 generalize lX st t=Y at *
 by_cases hT:oz st t=true
 .rw[hT] at B2;rw[if_neg (by decide)] at B2;have uv:∀s,cK s v st->fa a8 bj 79 [fD v st,tv t] s (iH v) 130 (fm st t):=λs hr=>Bw s v st h t ht hr
  have nC:(fm st t).length<=16:=by
   unfold fm;rw[ux,(lj h ht).1];have:=ht.mn;omega
  generalize fm st t=ns at *
  have hTf:(!oz st t)=false:=by rw[hT];rfl
  have hhd:ns.headD bu=ns.getD 0 ak.ah:=by cases ns<;>rfl
  rw[hhd] at B2;by_cases hN:ns.length=0\/(ns.getD 0 ak.ah).kind≠2
  .rw[if_pos (by
      rcases hN with h|h
      .exact .inl (mT h)
      .exact .inr h)] at B2
   subst B2;refine aU f78 ?_;(repeat' (first|refine' a7|refine' QN|refine' QO|refine' aw|fail))
   all_goals try refine cM
   all_goals exact GR bB bn au rfl rfl
  .have hN1:0<ns.length:=by omega
   have hN2:(ns.getD 0 ak.ah).kind=2:=by
    by_cases h:(ns.getD 0 ak.ah).kind=2
    .exact h
    .exact absurd (.inr h) hN
   rw[if_neg (λh=>by
      rcases h with h|h
      .rw[h] at hN1;cases hN1
      .exact h hN2)] at B2
   clear hN;have ae6:∀an cn a c s,cK s v st->bO s an ns.length 10 (ai ns)->(∀i∈iH v++aj an,i∉[cv a c []].flatMap It.aY)->EP a8 bj 120 [fD v st,.slice an ns.length cn,.agg ⟨[sv [47],cb]⟩,.slice a ([]:List a6).length c] s v an a c [] (walk st ns 146 ⟨[47],0⟩ []).1 (walk st ns 146 ⟨[47],0⟩ []).2:=λan cn a c s hr hn hm=>
    Py st h ns nC v an cn 146 ⟨[47],0⟩ [] a c s (by simp) (by simp) (by simp) hr hn hm
   have JC:=HR (n:=ns.length) (kind:=λi=>(ns.getD i bu).kind) (E:=λi=>bK st (ns.getD i bu)) 146 ⟨[47],0⟩ [];have X6:=ER (n:=ns.length) (kind:=λi=>(ns.getD i bu).kind) (E:=λi=>bK st (ns.getD i bu)) 146 ⟨[47],0⟩ [];rw[show jk ns.length (λi=>(ns.getD i bu).kind) (λi=>bK st (ns.getD i bu)) 146 ⟨[47],0⟩ []=walk st ns 146 ⟨[47],0⟩ [] from rfl] at JC X6;rcases hw:walk st ns 146 ⟨[47],0⟩ [] with⟨out,ok⟩
   rw[hw] at ae6 JC X6 B2;have hwk:∀an cn a c s,cK s v st->bO s an ns.length 10 (ai ns)->(∀i∈iH v++aj an,i∉[cv a c []].flatMap It.aY)->EP a8 bj 120 [fD v st,.slice an ns.length cn,.agg ⟨[sv [47],cb]⟩,.slice a ([]:List a6).length c] s v an a c [] out ok:=ae6;clear ae6 hw;cases ok with
   |false=>
    have B2:Y=none:=B2;subst B2;refine aU f78 ?_;(repeat' (first|refine' a7|refine' QN|refine' QO|refine' acz|refine' aw|fail))
    all_goals try refine cM
    all_goals exact GR bB bn au rfl rfl
   |true=>
    have B2:Y=if lE st out 0 ns then some out else none:=B2
    have JC:=JC rfl (by simp);have X6:=X6 rfl;dsimp only at JC X6;refine aU f78 ?_;(repeat' (first|refine' a7|refine' QN|refine' QO|refine' acz|refine' aw|fail))
    all_goals try refine cM
    refine W.bN (λk l L=>∃(i:Nat)(m:List Int)(am:aK)(cm b2:Nat),Le [(2,bc b2),(6,.slice jy ns.length jz),(7,.slice jJ out.length jK),(9,.slice am m.length cm),(10,iv (i:Int))] l/\cz [.box b2 (rP v st) 81 false,.aN (.slice jy ns.length jz) 130 10 (ai ns),.aN (.slice jJ out.length jK) 39 2 (ai out),.aN (.slice am m.length cm) 3 1 (ai m)] L/\k=out.length-i/\i<=out.length/\m.length=ns.length/\∀k,k<ns.length->m.getD k 0=lD (out.take i) k)
     (λl L=>∃(m:List Int)(am:aK)(cm b2:Nat),Le [(2,bc b2),(6,.slice jy ns.length jz),(7,.slice jJ out.length jK),(9,.slice am m.length cm)] l/\cz [.box b2 (rP v st) 81 false,.aN (.slice jy ns.length jz) 130 10 (ai ns),.aN (.slice jJ out.length jK) 39 2 (ai out),.aN (.slice am m.length cm) 3 1 (ai m)] L/\m.length=ns.length/\∀k,k<ns.length->m.getD k 0=lD out k) _ ⟨0,List.replicate ns.length 0,_,_,_,bk,au,rfl,ag,by simp,λk hk=>by simp[lD,aR,hk]⟩ ?_ ?_
    .rintro k l L ⟨i,m,am,cm,b2,hl,hL,rfl,g1,g2,g3⟩;refine W.le ?_ hl hL;clear hl hL;by_cases hi:i<out.length
     .have hid:=JC _ (aJ hi ak.ah);have g4:m.getD (out.getD i ak.ah).id.toNat ak.ah=_:=g3 (out.getD i ak.ah).id.toNat ag;have g5:=Pz (out.take i) (out.getD i ak.ah).id.toNat;rw[cZ] at g5;(refine' cU)
      all_goals try refine cM
      refine⟨_,ag,i+1,m.set (out.getD i ak.ah).id.toNat (m.getD (out.getD i ak.ah).id.toNat ak.ah+1),am,cm,b2,by(rw[gE];exact bk),by(rw[gE];exact au),rfl,ag,by rw[gE];exact g2,λk hk=>?_⟩;rw[j4 ag,aiF hi,JH,g4];by_cases hke:k=(out.getD i ak.ah).id.toNat
      .rw[if_pos hke,if_pos ag,<-hke]
      .rw[if_neg hke,if_neg ag,g3 k hk,Int.add_zero]
     .have fE:i=out.length:=by omega
      subst fE;rw[gX] at g3;(refine' cU)
      all_goals try refine cM
      all_goals exact⟨m,_,_,_,bk,au,g2,g3⟩
    .rintro l L ⟨m,am,cm,b2,hl,hL,g2,g3⟩;refine aq ?_;refine W.le ?_ hl hL;clear hl hL;(refine' cU)
     refine W.bN (λk l L=>∃(i:Nat)(m:List Int)(am:aK)(cm b2:Nat),Le [(2,bc b2),(6,.slice jy ns.length jz),(7,.slice jJ out.length jK),(9,.slice am m.length cm),(11,iv (i:Int))] l/\cz [.box b2 (rP v st) 81 false,.aN (.slice jy ns.length jz) 130 10 (ai ns),.aN (.slice jJ out.length jK) 39 2 (ai out),.aN (.slice am m.length cm) 3 1 (ai m)] L/\k=ns.length-i/\i<=ns.length/\m.length=ns.length/\(∀k,k<ns.length->m.getD k 0=lD out k)/\lE st out 0 ns=lE st out i (ns.drop i))
      (λl L=>Le [(7,.slice jJ out.length jK)] l/\cz [.aN (.slice jJ out.length jK) 39 2 (ai out)] L/\lE st out 0 ns=true) _ ⟨0,m,_,_,_,bk,au,rfl,ag,g2,g3,rfl⟩ ?_ ?_
     .rintro k l L ⟨i,m,am,cm,b2,hl,hL,rfl,g1,g2,g3,g4⟩;refine W.le ?_ hl hL;clear hl hL;by_cases hi:i<ns.length
      .rw[drop_cons hi,lE] at g4;have g5:m.getD i ak.ah=_:=g3 i hi;(repeat' (first|refine' a7|((with_reducible apply WO.mj);exact aE;(first|exact λs hr=>MD s _ _ (by assumption) _ hr|exact λs hr=>MD s _ _ (by assumption) ⟨_,_,_,⟨⟨_,_,_,_,_⟩,_,_⟩⟩ hr);exact eC;intro _ _ _ _)|refine' aw|fail))
       all_goals try refine cM
       all_goals first
        |(refine⟨_,ag,i+1,m,_,_,_,bk,au,rfl,ag,g2,g3,?_⟩;rw[g4,<-g5];clear g5 g4 g3 B2 hN2 hhd;generalize ns.getD i ak.ah=n at *;generalize m.getD i ak.ah=mi at *;simp[*];done)
        |(have hz:lE st out 0 ns=false:=by(rw[g4,<-g5];clear g5 g4 g3 B2 hN2 hhd;generalize ns.getD i ak.ah=n at *;generalize m.getD i ak.ah=mi at *;simp[*];done)
          rw[hz,if_neg (by decide)] at B2;subst B2;exact GR bB bn au rfl rfl)
        |skip
       all_goals(contradiction;rfl)
      .have fE:i=ns.length:=by omega
       subst fE;rw[iD,lE] at g4;(refine' cU)
       all_goals try refine cM
       all_goals exact⟨bk,au,g4⟩
     .rintro l L ⟨hl,hL,g4⟩;refine aq ?_;refine W.le ?_ hl hL;clear hl hL;rw[g4,if_pos rfl] at B2;subst B2;(refine' cU)
      exact GR bB bn au rfl rfl
 .have hT:oz st t=false:=by simpa using hT
  have hTf:(!oz st t)=true:=by rw[hT];rfl
  rw[hT,if_pos (by decide)] at B2;subst B2;refine aU f78 ?_;(repeat' (first|refine' a7|refine' QN|refine' aw|fail))
  all_goals try refine cM
  all_goals exact GR bB bn au rfl rfl
end
abbrev dN (a:aK)(c:Nat)(q:eG):It:=.aN (.slice a q.length c) 61 3 (ai q)
theorem aby (st:ar)(t:bX):∀n∈fm st t,j5 n:=λn hn=>by
 unfold fm at hn;obtain⟨z,_,rfl⟩:=kO.1 hn;cases h:eP z with
 |none=>exact j5.no
 |some n=>exact j5.of (Pg.xE h).1
theorem Yz (s:St)(v:SA)(st:ar)(h:dv 100000 st)(t:bX)(ht:eb t)(f:Flat)(hf:IV st t=some f)(hr:cK s v st):Bi 37 [fD v st,tv t] s [] (iH v) λR L=>∃a c a' c',R= .tuple ⟨[.agg ⟨iw a c f.ad a' c' f.ae⟩,.bool true]⟩/\L=[cv a c f.ad,dN a' c' f.ae]:=by
 have tL:=Rd.Eg hr;have uj:=Rd.off hr;have uq:=Rd.Cr hr;have ae7:∀s,cK s v st->kr a8 bj 78 [fD v st,tv t] s (iH v) 39 ((lX st t).getD []) (lX st t).isSome:=λs hr=>TS s v st h t ht hr
 have uv:∀s,cK s v st->fa a8 bj 79 [fD v st,tv t] s (iH v) 130 (fm st t):=λs hr=>Bw s v st h t ht hr
 have nC:(fm st t).length<=16:=by
  unfold fm;rw[ux,(lj h ht).1];have:=ht.mn;omega
 have Ce:=aby st t;unfold IV at hf;cases B2:lX st t with
 |none=>rw[B2] at hf;cases hf
 |some all=>
  rw[B2] at hf ae7;cases hf
  have Pn:∀s,cK s v st->kr a8 bj 78 [fD v st,tv t] s (iH v) 39 all true:=ae7;clear ae7;generalize fm st t=ns at *
  refine aU f37 ?_;(repeat' (first|refine' a7|((with_reducible apply WO.tD);exact aE;(first|exact λs hr=>Pn s hr);exact eC;intro _ _ vX vY _ _)|refine' QO|refine' OG|refine' aw|fail))
  all_goals try refine cM
  refine W.bN (λk l L=>∃(i b2 b4 b8:Nat)(out:eG)(b:aK)(d:Nat),Le [(2,bc b2),(4,bc b4),(8,bc b8),(9,.slice jy ns.length jz),(10,iv (i:Int))] l/\cz [.box b2 (rP v st) 81 false,.box b4 (iw none 0 [] none 0 []) 26 false,.box b8 (iw vX vY all b d out) 26 false,.aN (.slice jy ns.length jz) 130 10 (ai ns),.aN (.slice vX all.length vY) 39 2 (ai all),dN b d out] L/\k=ns.length-i/\i<=ns.length/\out.length<=i/\gK st 0 ns=out++gK st i (ns.drop i))
   (λl L=>∃(b4 b8:Nat)(b:aK)(d:Nat),Le [(4,bc b4),(8,bc b8)] l/\cz [.box b4 (iw none 0 [] none 0 []) 26 false,.box b8 (iw vX vY all b d (gK st 0 ns)) 26 false,.aN (.slice vX all.length vY) 39 2 (ai all),dN b d (gK st 0 ns)] L) _ ⟨0,_,_,_,[],_,_,bk,au,rfl,ag,by simp,rfl⟩ ?_ ?_
  .rintro k l L ⟨i,b2,b4,b8,out,b,d,hl,hL,rfl,g1,g2,g3⟩;refine W.le ?_ hl hL;clear hl hL;dsimp only[dN];by_cases hi:i<ns.length
   .have UD:=Ce _ (aJ hi ak.ah);rw[drop_cons hi,gK] at g3;by_cases k2:(ns.getD i ak.ah).kind=2
    .rw[if_pos k2] at g3;(repeat' (first|refine' a7|refine' yW|refine' y4|refine' aw|fail))
     all_goals try refine cM
     refine⟨_,ag,i+1,b2,b4,b8,out++[⟨i,true,[]⟩],_,_,bk,au,rfl,ag,by rw[bJ];simp;omega,?_⟩;rw[g3];simp
    .rw[if_neg k2] at g3;by_cases k1:(ns.getD i ak.ah).kind=1
     .rw[if_pos k1] at g3;(repeat' (first|refine' a7|refine' yW|refine' y4|refine' aw|fail))
      all_goals try refine cM
      refine⟨_,ag,i+1,b2,b4,b8,out++[⟨i,false,bA st (ns.getD i ak.ah)⟩],_,_,bk,au,rfl,ag,by rw[bJ];simp;omega,?_⟩;rw[g3];simp
     .rw[if_neg k1] at g3;(repeat' (first|refine' a7|refine' yW|refine' y4|refine' aw|fail))
      all_goals try refine cM
      exact⟨_,ag,i+1,b2,b4,b8,out,_,_,bk,au,rfl,ag,ag,by rw[g3];simp⟩
   .have fE:i=ns.length:=by omega
    subst fE;rw[iD,gK,ix] at g3;subst g3;(refine' cU)
    all_goals try refine cM
    all_goals exact⟨_,_,_,_,bk,au⟩
  .rintro l L ⟨b4,b8,b,d,hl,hL⟩;refine aq ?_;refine W.le ?_ hl hL;clear hl hL;dsimp only[dN];(refine' cU)
   exact⟨bB,_,_,bn,au,_,_,_,_,rfl,rfl⟩
theorem Rn.r {s:St}{v:SA}{st:ar}(h:zo s v st):Rd ⟨s,([]:bE).flatMap It.aY,FT v⟩ v.r 64 1 (ai st.er):=Rd.of h.a.r λ_ hb=>cP _ (Hk hb)
theorem Rn.f {s:St}{v:SA}{st:ar}(h:zo s v st):Rd ⟨s,([]:bE).flatMap It.aY,FT v⟩ v.f 64 1 (ai st.aX):=Rd.of h.a.f λ_ hb=>cP _ (Hl hb)
theorem Rn.l {s:St}{v:SA}{st:ar}(h:zo s v st):Rd ⟨s,([]:bE).flatMap It.aY,FT v⟩ v.l 64 1 (ai st.dm):=Rd.of h.a.l λ_ hb=>cP _ (Hm hb)
theorem Rn.g {s:St}{v:SA}{st:ar}(h:zo s v st):Rd ⟨s,([]:bE).flatMap It.aY,FT v⟩ v.g st.cI.length 5 (ai st.cI):=Rd.of h.g λ_ hb=>dz _ (cP _ hb)
theorem Rn.d {s:St}{v:SA}{st:ar}(h:zo s v st):Rd ⟨s,([]:bE).flatMap It.aY,FT v⟩ v.d st.ej.length 5 (ai st.ej):=Rd.of h.d λ_ hb=>dz _ (dz _ hb)
abbrev Ro (E:dA)(X:dM)(f:FuncId)(vs:aQ)(s:St)(A:List Nat)(aX dm:List Int):Prop:=fH E X f vs s [] A λr L=>∃a c a2 c2,r= .agg ⟨[.slice a 64 c,.slice a2 64 c2]⟩/\L=[.aN (.slice a2 64 c2) 3 1 (ai dm),.aN (.slice a 64 c) 3 1 (ai aX)]
section
variable {E:dA}{X:dM}{Γ:ij}{l:Kn}{L:bE}{K:KO}{f:FuncId}{xs:List Operand}{ts:Array TypeId}{vs:aQ}{v:SA}{st:ar}{s:St}{aX dm:List Int}
theorem WO.aiG (hx:kL l xs vs)(h:∀s,cK s v st->Ro E X f vs s (iH v) aX dm)(hh:re Γ L v st)(k:∀m m' a c a2 c2,kq L m->m<=m'->K (.agg ⟨[.slice a 64 c,.slice a2 64 c2]⟩) (.aN (.slice a2 64 c2) 3 1 (ai dm):: .aN (.slice a 64 c) 3 1 (ai aX)::L) m m' (λi=>i∈iH v\/i∈([]:bE).flatMap It.aY\/(m<=i/\i<m')) (λi=>i∈([]:bE).flatMap It.aY\/(m<=i/\i<m'))):WO E X Γ l (.call ⟨.value (.func f),⟨xs⟩,ts⟩) L K:=
 WO.call (Lm:=[]) (R:=L) hx (.refl _) (λs hi=>(hh.row hi).2) (λs hi=>h s (hh.row hi).1) (by rintro r L' m m' ho hm ⟨a,c,a2,c2,rfl,rfl⟩;exact k m m' a c a2 c2 ho hm)
theorem WO.ae8 (hx:kL l xs vs)(h:∀s,Ro E X f vs s [] aX dm)(k:∀m m' a c a2 c2,kq L m->m<=m'->K (.agg ⟨[.slice a 64 c,.slice a2 64 c2]⟩) (.aN (.slice a2 64 c2) 3 1 (ai dm):: .aN (.slice a 64 c) 3 1 (ai aX)::L) m m' (λi=>i∈([]:List Nat)\/i∈([]:bE).flatMap It.aY\/(m<=i/\i<m')) (λi=>i∈([]:bE).flatMap It.aY\/(m<=i/\i<m'))):WO E X Γ l (.call ⟨.value (.func f),⟨xs⟩,ts⟩) L K:=
 WO.call (Lm:=[]) (R:=L) hx (.refl _) (λs hi b hb=>by cases hb) (λs hi=>h s) (by rintro r L' m m' ho hm ⟨a,c,a2,c2,rfl,rfl⟩;exact k m m' a c a2 c2 ho hm)
theorem ag8 {rs:List ResultVar}{x:Ex}{cQ:ar}{a1 a2 a3 a4 a5:aK}{c1 c2 c3 c4 c5:Nat}(hx:x= .normal\/x= .ret)(hr:qi E l L rs [.agg ⟨[.slice a1 64 c1,.slice a2 64 c2,.slice a3 64 c3,iv cQ.fC,.slice a4 cQ.cI.length c4,iv cQ.oL,.slice a5 cQ.ej.length c5,.bool cQ.same]⟩])
  (hL:cz [.aN (.slice a1 64 c1) 9 1 (ai cQ.er),.aN (.slice a2 64 c2) 3 1 (ai cQ.aX),.aN (.slice a3 64 c3) 3 1 (ai cQ.dm),.aN (.slice a4 cQ.cI.length c4) 83 5 (ai cQ.cI),.aN (.slice a5 cQ.ej.length c5) 83 5 (ai cQ.ej)] L):
  uW E rs (λr L=>∃v':SA,r=id (fD v' cQ)/\L=eO v' cQ) x l L:=⟨hx,_,_,hr,hL,⟨a1,c1,a2,c2,a3,c3,a4,c4,a5,c5⟩,rfl,rfl⟩
theorem akL {rs:List ResultVar}{x:Ex}{a a2:aK}{c c2:Nat}(hx:x= .normal\/x= .ret)(hr:qi E l L rs [.agg ⟨[.slice a 64 c,.slice a2 64 c2]⟩])(hL:cz [.aN (.slice a2 64 c2) 3 1 (ai dm),.aN (.slice a 64 c) 3 1 (ai aX)] L):
  uW E rs (λr L=>∃a c a2 c2,r= .agg ⟨[.slice a 64 c,.slice a2 64 c2]⟩/\L=[.aN (.slice a2 64 c2) 3 1 (ai dm),.aN (.slice a 64 c) 3 1 (ai aX)]) x l L:=⟨hx,_,_,hr,hL,a,c,a2,c2,rfl,rfl⟩
end
theorem TU (s:St)(v:SA)(st:ar)(h:dv 100000 st)(hr:cK s v st):Ro a8 bj 153 [.agg ⟨[.slice v.f 64 v.fc,.slice v.l 64 v.lc]⟩] s (iH v) st.aX st.dm:=by
 have uj:=Rd.off hr;have uq:=Rd.Cr hr;have Cj:=h.lf;have hll:=h.ll;refine aU f153 ?_;(refine' cU)
 (refine' acj)
theorem MU (s:St):Ro a8 bj 112 [] s [] (List.replicate 64 (0:Int)) (List.replicate 64 (0:Int)):=by
 refine aU f112 ?_;(refine' cU)
 (refine' acj)
theorem S4 (s:St)(v:SA)(st:ar)(h:dv 100000 st)(hr:zo s v st):Mo a8 bj 111 [fD v st] s (FT v) st id:=by
 have tL:=Rn.r hr;have uj:=Rn.f hr;have uq:=Rn.l hr;have hdg:=Rn.g hr;have hdd:=Rn.d hr;have KF:=h.lr;have gL:=h.gl;have anD:=h.dl;refine aU f111 ?_;(repeat' (first|refine' a7|((with_reducible apply WO.aiG);exact aE;(first|exact λs hr=>TU s _ _ (by assumption) hr);exact eC;intro _ _ aiH aiI aiJ aiK _ _)|refine' aw|fail))
 (refine' Wp)
theorem MV (s:St)(b:Bool):Mo a8 bj 74 [.bool b] s [] (bT b) id:=by
 refine aU f74 ?_;(repeat' (first|refine' a7|((with_reducible apply WO.ae8);exact aE;(first|exact λs=>MU s);intro _ _ ae9 afa afb afc _ _)|refine' aw|fail))
 (refine' Wp)
theorem abz (st:ar):next st={(st.cI.foldl (λst p=>drop st p.row) st) with cI:=[],fC:=st.fC+1}:=rfl
end Go.Pl
