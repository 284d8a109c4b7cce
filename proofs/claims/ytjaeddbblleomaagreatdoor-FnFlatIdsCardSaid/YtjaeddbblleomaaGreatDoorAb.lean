/- A lemma text of the proof of the law (evaluator, its soundness, walks). No condition beyond those that each theorem states. -/
import Derived.Test.YtjaeddbblleomaaGreatDoorProg
import Derived.Test.YtjaeddbblleomaaGreatDoorAa
set_option maxRecDepth 100000
set_option maxHeartbeats 4000000
set_option linter.unusedVariables false
set_option linter.unusedSimpArgs false
open Go.Proofs.Tryz
namespace Go
theorem zaq{P:Prop}(h:P:=by
 have hv:=yh.slv (hi.it _ hm) λb hb=>(h1 b hb).1
 obtain⟨s',h2,h3⟩:=Ky (ht:=ht) (j:=i) ⟨.inl ⟨rfl,rfl⟩,.inr ⟨o,k,rfl,ho⟩,af⟩ hl hv;have mg:∀call:dJ,EA E call (aI tm) s (.slice t x none (some o) none)=some (.slice a i c,s'):=λcall=>by
  show j7 E s t (aI tm x) _ _ none=_;rw[hx.eval hl];exact h2
 rcases h3 with rfl|⟨b,kX,rfl⟩
 all_goals(rcases(_:_) with h;exact h)):P:=h
theorem zaD{P:Prop}(h:P:=by
 have mg:∀call:dJ,EA E call (aI tm) s (.slice t x lo ‹Option Operand› none)=some (.slice a' q.length c',s'):=λcall=>by
  show j7 E s t (aI tm x) _ _ none=_;rw[hx.eval hl,h2,cX]
 rcases h3 with rfl|⟨b,kX,rfl⟩
 all_goals(rcases(_:_) with h;exact h)):P:=h
theorem zaL{P:Prop}(h:P:=by
 have h1:=h.1;have h2:=h.2;unfold IntKind.wrap;simp[IntKind.signed,IntKind.bits];omega
 all_goals(rcases(_:_) with h;exact h)):P:=h
theorem zaP{P:Prop}(h:P:=by
 have:=ir h2;simp only[cx] at this;obtain⟨rfl,rfl,rfl⟩:=this;exact⟨hc.1,λX A ρ w a Q hp gK ht hQ=>wp_block (hc.2 X A ρ w a _ hp gK ht hQ)⟩
 all_goals(rcases(_:_) with h;exact h)):P:=h
theorem zaR{P:Prop}(h:P:=by
 have:=ir h2;simp only[cx] at this;obtain⟨rfl,rfl,rfl⟩:=this;exact⟨hx.1,λX A ρ w a Q hp gK ht hQ=>wp_seq (hx.2 X A ρ w a _ hp gK ht hQ)⟩
 all_goals(rcases(_:_) with h;exact h)):P:=h
theorem zaT{P:Prop}(h:P:=by
 have:=ir h2;simp only[cx] at this;obtain⟨rfl,rfl,rfl⟩:=this;exact⟨Gk.1,λX A ρ w a Q hp gK ht hQ=>wI (Gk.2 X A ρ w a _ hp gK ht hQ)⟩
 all_goals(rcases(_:_) with h;exact h)):P:=h
end Go
namespace Go.Ev
open Go
section
variable {E:dy}{P:Program}{call:dJ}{ax:List Oper}{TM:Nat->Tm}{S S':Nat->St}{V:Nat->Value}{X A0:Nat->Prop}{TW:fP}{w0:World}{W:Nat}
def UT (S:Nat->St)(k i:Nat):Prop:=(S k).next<=i/\i<(S (k+1)).next
def Dp (ax:List Oper)(S:Nat->St)(A0:Nat->Prop)(j:Nat):Nat->Prop:=λi=>A0 i\/∃k,ZC ax j k/\UT S k i
def DA (ax:List Oper)(S:Nat->St)(A0:Nat->Prop)(j:Nat):Nat->Prop:=λi=>Dp ax S A0 j i\/UT S j i
def Rz (ax:List Oper)(S S':Nat->St)(A0:Nat->Prop)(L:Nat->Bool)(b:Nat)(o:gh)(D:Nat->Prop):Prop:=
 ((∀k,L k=true->¬In (S' k).wr b)/\(S 0).heap.get b=some o/\D=A0)\/
 ∃k,L k=true/\In (S' k).wr b/\(∀k',L k'=true->In (S' k').wr b->k'<=k)/\(S' k).heap.get b=some o/\D=DA ax S A0 k
structure Inv (P:Program)(ax:List Oper)(S S':Nat->St)(V:Nat->Value)(X A0:Nat->Prop)(TW:fP)(w0:World)(W:Nat)(L:Nat->Bool)(vals:Nat->Value)(w:World)(ρ:fP):Prop where
 same:∀i,(∀k,L k=true->¬UT S k i)->ρ i=TW i
 fy:∀b o D,X b->Rz ax S S' A0 L b o D->D b/\∃x,w.heap[(ρ b).1]?=some x/\Ci P D ρ (ρ b) o x
 inj:∀b b' o o' D D',X b->X b'->Rz ax S S' A0 L b o D->Rz ax S S' A0 L b' o' D'->(ρ b).1=(ρ b').1->b=b'
 vals:∀k,L k=true->VR (DA ax S A0 k) ρ (V k) (vals k)
 fQ:Fr w0 w λr=>∃c o,In W c/\X c/\(S 0).heap.get c=some o/\(TW c).1=r
 old:∀b o D,X b->Rz ax S S' A0 L b o D->b<(S 0).next->(S 0).heap.get b≠none
 bD:∀b o D,X b->Rz ax S S' A0 L b o D->(S 0).next<=b->w0.heap.size<=(ρ b).1\/∃c o,In W c/\X c/\(S 0).heap.get c=some o/\(ρ b).1=(TW c).1
theorem dn.eqDA {j:Nat}(hS:(S (j+1)).next=(S' j).next):dn (Dp ax S A0 j) (S j).next (S' j).next=DA ax S A0 j:=by
 funext i
 unfold dn DA UT;rw[hS]
section chain
theorem kE (hE:cS E P)(hC:dP P call)(dR:o8 E call ax 0 ax.length TM S V S'){j:Nat}(hj:j<ax.length):az (S j) (S' j):=by
 obtain⟨o,ho⟩:∃o,ax[j]?=some o:=⟨ax[j],bk hj⟩;rcases(dR.step j o (jG _) hj ho).2.2 with⟨_,h⟩|⟨_,_,h⟩
 .exact(Ib hE hC h).1
 .rw[h];exact az.refl _
theorem rR (hE:cS E P)(hC:dP P call)(dR:o8 E call ax 0 ax.length TM S V S'){j:Nat}(hj:j<ax.length){b:Nat}(h:In (S' j).wr b):In (S' j).cM b:=
 (kE hE hC dR hj).sub (λc hc=>by rw[(dR.clear j (jG _) (rE hj)).2] at hc;exact absurd hc (qK c)) b h
theorem nK (hE:cS E P)(hC:dP P call)(dR:o8 E call ax 0 ax.length TM S V S'){j:Nat}(hj:j<ax.length):(S (j+1)).next=(S' j).next/\(S (j+1)).heap=(S' j).heap:=by
 have _h1:=hE;have _h2:=hC;obtain⟨o,ho⟩:∃o,ax[j]?=some o:=⟨ax[j],bk hj⟩;rw[(dR.step j o (jG _) hj ho).2.1,jw];exact⟨rfl,rfl⟩
theorem ff (hE:cS E P)(hC:dP P call)(dR:o8 E call ax 0 ax.length TM S V S'){i j:Nat}(qp:i<=j)(hj:j<=ax.length):(S i).next<=(S j).next:=by
 induction j with
 |zero=>have:i=0:=by omega
        subst this;exact cy _
 |succ j ih=>
  rcases kU i (j+1) with h|h
  .refine ku (ih af af) ?_;rw[(nK hE hC dR af).1];exact(kE hE hC dR af).next
  .have:i=j+1:=by omega
   subst this;exact cy _
theorem qL (hE:cS E P)(hC:dP P call)(dR:o8 E call ax 0 ax.length TM S V S')(lT:∀b,(S 0).next<=b->(S 0).heap.get b=none){j:Nat}(hj:j<=ax.length):∀b,(S j).next<=b->(S j).heap.get b=none:=by
 induction j with
 |zero=>exact lT
 |succ j ih=>
  obtain⟨h1,h2⟩:=nK hE hC dR (j:=j) af;rw[h1,h2];exact(kE hE hC dR af).ec (ih af)
theorem Cw (hE:cS E P)(hC:dP P call)(dR:o8 E call ax 0 ax.length TM S V S')(lT:∀b,(S 0).next<=b->(S 0).heap.get b=none){j:Nat}(hj:j<=ax.length){b:Nat}{o:gh}(h:(S j).heap.get b=some o):((∀k,k<j->¬In (S' k).wr b)/\(S 0).heap.get b=some o)\/∃k,k<j/\In (S' k).wr b/\(∀k',k'<j->In (S' k').wr b->k'<=k)/\(S' k).heap.get b=some o:=by
 induction j with
 |zero=>exact .inl ⟨λk hk=>by omega,h⟩
 |succ j ih=>
  obtain⟨h1,h2⟩:=nK hE hC dR (j:=j) af;rw[h2] at h;by_cases hw:In (S' j).wr b
  .exact .inr ⟨j,af,hw,λk' ED _=>by omega,h⟩
  .have hg:=kE hE hC dR (j:=j) af;have hb:b<(S j).next:=by
    rcases kU b (S j).next with h3|h3
    .exact h3
    .rcases kU b (S' j).next with h4|h4
     .exact absurd (hg.made b h3 h4) hw
     .rw[hg.ec (qL hE hC dR lT af) b h4] at h;cases h
   rw[hg.kept b hb hw] at h;rcases ih af h with⟨h3,h4⟩|⟨k,h3,h4,h5,h6⟩
   .refine .inl ⟨λk hk=>?_,h4⟩;rcases kU k j with h5|h5
    .exact h3 k h5
    .have:k=j:=by omega
     subst this;exact hw
   .refine .inr ⟨k,af,h4,λk' ED Cx=>?_,h6⟩;rcases kU k' j with h7|h7
    .exact h5 k' h7 Cx
    .have:k'=j:=by omega
     subst this;exact absurd Cx hw
theorem vb (hE:cS E P)(hC:dP P call)(dA:∀j oj,ax[j]?=some oj->∀e∈oj.after,Region.binds .any e=true->e.on<j)(dR:o8 E call ax 0 ax.length TM S V S')(lT:∀b,(S 0).next<=b->(S 0).heap.get b=none){L:Nat->Bool}{j:Nat}{oj:Oper}(x8:ax[j]?=some oj)(UU:L j=false)(TX:∀e∈oj.after,Region.binds .any e=true->L e.on=true)(hL:sS ⟨ax⟩ L)(MY:∀k,L k=true->k<ax.length)
  {b:Nat}{o:gh}(kD:In (S' j).cM b)(h:(S j).heap.get b=some o):∃D,Rz ax S S' A0 L b o D/\∀i,D i->Dp ax S A0 j i:=by
 have hj:j<ax.length:=(tL.1 x8).1;have um:∀MW,ax[j]?=some MW->∀e∈MW.after,Region.binds .any e=true->L e.on=true:=λMW h'=>by rw[x8] at h';cases h';exact TX
 have later:∀k',L k'=true->In (S' k').wr b->k'<j:=λk' ED Cx=>by
  rcases JE k' j with h1|h1|h1
  .exact h1
  .subst h1;rw[UU] at ED;cases ED
  .exfalso;have hkn:=MY k' ED;rcases dR.apart j k' (jG _) h1 hkn with h2|h2
   .obtain⟨ok,fZ⟩:∃o,ax[k']?=some o:=⟨ax[k'],bk hkn⟩;have h3:=wG dA fZ h2 L hL (λMW h' e he hb=>hL k' MW (by simpa using h') ED e he hb);rw[UU] at h3;cases h3
   .exact h2.2 b ⟨kD,Cx⟩
 rcases Cw hE hC dR lT (rE hj) h with⟨h1,h2⟩|⟨k,h1,h2,h3,h4⟩
 .exact⟨A0,.inl ⟨λk hk hw=>h1 k (later k hk hw) hw,h2,rfl⟩,λi hi=>.inl hi⟩
 .have hanc:ZC ax j k:=by
   rcases dR.apart k j (jG _) h1 hj with h5|h5
   .exact wG dA x8 h5
   .exact absurd ⟨h2,kD⟩ (h5.1 b)
  refine⟨DA ax S A0 k,.inr ⟨k,hanc L hL um,h2,λk' ED Cx=>h3 k' (later k' ED Cx) Cx,h4,rfl⟩,?_⟩;rintro i ((hi|⟨k2,hi,hr⟩)|hi)
  .exact .inl hi
  .exact .inr ⟨k2,Gg hanc hi,hr⟩
  .exact .inr ⟨k,hanc,hi⟩
end chain
end
section
variable {E:dy}{P:Program}{call:dJ}{ax:List Oper}{TM:Nat->Tm}{S S':Nat->St}{V:Nat->Value}{X A0:Nat->Prop}{TW:fP}{w0:World}{W:Nat}
theorem Gj (hE:cS E P)(hC:dP P call)(dR:o8 E call ax 0 ax.length TM S V S'){k j:Nat}(Ry:k≠j)(hk:k<ax.length)(hj:j<ax.length){i:Nat}(h:UT S k i):¬UT S j i:=by
 rintro⟨h1,h2⟩;obtain⟨h3,h4⟩:=h;rcases kU k j with h5|h5
 .have:=ff hE hC dR (i:=k+1) (j:=j) af af;omega
 .have:=ff hE hC dR (i:=j+1) (j:=k) af af;omega
theorem Dp_lt (hE:cS E P)(hC:dP P call)(dA:∀j oj,ax[j]?=some oj->∀e∈oj.after,Region.binds .any e=true->e.on<j)(dR:o8 E call ax 0 ax.length TM S V S')(hA:∀i,A0 i->i<(S 0).next){j:Nat}(hj:j<ax.length):∀i,Dp ax S A0 j i->i<(S j).next:=by
 rintro i (h|⟨k,hk,hr⟩)
 .have:=hA i h;have:=ff hE hC dR (i:=0) (j:=j) af af;omega
 .have Ry:=US dA hk;have:=ff hE hC dR (i:=k+1) (j:=j) af af;have:=hr.2;omega
variable {L:Nat->Bool}{vals:Nat->Value}{w:World}{ρ:fP}{j:Nat}{oj:Oper}
theorem RA (hE:cS E P)(hC:dP P call)(dA:∀j oj,ax[j]?=some oj->∀e∈oj.after,Region.binds .any e=true->e.on<j)(dR:o8 E call ax 0 ax.length TM S V S')(lT:∀b,(S 0).next<=b->(S 0).heap.get b=none)(hX:∀k,k<ax.length->∀b,In (S' k).cM b->X b)(x8:ax[j]?=some oj)(UU:L j=false)(TX:∀e∈oj.after,Region.binds .any e=true->L e.on=true)(hL:sS ⟨ax⟩ L)(MY:∀k,L k=true->k<ax.length)(hI:Inv P ax S S' V X A0 TW w0 W L vals w ρ):fK P (In (S' j).cM) (Dp ax S A0 j) ρ (S j).heap.get w:=by
 have hj:j<ax.length:=(tL.1 x8).1;refine⟨λb o kD h=>?_,λb b' o o' kD hacc' h h' e=>?_⟩
 .obtain⟨D,hc,jO⟩:=vb (A0:=A0) hE hC dA dR lT x8 UU TX hL MY kD h;obtain⟨h1,x,h2,h3⟩:=hI.fy b o D (hX j hj b kD) hc;exact⟨jO b h1,x,h2,h3.mono jO (λ_ _=>rfl)⟩
 .obtain⟨D,hc,_⟩:=vb (A0:=A0) hE hC dA dR lT x8 UU TX hL MY kD h;obtain⟨D',tM,_⟩:=vb (A0:=A0) hE hC dA dR lT x8 UU TX hL MY hacc' h';exact hI.inj b b' o o' D D' (hX j hj b kD) (hX j hj b' hacc') hc tM e
theorem Kg (hE:cS E P)(hC:dP P call)(dA:∀j oj,ax[j]?=some oj->∀e∈oj.after,Region.binds .any e=true->e.on<j)(dR:o8 E call ax 0 ax.length TM S V S')(lT:∀b,(S 0).next<=b->(S 0).heap.get b=none)(hA:∀i,A0 i->i<(S 0).next)(hX:∀k,k<ax.length->∀b,In (S' k).cM b->X b)(hW:∀k,k<ax.length->∀b,In (S' k).wr b->In W b)(x8:ax[j]?=some oj)(UU:L j=false)(TX:∀e∈oj.after,Region.binds .any e=true->L e.on=true)(hL:sS ⟨ax⟩ L)(MY:∀k,L k=true->k<ax.length)(hI:Inv P ax S S' V X A0 TW w0 W L vals w ρ){w':World}{eF:fP}{v':Value}(hv:VR (dn (Dp ax S A0 j) (S j).next (S' j).next) eF (V j) v')(hG:Good P (In (S' j).cM) (Dp ax S A0 j) ρ (S j) (S' j) w w' eF):
  Inv P ax S S' V X A0 TW w0 W (gI L j true) (gI vals j v') w' eF:=by
 have hj:j<ax.length:=(tL.1 x8).1;obtain⟨PJ,F0⟩:=nK hE hC dR hj;have YD:=kE hE hC dR hj;have um:∀k MW,ax[k]?=some MW->L k=true->∀e∈MW.after,Region.binds .any e=true->L e.on=true:=λk MW h' hk=>hL k MW (by simpa using h') hk
 have jO:=λb=>rR hE hC dR hj (b:=b)
 have EY:=λb o kD h=>vb (A0:=A0) (b:=b) (o:=o) hE hC dA dR lT x8 UU TX hL MY kD h
 have hmono0:(S 0).next<=(S j).next:=ff hE hC dR (jG _) (rE hj)
 have zK:∀b o D,Rz ax S S' A0 (gI L j true) b o D->(In (S' j).wr b/\(S' j).heap.get b=some o/\D=DA ax S A0 j)\/(¬In (S' j).wr b/\Rz ax S S' A0 L b o D):=by
  intro b o D hc;have hup:∀k,L k=true->gI L j true k=true:=λk hk=>by unfold gI;split<;>first|rfl|exact hk
  have RB:gI L j true j=true:=by simp[gI]
  rcases hc with⟨h1,h2,h3⟩|⟨k,h1,h2,h3,h4,h5⟩
  .exact .inr ⟨h1 j RB,.inl ⟨λk hk=>h1 k (hup k hk),h2,h3⟩⟩
  .by_cases hw:In (S' j).wr b
   .have Ry:k=j:=by
     rcases JE k j with h6|h6|h6
     .have:=h3 j RB hw;omega
     .exact h6
     .exfalso;have hk:L k=true:=by unfold gI at h1;rw[if_neg af] at h1;exact h1
      have hkn:=MY k hk;obtain⟨ok,fZ⟩:∃o,ax[k]?=some o:=⟨ax[k],bk hkn⟩;rcases dR.apart j k (jG _) h6 hkn with h7|h7
      .have:=wG dA fZ h7 L hL (λMW h' e he hb=>um k MW h' hk e he hb);rw[UU] at this;cases this
      .exact h7.1 b ⟨hw,rR hE hC dR hkn h2⟩
    subst Ry;exact .inl ⟨hw,h4,h5⟩
   .have Ry:k≠j:=by rintro rfl;exact hw h2
    have hk:L k=true:=by unfold gI at h1;rw[if_neg Ry] at h1;exact h1
    exact .inr ⟨hw,.inr ⟨k,hk,h2,λk' ED Cx=>h3 k' (hup k' ED) Cx,h4,h5⟩⟩
 have hDA:∀k,L k=true->∀i,DA ax S A0 k i->eF i=ρ i:=λk hk i hi=>hG.same i λhr=>by
  rw[<-PJ] at hr;have hkn:=MY k hk;rcases hi with(hi|⟨k2,hi,nW⟩)|hi
  .have:=hA i hi;omega
  .have x9:L k2=true:=hi L hL (λMW h' e he hb=>um k MW h' hk e he hb);exact Gj hE hC dR (by rintro rfl;rw[UU] at x9;cases x9) (MY k2 x9) hj nW hr
  .exact Gj hE hC dR (by rintro rfl;rw[UU] at hk;cases hk) hkn hj hi hr
 have Kh:∀b o D,Rz ax S S' A0 L b o D->∀i,D i->eF i=ρ i:=by
  rintro b o D (⟨_,_,rfl⟩|⟨k,hk,_,_,_,rfl⟩) i hi
  .exact hG.same i λhr=>by have:=hA i hi;omega
  .exact hDA k hk i hi
 have hlow:∀b,b<(S j).next->eF b=ρ b:=λb hb=>hG.same b λhr=>by omega
 have Nx:∀b o,In (S' j).wr b->(S' j).heap.get b=some o->b<(S j).next->∃o2,(S j).heap.get b=some o2:=λb o hw h hb=>
  Jx.1 (hG.old b hb (by rw[h];simp))
 have UW:∀b o,(S' j).heap.get b=some o->b<(S' j).next:=λb o h=>by
  rcases kU b (S' j).next with h1|h1
  .exact h1
  .rw[hG.ec b h1] at h;cases h
 have ZD:=hX j hj;have hmix:∀b b' o o' D',In (S' j).wr b->(S' j).heap.get b=some o->¬In (S' j).wr b'->X b'->Rz ax S S' A0 L b' o' D'->(eF b).1=(eF b').1->False:=by
  intro b b' o o' D' hw h Cx rv tM e;obtain⟨hD',x',RC,_⟩:=hI.fy b' o' D' rv tM;rw[Kh b' o' D' tM b' hD'] at e;rcases kU b (S j).next with hb|hb
  .obtain⟨o2,Nt⟩:=Nx b o hw h hb;obtain⟨D2,qt,_⟩:=EY b o2 (jO b hw) Nt;rw[hlow b hb] at e;have:=hI.inj b b' o2 o' D2 D' (ZD b (jO b hw)) rv qt tM e;subst this;exact Cx hw
  .rcases hG.bD b hb (UW b o h) (by rw[h];simp) with h1|⟨c,o3,u9,qt,H0,h1⟩
   .have:=(xD.1 RC).1;omega
   .obtain⟨D3,TQ,_⟩:=EY c o3 qt H0;rw[h1] at e;have:=hI.inj c b' o3 o' D3 D' (ZD c qt) rv TQ tM e;subst this;exact Cx u9
 refine⟨λi hi=>?_,λb o D hx hc=>?_,λb b' o o' D D' hx rv hc tM e=>?_,λk hk=>?_,?_,λb o D hx hc hb=>?_,λb o D hx hc hb=>?_⟩
 .rw[hG.same i λhr=>hi j (by simp[gI]) (by unfold UT;rw[PJ];exact hr)];exact hI.same i λk hk=>hi k (by unfold gI;split<;>first|rfl|exact hk)
 .rcases zK b o D hc with⟨hw,h,rfl⟩|⟨hw,qt⟩
  .have:=hG.state.fy b o (jO b hw) h;rw[dn.eqDA PJ] at this;exact this
  .obtain⟨h1,x,h2,h3⟩:=hI.fy b o D hx qt;have UO:=Kh b o D qt;refine⟨h1,x,?_,?_⟩
   .rw[UO b h1,hG.fQ.block _ (xD.1 h2).1 ?_]
    .exact h2
    .rintro⟨c,o2,H0,TQ,hc5,e⟩;obtain⟨D2,hc6,_⟩:=EY c o2 TQ hc5;have:=hI.inj c b o2 o D2 D (ZD c TQ) hx hc6 qt e;subst this;exact hw H0
   .rw[UO b h1];exact h3.mono (λ_ h=>h) UO
 .rcases zK b o D hc with⟨hw,h,rfl⟩|⟨hw,qt⟩
  .rcases zK b' o' D' tM with⟨Cx,h',rfl⟩|⟨Cx,UX⟩
   .exact hG.state.inj b b' o o' (jO b hw) (jO b' Cx) h h' e
   .exact(hmix b b' o o' D' hw h Cx rv UX e).elim
  .rcases zK b' o' D' tM with⟨Cx,h',rfl⟩|⟨Cx,UX⟩
   .exact(hmix b' b o' o D Cx h' hw hx qt e.symm).elim
   .rw[Kh b o D qt b (hI.fy b o D hx qt).1,Kh b' o' D' UX b' (hI.fy b' o' D' rv UX).1] at e;exact hI.inj b b' o o' D D' hx rv qt UX e
 .by_cases Ry:k=j
  .subst Ry;simp only[gI,if_true];rw[<-dn.eqDA PJ];exact hv
  .have ED:L k=true:=by unfold gI at hk;rw[if_neg Ry] at hk;exact hk
   simp only[gI,Ry,oV];exact(hI.vals k ED).mono (λ_ h=>h) (hDA k ED)
 .refine⟨hG.fQ.os.trans hI.fQ.os,hG.fQ.tape.trans hI.fQ.tape,hG.fQ.output.trans hI.fQ.output,ku hI.fQ.size hG.fQ.size,λr hr ht=>?_⟩;rw[hG.fQ.block r (A9 hr hI.fQ.size) ?_,hI.fQ.block r hr ht];rintro⟨c,o,u9,qt,H0,e⟩;obtain⟨D,TQ,_⟩:=EY c o qt H0;rcases kU c (S 0).next with h1|h1
  .obtain⟨o2,Nt⟩:=Jx.1 (hI.old c o D (ZD c qt) TQ h1);refine ht ⟨c,o2,hW j hj c u9,ZD c qt,Nt,?_⟩;rw[<-e,hI.same c λk hk Rp=>by
    have:=ff hE hC dR (i:=0) (j:=k) (jG _) (rE (MY k hk));have:=Rp.1;omega]
  .rcases hI.bD c o D (ZD c qt) TQ h1 with h2|⟨c',o',h3,h4,h5,h6⟩
   .omega
   .exact ht ⟨c',o',h3,h4,h5,by rw[<-h6,e]⟩
 .rcases zK b o D hc with⟨hw,h,rfl⟩|⟨hw,qt⟩
  .obtain⟨o2,Nt⟩:=Nx b o hw h af;obtain⟨D2,qt,_⟩:=EY b o2 (jO b hw) Nt;exact hI.old b o2 D2 hx qt hb
  .exact hI.old b o D hx qt hb
 .have key:∀c o2,In (S' j).wr c->In (S' j).cM c->(S j).heap.get c=some o2->w0.heap.size<=(ρ c).1\/∃c' o',In W c'/\X c'/\(S 0).heap.get c'=some o'/\(ρ c).1=(TW c').1:=by
   intro c o2 u9 qt H0;obtain⟨D2,TQ,_⟩:=EY c o2 qt H0;rcases kU c (S 0).next with h1|h1
   .obtain⟨o3,ho3⟩:=Jx.1 (hI.old c o2 D2 (ZD c qt) TQ h1);refine .inr ⟨c,o3,hW j hj c u9,ZD c qt,ho3,?_⟩;rw[hI.same c λk hk Rp=>by
     have:=ff hE hC dR (i:=0) (j:=k) (jG _) (rE (MY k hk));have:=Rp.1;omega]
   .exact hI.bD c o2 D2 (ZD c qt) TQ h1
  rcases zK b o D hc with⟨hw,h,rfl⟩|⟨hw,qt⟩
  .rcases kU b (S j).next with h1|h1
   .obtain⟨o2,Nt⟩:=Nx b o hw h h1;rw[hlow b h1];exact key b o2 hw (jO b hw) Nt
   .rcases hG.bD b h1 (UW b o h) (by rw[h];simp) with h2|⟨c,o3,u9,qt,H0,h2⟩
    .exact .inl (ku hI.fQ.size h2)
    .rw[h2];exact key c o3 u9 qt H0
  .rw[Kh b o D qt b (hI.fy b o D hx qt).1];exact hI.bD b o D hx qt hb
end
section
variable {E:dy}{P:Program}{call:dJ}{ax:List Oper}{TM:Nat->Tm}{S S':Nat->St}{V:Nat->Value}{X A0:Nat->Prop}{TW:fP}{w0:World}{W N:Nat}{a0:Act}
theorem Ny (hE:cS E P)(hC:dP P call)(dR:o8 E call ax 0 ax.length TM S V S'){j:Nat}(hj:j<=ax.length){b:Nat}(hb:b<(S 0).next)(hw:∀k,k<j->¬In (S' k).wr b):(S j).heap.get b=(S 0).heap.get b:=by
 induction j with
 |zero=>rfl
 |succ j ih=>
  obtain⟨h1,h2⟩:=nK hE hC dR (j:=j) af;rw[h2,(kE hE hC dR af).kept b (by have:=ff hE hC dR (i:=0) (j:=j) (jG _) af;omega) (hw j af),ih af λk hk=>hw k af]
theorem Nz (hE:cS E P)(hC:dP P call)(dR:o8 E call ax 0 ax.length TM S V S'){j:Nat}(hj:j<=ax.length){b:Nat}(h1:(S 0).next<=b)(h2:b<(S j).next):∃k,k<j/\In (S' k).wr b:=by
 induction j with
 |zero=>omega
 |succ j ih=>
  obtain⟨h3,h4⟩:=nK hE hC dR (j:=j) af;rcases kU b (S j).next with h5|h5
  .obtain⟨k,hk,x9⟩:=ih af h5;exact⟨k,af,x9⟩
  .exact⟨j,af,(kE hE hC dR af).made b h5 af⟩
theorem Cy (hE:cS E P)(hC:dP P call)(dR:o8 E call ax 0 ax.length TM S V S')(k:Nat)(vals:Nat->Value):gT ⟨ax⟩ a0 (λ_=>true) vals (k+1)=(gT ⟨ax⟩ a0 (λ_=>true) vals k).put (((⟨ax⟩:Array Oper)[k]?).bind (·.dst)) (vals k):=by
 have _h1:=hE;have _h2:=hC;have _h3:=dR
 conv=>lhs;unfold gT
 simp
theorem UY (hE:cS E P)(hC:dP P call)(dR:o8 E call ax 0 ax.length TM S V S')(kv:∀o∈ax,uj N o=true){j:Nat}{L:Nat->Bool}{vals:Nat->Value}{w:World}{ρ:fP}(hA:∀i,A0 i->i<(S 0).next)(MY:∀k,L k=true->k<ax.length)(hI:Inv P ax S S' V X A0 TW w0 W L vals w ρ)(ZE:MV A0 TW N (TM 0) a0)(t:Nat):
  ∀k,k<=ax.length->(∀i o,i<k->ax[i]?=some o->o.dst=some t->ZC ax j i/\L i=true)->VR (Dp ax S A0 j) ρ (lG ((TM k).get t)) ((gT ⟨ax⟩ a0 (λ_=>true) vals k).tmps.getD t undef)
 |0,_,_=>by
  refine(ZE.2 t).mono (λi hi=>.inl hi) λi hi=>?_
  refine hI.same i λk hk hr=>?_
  have:=hA i hi;have:=ff hE hC dR (i:=0) (j:=k) (jG _) (rE (MY k hk));have:=hr.1;omega
 |k+1,hk,h=>by
  obtain⟨o,ho⟩:∃o,ax[k]?=some o:=⟨ax[k],bk af⟩;have YG:=kv o (JD ho);have ih:=UY hE hC dR kv hA MY hI ZE t k af λi oi hi=>h i oi af
  rw[Cy hE hC dR,(dR.step k o (jG _) af ho).1];have Ay:(⟨ax⟩:Array Oper)[k]?=some o:=by simpa using ho
  rw[Ay];simp only[An];cases hd:o.dst with
  |none=>exact ih
  |some d=>
   have hdN:=nJ YG d hd;have iI:(gT ⟨ax⟩ a0 (λ_=>true) vals k).tmps.size=N:=by rw[oq];exact ZE.1
   rw[Kb _ d t _ (by rw[iI];exact hdN)];unfold Tm.gT;simp only[T.u1];by_cases htd:t=d
   .subst htd;simp only[if_true];obtain⟨h1,h2⟩:=h k o af ho hd;refine(hI.vals k h2).mono (λi hi=>?_) (λ_ _=>rfl);rcases hi with(hi|⟨k2,hi,hr⟩)|hi
    .exact .inl hi
    .exact .inr ⟨k2,Gg h1 hi,hr⟩
    .exact .inr ⟨k,h1,hi⟩
   .simp only[htd,oV];exact ih
end
section
variable {E:dy}{P:Program}{call:dJ}{N:Nat}{tm jk:Tm}{s s':St}
theorem UZ (hE:cS E P)(hC:dP P call)(hm:P.follows .mixedOrders=true){ax:List Oper}(kv:∀o∈ax,uj N o=true)(hrel:zJ ⟨ax⟩=true)(h:ub E call ax ax 0 tm s []=some (jk,s')):
  az s s'/\∀X A ρ w a Q id,oN P X A ρ s s' w->Gl A ρ->MV A ρ N tm a->(∀a' w',Left P X A ρ N s s' w a jk a' w'->Q Exit.normal a' w')->(Code.region id ⟨ax⟩ true).wp P Q a w:=by
 obtain⟨TM,S,V,S',dR,e1,e2,e3,e4,jO,hA1,hW1,hA2,hW2,_⟩:=Cu hE hC ax ax 0 tm s [] (by simp) h;rw[ni] at dR e3 e4 jO hA2 hW2;have RD:(S 0).next=s.next/\(S 0).heap=s.heap:=by rw[e2,jw];exact⟨rfl,rfl⟩
 have hSn:(S ax.length).next=s'.next/\(S ax.length).heap=s'.heap:=by rw[e4,jw];exact⟨rfl,rfl⟩
 have Cs:=AB hrel;have dA:∀j oj,ax[j]?=some oj->∀e∈oj.after,Region.binds .any e=true->e.on<j:=λj oj hj=>(Cs.2 j oj (by simpa using hj)).1
 have Ii:az s s':=by
  refine⟨?_,hA1,hW1,λb h1 h2=>?_,λhs b hb=>?_,λb hb hw=>?_,λha b hb=>?_⟩
  .rw[<-RD.1,<-hSn.1];exact ff hE hC dR (jG _) (cy _)
  .obtain⟨k,hk,x9⟩:=Nz hE hC dR (cy _) (b:=b) af af;exact(jO k (jG _) hk).2 b x9
  .rcases hW2 b hb with h1|⟨i,_,h2,h3⟩
   .exact hA1 b (hs b h1)
   .exact(jO i (jG _) h2).1 b (rR hE hC dR h2 h3)
  .rw[<-hSn.2,<-RD.2];exact Ny hE hC dR (cy _) af λk hk Cx=>hw ((jO k (jG _) hk).2 b Cx)
  .rw[<-hSn.2];exact qL hE hC dR (by rw[RD.1,RD.2];exact ha) (cy _) b af
 refine⟨Ii,λX A ρ w a Q id hp gK ht hQ=>?_⟩;have lT:∀b,(S 0).next<=b->(S 0).heap.get b=none:=by rw[RD.1,RD.2];exact hp.ec
 have hA:∀i,A i->i<(S 0).next:=by rw[RD.1];exact hp.lt
 have hX:∀k,k<ax.length->∀b,In (S' k).cM b->X b:=λk hk b hb=>hp.cM b ((jO k (jG _) hk).1 b hb)
 have hW:∀k,k<ax.length->∀b,In (S' k).wr b->In s'.wr b:=λk hk=>(jO k (jG _) hk).2
 have ZE:MV A ρ N (TM 0) a:=by rw[e1];exact ht
 refine EX hm hrel (λL vals w1=>(∀k,L k=true->k<ax.length)/\∃Bb,Inv P ax S S' V X A ρ w.drew s'.wr L vals w1 Bb) (λL vals w1 i o ho hLi TX hL MY hI=>?_) (λL vals w1 bP hI=>?_) ?_
 .obtain⟨Cz,Bb,hI⟩:=hI;have Ay:ax[i]?=some o:=by simpa using ho
  have hi:i<ax.length:=(tL.1 Ay).1;have YG:=kv o (JD Ay);have hLn2:∀k,gI L i true k=true->k<ax.length:=λk hk=>by
   unfold gI at hk;split at hk
   .omega
   .exact Cz k hk
  have Ke:∀t,t∈o.looksAt ⟨ax⟩->VR (Dp ax S A i) Bb (lG ((TM i).get t)) ((gT ⟨ax⟩ a (λ_=>true) vals i).tmps.getD t undef):=λt qM=>
   UY hE hC dR kv hA Cz hI ZE t i af λk ok hk fZ hd=>by
    rcases(Cs.2 i o ho).2.1 k ok hk (by simpa using fZ) with⟨e,he,hb,TU⟩|Jr
    .subst TU;exact⟨Nw Ay he hb,TX e he hb⟩
    .exact absurd qM ((Oper.apart_spec Jr).1 t hd)
  have hgl1:Gl (Dp ax S A i) Bb:=gK.mono (λj hj=>.inl hj) λj hj=>hI.same j λk hk hr=>by
   have:=hA j hj;have:=ff hE hC dR (i:=0) (j:=k) (jG _) (rE (Cz k hk));have:=hr.1;omega
  have ji:=RA hE hC dA dR lT hX Ay hLi TX hL Cz hI;have UR:Region.wanted o (yielded ⟨ax⟩ (gT ⟨ax⟩ a (λ_=>true) vals i).tmps)=gW ax (TM i) o.guard:=by
   refine zH (A:=Dp ax S A i) (ρ:=Bb) (N:=N) (by rw[oq];exact ZE.1) (λp hp d hd=>nJ (kv p hp) d hd) λg want hg d hd=>?_
   refine Ke d ?_;unfold Oper.looksAt;refine dH _ ?_;have:((⟨ax⟩:Array Oper)[g]?).bind (·.dst)=some d:=by
    unfold l7 at hd;rw[dQ] at hd;simp only[JC];cases hq:ax[g]? with
    |none=>rw[hq] at hd;cases hd
    |some p=>rw[hq] at hd;exact hd
   rw[hg];simp only[this];simp
  rw[UR];rcases(dR.step i o (jG _) hi Ay).2.2 with⟨MX,mg⟩|⟨MX,hv,hs⟩
  .refine⟨λ_=>?_,λhf=>by rw[MX] at hf;cases hf⟩;obtain⟨Bc,hopk⟩:=Ib hE hC mg;have RE:oN P (In (S' i).cM) (Dp ax S A i) Bb (S i) (S' i) w1:=⟨Dp_lt hE hC dA dR hA hi,qL hE hC dR lT (rE hi),λb hb=>hb,ji⟩;refine Oper.wp_mono (λa' w' Gb=>?_) (hopk (In (S' i).cM) (Dp ax S A i) Bb w1 (gT ⟨ax⟩ a (λ_=>true) vals i) _ RE hgl1 λx hx=>BF (AA YG x hx) hgl1 λt Jp=>Ke t ?_)
   .obtain⟨v',ha',Bv,UH,hG⟩:=Gb;exact⟨v',ha',hLn2,Bv,Kg hE hC dA dR lT hA hX hW Ay hLi TX hL Cz hI UH hG⟩
   .subst Jp;exact di _ (List.mem_filterMap.2 ⟨.tmp t,by simpa using hx,rfl⟩)
  .refine⟨λhf=>(by rw[MX] at hf;cases hf),λ_=>⟨hLn2,Bb,?_⟩⟩;refine Kg hE hC dA dR lT hA hX hW Ay hLi TX hL Cz hI ?_ ?_
   .rw[hv];exact VR.undef
   .rw[hs] at ji⊢;exact Good.refl ji (qL hE hC dR lT (rE hi))
 .obtain⟨Cz,Bb,hI⟩:=hI;have hall':∀i,i<ax.length->L i=true:=λi hi=>bP i (by simpa using hi)
  have hagA:∀i,A i->Bb i=ρ i:=λi hi=>hI.same i λk hk hr=>by
   have:=hA i hi;have:=ff hE hC dR (i:=0) (j:=k) (jG _) (rE (Cz k hk));have:=hr.1;omega
  have hrng:∀k i,k<ax.length->UT S k i->s.next<=i/\i<s'.next:=λk i hk hr=>by
   have h1:=ff hE hC dR (i:=0) (j:=k) (jG _) (rE hk);have h2:=ff hE hC dR (i:=k+1) (j:=ax.length) af (cy _);have:=hr.1;have:=hr.2;omega
  have hDA:∀k,k<ax.length->∀i,DA ax S A k i->dn A s.next s'.next i:=λk hk i hi=>by
   rcases hi with(hi|⟨k2,hi,hr⟩)|hi
   .exact .inl hi
   .have:=US dA hi;exact .inr (hrng k2 i af hr)
   .exact .inr (hrng k i hk hi)
  have EY:∀b o,s'.heap.get b=some o->((∀k,k<ax.length->¬In (S' k).wr b)/\s.heap.get b=some o/\Rz ax S S' A L b o A)\/∃k,k<ax.length/\In (S' k).wr b/\Rz ax S S' A L b o (DA ax S A k):=by
   intro b o hb;rw[<-hSn.2] at hb;rcases Cw hE hC dR lT (cy _) hb with⟨h1,h2⟩|⟨k,h1,h2,h3,h4⟩
   .exact .inl ⟨h1,by rw[<-RD.2];exact h2,.inl ⟨λk hk=>h1 k (Cz k hk),h2,rfl⟩⟩
   .exact .inr ⟨k,h1,h2,.inr ⟨k,hall' k h1,h2,λk' ED Cx=>h3 k' (Cz k' ED) Cx,h4,rfl⟩⟩
  have U0:∀b o,s'.heap.get b=some o->∃D,Rz ax S S' A L b o D/\∀i,D i->dn A s.next s'.next i:=by
   intro b o hb;rcases EY b o hb with⟨_,_,h1⟩|⟨k,hk,_,h1⟩
   .exact⟨A,h1,λi hi=>.inl hi⟩
   .exact⟨_,h1,hDA k hk⟩
  refine hQ _ w1 ⟨?_,Bb,?_,⟨Ii.next,λi hi=>?_,⟨λb o hx hb=>?_,λb b' o o' hx rv hb kX e=>?_⟩,?_,λb hb gx=>?_,λb hb TV gx=>?_,Ii.kept,Ii.ec hp.ec⟩⟩
  .have:∀k,(gT ⟨ax⟩ a (λ_=>true) vals k).defers=a.defers:=λk=>by
    induction k with
    |zero=>rfl
    |succ k ih=>rw[Cy hE hC dR,uk,ih]
   exact this _
  .have key:∀k,k<=ax.length->MV (dn A s.next s'.next) Bb N (TM k) (gT ⟨ax⟩ a (λ_=>true) vals k):=λk=>by
    induction k with
    |zero=>exact λ_=>ZE.mono (λi hi=>.inl hi) hagA
    |succ k ih=>
     intro hk;obtain⟨o,ho⟩:∃o,ax[k]?=some o:=⟨ax[k],bk af⟩;rw[Cy hE hC dR,(dR.step k o (jG _) af ho).1];have Ay:(⟨ax⟩:Array Oper)[k]?=some o:=by simpa using ho
     rw[Ay];exact(ih af).put ((hI.vals k (hall' k af)).mono (hDA k af) (λ_ _=>rfl)) (nJ (kv o (JD ho)))
   rw[<-e3];exact key ax.length (cy _)
  .exact hI.same i λk hk hr=>hi (hrng k i (Cz k hk) hr)
  .obtain⟨D,hc,hD⟩:=U0 b o hb;obtain⟨h1,x,h2,h3⟩:=hI.fy b o D hx hc;exact⟨hD b h1,x,h2,h3.mono hD (λ_ _=>rfl)⟩
  .obtain⟨D,hc,_⟩:=U0 b o hb;obtain⟨D',tM,_⟩:=U0 b' o' kX;exact hI.inj b b' o o' D D' hx rv hc tM e
  .have:=hI.fQ;rw[RD.2] at this;exact⟨this.os,this.tape,this.output,this.size,this.block⟩
  .obtain⟨o,ho⟩:=Jx.1 gx;rcases EY b o ho with⟨_,h1,_⟩|⟨k,hk,hw,hc⟩
   .rw[h1];simp
   .have:=hI.old b o _ (hX k hk b (rR hE hC dR hk hw)) hc af;rw[RD.2] at this;exact this
  .obtain⟨o,ho⟩:=Jx.1 gx;rcases EY b o ho with⟨_,h1,_⟩|⟨k,hk,hw,hc⟩
   .rw[hp.ec b hb] at h1;cases h1
   .have:=hI.bD b o _ (hX k hk b (rR hE hC dR hk hw)) hc af;rw[RD.2] at this;exact this
 .refine⟨λk hk=>(by cases hk),ρ,λi _=>rfl,λb o D hx hc=>?_,λb b' o o' D D' hx rv hc tM e=>?_,λk hk=>(by cases hk),⟨rfl,rfl,rfl,cy _,λ_ _ _=>rfl⟩,λb o D hx hc hb=>?_,λb o D hx hc hb=>?_⟩
  .rcases hc with⟨_,h1,rfl⟩|⟨k,hk,_⟩
   .rw[RD.2] at h1;exact hp.st.fy b o hx h1
   .cases hk
  .rcases hc with⟨_,h1,rfl⟩|⟨k,hk,_⟩
   .rcases tM with⟨_,h2,rfl⟩|⟨k,hk,_⟩
    .rw[RD.2] at h1 h2;exact hp.st.inj b b' o o' hx rv h1 h2 e
    .cases hk
   .cases hk
  .rcases hc with⟨_,h1,rfl⟩|⟨k,hk,_⟩
   .rw[h1];simp
   .cases hk
  .rcases hc with⟨_,h1,rfl⟩|⟨k,hk,_⟩
   .rw[lT b hb] at h1;cases h1
   .cases hk
end
def codeOk (N:Nat):Code->Bool
 |.region _ ax draw=>ax.toList.all (uj N)&&(!draw||zJ ax)
 |.seq a b=>codeOk N a&&codeOk N b
 |.cond c a b=>Ic c&&codeOk N a&&codeOk N b
 |.block _ c=>codeOk N c
 |.loop c=>codeOk N c
 |_=>true
def ZF:Ex->Exit
 |.normal=>.normal
 |.exit id=>.exit id
 |.ret=>.ret
section
variable {E:dy}{P:Program}{call:dJ}{N:Nat}{X A:Nat->Prop}{ρ:fP}{s s':St}{w:World}{a:Act}{Q:Exit->Act->World->Prop}
def CA (P:Program)(c:Code)(Q:Exit->Act->World->Prop)(a:Act)(w:World):Prop:=
 ∀(b:Frame)(k:List Item)(cs:List Frame),∃e a' w',Q e a' w'/\Arrives P (lone (b.at a (.code c:: .inLoop c::k)) cs w) b k cs e a' w'
theorem ZG {c:Code}(h:CA P c Q a w):(Code.loop c).wp P Q a w:=λb k cs=>by
 obtain⟨e,a',w',hq,EU⟩:=h b k cs;exact⟨e,a',w',hq,.of_steps (.one step_loop) EU⟩
theorem wI {c:Code}(h:c.wp P (Exit.then (CA P c Q) Q) a w):CA P c Q a w:=λb k cs=>by
 obtain⟨e,U1,U2,hq,EU⟩:=h b (.inLoop c::k) cs;cases e with
 |normal=>
  obtain⟨e₂,a₂,w₂,hq₂,ZH⟩:=hq b k cs;exact⟨e₂,a₂,w₂,hq₂,.of_steps (Steps.trans EU (.one step_inLoop)) ZH⟩
 |exit id=>exact⟨_,U1,U2,hq,.pass (x:=.inLoop c) rfl (λ_ _=>.inl (by simp)) EU⟩
 |goto l=>exact⟨_,U1,U2,hq,.pass (x:=.inLoop c) rfl (λ_ _=>.inl (by simp)) EU⟩
 |ret=>exact⟨_,U1,U2,hq,.pass (x:=.inLoop c) rfl (λ_ _=>.inl (by simp)) EU⟩
 |panic ch=>exact⟨_,U1,U2,hq,.pass (x:=.inLoop c) rfl (λ_ _=>.inl (by simp)) EU⟩
 |outgrown=>exact⟨_,U1,U2,hq,.pass (x:=.inLoop c) rfl (λ_ _=>.inl (by simp)) EU⟩
def CB (P:Program)(N:Nat)(c:Code)(s:St)(tm:Tm)(e:Ex)(jk:Tm)(s':St)(go:(Exit->Act->World->Prop)->Act->World->Prop):Prop:=
 az s s'/\∀X A ρ w a Q,oN P X A ρ s s' w->Gl A ρ->MV A ρ N tm a->(∀a' w',Left P X A ρ N s s' w a jk a' w'->Q (ZF e) a' w')->go Q a w
theorem Left.same (hp:oN P X A ρ s s w){tm:Tm}(ht:MV A ρ N tm a):Left P X A ρ N s s w a tm a w:=
 ⟨rfl,ρ,ht.mono (λi hi=>.inl hi) (λ_ _=>rfl),Good.refl hp.st hp.ec⟩
theorem CB.next {c c2:Code}{s s1 s2:St}{rS YJ:Tm}{e:Ex}{go2:(Exit->Act->World->Prop)->Act->World->Prop}(Bc:az s s1)(h2:CB P N c2 s1 rS e YJ s2 go2)(hp:oN P X A ρ s s2 w)(gK:Gl A ρ)
  (hQ:∀a' w',Left P X A ρ N s s2 w a YJ a' w'->Q (ZF e) a' w'){a1:Act}{w1:World}(hl:Left P X A ρ N s s1 w a rS a1 w1):go2 Q a1 w1:=by
 obtain⟨hd,Bb,Zz,hG⟩:=hl;have UO:∀i,A i->Bb i=ρ i:=λi hi=>hG.same i (by have:=hp.lt i hi;omega)
 refine h2.2 X _ Bb w1 a1 Q ⟨dn.lt hp.lt Bc.next,hG.ec,hp.cM,hG.state⟩ (gK.mono (λi hi=>.inl hi) UO) Zz λa2 w2 tF=>hQ a2 w2 ?_
 obtain⟨RF,Bv,ht2,hG2⟩:=tF;exact⟨RF.trans hd,Bv,ht2.mono (λi hi=>dn.join Bc.next h2.1.next hi) (λ_ _=>rfl),Good.trans hp.cM Bc h2.1 hp.lt hG hG2⟩
theorem oN.part {s1 s2:St}(hp:oN P X A ρ s s2 w)(hg:az s1 s2):oN P X A ρ s s1 w:=⟨hp.lt,hp.ec,λb hb=>hp.cM b (hg.cM b hb),hp.st⟩
theorem Ki {c:Code}{body:Tm->St->R4}(hb:∀tm s e jk s',body tm s=some (e,jk,s')->CB P N c s tm e jk s' (c.wp P)):∀(n:Nat)(tm:Tm)(s:St){e:Ex}{jk:Tm}{s':St},Ce body n tm s=some (e,jk,s')->CB P N c s tm e jk s' (CA P c)
 |0,tm,s,e,jk,s',h=>by cases h
 |n+1,tm,s,e,jk,s',h=>by
  have h':FM (body tm s) (Ce body n)=some (e,jk,s'):=h;obtain⟨⟨e1,rS,s1⟩,h1,h2⟩:=aw h';have Gk:=hb tm s e1 rS s1 h1;cases e1 with
  |normal=>
   have ih:=Ki hb n rS s1 h2;refine⟨Gk.1.trans ih.1,λX A ρ w a Q hp gK ht hQ=>wI ?_⟩;refine Gk.2 X A ρ w a _ (hp.part ih.1) gK ht λa1 w1 hl=>?_
   exact CB.next (c:=c) (c2:=c) (go2:=CA P c) Gk.1 ih hp gK hQ hl
  |exit id=>
   refine' zaT
  |ret=>
   refine' zaT
theorem U3 (hE:cS E P)(hC:dP P call)(hm:P.follows .mixedOrders=true)(lf:Nat):∀(c:Code),codeOk N c=true->∀(tm:Tm)(s:St)(e:Ex)(jk:Tm)(s':St),l8 E call lf c tm s=some (e,jk,s')->CB P N c s tm e jk s' (c.wp P):=by
 intro c;induction c with
 |skip=>
  intro _ tm s e jk s' h;have:=ir h;simp only[cx] at this;obtain⟨rfl,rfl,rfl⟩:=this;exact⟨az.refl _,λX A ρ w a Q hp gK ht hQ=>wp_skip (hQ a w (Left.same hp ht))⟩
 |region id ax draw=>
  intro fZ tm s e jk s' h;obtain⟨ax⟩:=ax;simp only[codeOk,cv,iM] at fZ;obtain⟨hok1,hok2⟩:=fZ;have h':PA E call ax draw tm s=some (e,jk,s'):=h;cases draw with
  |false=>
   obtain⟨⟨rS,s1⟩,h1,h2⟩:=aw (show FN (JV E call ax ax tm s)=some (e,jk,s') from h');have:=ir h2;simp only[cx] at this;obtain⟨rfl,rfl,rfl⟩:=this;obtain⟨hg,hk⟩:=Ig hE hC ax hok1 ax 0 tm s (by simp) h1;refine⟨hg,λX A ρ w a Q hp gK ht hQ=>wp_region ?_⟩;have:=hk X A ρ w a Q hp gK ht hQ
   rwa [List.range_eq_range']
  |true=>
   obtain⟨⟨rS,s1⟩,h1,h2⟩:=aw (show FN (ub E call ax ax 0 tm s [])=some (e,jk,s') from h');have:=ir h2;simp only[cx] at this;obtain⟨rfl,rfl,rfl⟩:=this;obtain⟨hg,hk⟩:=UZ hE hC hm hok1 (by simpa using hok2) h1;exact⟨hg,λX A ρ w a Q hp gK ht hQ=>hk X A ρ w a Q id hp gK ht hQ⟩
 |seq x y ihx ihy=>
  intro fZ tm s e jk s' h;simp only[codeOk,cv] at fZ;have h':FM (l8 E call lf x tm s) (l8 E call lf y)=some (e,jk,s'):=h;obtain⟨⟨e1,rS,s1⟩,h1,h2⟩:=aw h';have hx:=ihx fZ.1 tm s e1 rS s1 h1;cases e1 with
  |normal=>
   have hy:=ihy fZ.2 rS s1 e jk s' h2;refine⟨hx.1.trans hy.1,λX A ρ w a Q hp gK ht hQ=>wp_seq ?_⟩;refine hx.2 X A ρ w a _ (hp.part hy.1) gK ht λa1 w1 hl=>?_
   exact CB.next (c:=x) (c2:=y) (go2:=y.wp P) hx.1 hy hp gK hQ hl
  |exit id=>
   refine' zaR
  |ret=>
   refine' zaR
 |cond c x y ihx ihy=>
  intro fZ tm s e jk s' h;simp only[codeOk,cv] at fZ;have h':Pz (aI tm c) (l8 E call lf x tm s) (l8 E call lf y tm s)=some (e,jk,s'):=h;unfold Pz at h';split at h'
  .rename_i b hb;cases b with
   |true=>
    have hx:=ihx fZ.1.2 tm s e jk s' h';refine⟨hx.1,λX A ρ w a Q hp gK ht hQ=>wp_cond_true ?_ (hx.2 X A ρ w a Q hp gK ht hQ)⟩;have:=BF (tm:=tm) (a:=a) fZ.1.1 gK λt _=>ht.2 t
    rw[hb] at this;exact this.sH
   |false=>
    have hy:=ihy fZ.2 tm s e jk s' h';refine⟨hy.1,λX A ρ w a Q hp gK ht hQ=>wp_cond_false ?_ (hy.2 X A ρ w a Q hp gK ht hQ)⟩;have:=BF (tm:=tm) (a:=a) fZ.1.1 gK λt _=>ht.2 t
    rw[hb] at this;exact this.sH
  .cases h'
 |block id c ih=>
  intro fZ tm s e jk s' h;have h':outV id (l8 E call lf c tm s)=some (e,jk,s'):=h;obtain⟨⟨e1,rS,s1⟩,h1,h2⟩:=aw h';have hc:=ih (by simpa[codeOk] using fZ) tm s e1 rS s1 h1;cases e1 with
  |normal=>
   refine' zaP
  |ret=>
   refine' zaP
  |exit i=>
   have h3:bo (Nat.beq i id) (some (Ex.normal,rS,s1)) (some (Ex.exit i,rS,s1))=some (e,jk,s'):=h2;rw[ek] at h3;split at h3
   .rename_i hi;have hi:i=id:=by simpa using hi
    have:=ir h3;simp only[cx] at this;obtain⟨rfl,rfl,rfl⟩:=this;refine⟨hc.1,λX A ρ w a Q hp gK ht hQ=>wp_block (hc.2 X A ρ w a _ hp gK ht λa1 w1 hl=>?_)⟩;simp only[ZF,Exit.inBlock,hi,if_true];exact hQ a1 w1 hl
   .rename_i hi;have hi:¬i=id:=by simpa using hi
    have:=ir h3;simp only[cx] at this;obtain⟨rfl,rfl,rfl⟩:=this;refine⟨hc.1,λX A ρ w a Q hp gK ht hQ=>wp_block (hc.2 X A ρ w a _ hp gK ht λa1 w1 hl=>?_)⟩;simp only[ZF,Exit.inBlock,hi,oV];exact hQ a1 w1 hl
 |loop c ih=>
  intro fZ tm s e jk s' h;have h':Ce (l8 E call lf c) lf tm s=some (e,jk,s'):=h;have:=Ki (c:=c) (λtm s e jk s'=>ih (by simpa[codeOk] using fZ) tm s e jk s') lf tm s h';exact⟨this.1,λX A ρ w a Q hp gK ht hQ=>ZG (this.2 X A ρ w a Q hp gK ht hQ)⟩
 |exit id=>
  intro _ tm s e jk s' h;have:=ir h;simp only[cx] at this;obtain⟨rfl,rfl,rfl⟩:=this;exact⟨az.refl _,λX A ρ w a Q hp gK ht hQ=>wp_exit (hQ a w (Left.same hp ht))⟩
 |ret=>
  intro _ tm s e jk s' h;have:=ir h;simp only[cx] at this;obtain⟨rfl,rfl,rfl⟩:=this;exact⟨az.refl _,λX A ρ w a Q hp gK ht hQ=>wp_ret (hQ a w (Left.same hp ht))⟩
 |rangeFunc _ _ _ _ _ _=>intro _ tm s e jk s' h;cases h
 |scope _ _=>intro _ tm s e jk s' h;cases h
 |label _=>intro _ tm s e jk s' h;cases h
 |goto _=>intro _ tm s e jk s' h;cases h
 |refuse _=>intro _ tm s e jk s' h;cases h
end
abbrev Ent:=Empty
noncomputable section
def pEq (a b:aH):Bool:=match a,b with
 |none,none=>true
 |some ⟨b,o,none⟩,some ⟨b',o',none⟩=>Nat.beq b b'&&Nat.beq o o'
 |_,_=>false
def NA (a b:Bool):Bool:=bo a b (!b)
mutual
def EE:Value->Value->Bool
 |.bool a,.bool b=>NA a b
 |.int k a,.int j b=>pK k j&&xM a b
 |.string ⟨⟨a⟩⟩,.string ⟨⟨b⟩⟩=>gv a b
 |.pointer a,.pointer b=>pEq a b
 |.slice a l c,.slice b m d=>pEq a b&&Nat.beq l m&&Nat.beq c d
 |.agg ⟨a⟩,.agg ⟨b⟩=>ZI a b
 |.tuple ⟨a⟩,.tuple ⟨b⟩=>ZI a b
 |.func (.func f) ⟨a⟩ ⟨b⟩,.func (.func g) ⟨c⟩ ⟨d⟩=>Nat.beq f g&&ZI a c&&ZI b d
 |.map none,.map none=>true
 |.map (some a),.map (some b)=>Nat.beq a b
 |.nilFunc,.nilFunc=>true
 |.nilIface,.nilIface=>true
 |_,_=>false
def ZI:aQ->aQ->Bool
 |[],[]=>true
 |a::x,b::y=>EE a b&&ZI x y
 |_,_=>false
end
def qN (E:dy)(X:dM)(lf:Nat)(tab:List Ent)(n:Nat):dJ:=
 Nat.rec (λ_ _ _=>none) (λ_ ih f args s=>ob (E.fn.get f) λfn=>xT X f args s<| match fn.body with
     |none=>Zb X f args s
     |some c=>bo (Nat.beq f X.look) (JW args s)<| eb (Nat.ble (eh args) fn.ntmps)<| Uo E fn (l8 E ih lf c (lL args (nat_lit 0) .nil) s)) n
end
def mL (P:Program)(f:FuncId)(h:wB):Prop:=∀args s v s',h args s=some (v,s')->az s s'/\∀Y A ρ w gH,oN P Y A ρ s s' w->Gl A ρ->LR A ρ args gH->lU P f ⟨gH⟩ w λv' w'=>pN P Y A ρ s s' w v v' w'
structure U4 (E:dy)(P:Program)(X:dM):Prop where
 vT:∀p∈X.vT,mL P p.1 p.2
 enter:∀f fn c,E.fn.get f=some fn->fn.body=some c->∀args w,(callFunc f args).run P w= .ok (.enter f args) w
 code:∀f fn c,E.fn.get f=some fn->f≠X.look->fn.body=some c->codeOk fn.ntmps c=true
 rK:∀x w,(callFunc X.rK #[x]).run P w= .ok (.value x) w
 indexByte:∀(z:List UInt8)(c:Nat) w,c<256->(callFunc X.indexByte #[.string ⟨⟨z⟩⟩,.int .u8 (.ofNat c)]).run P w= .ok (.value (.int .i64 (Rb c z 0))) w
 byte:P.cellsOf X.byte=1
 sF:∀fn,E.fn.get X.sF=some fn->∀(n:Nat) w,n<=1000000->∃cs:aQ,(callFunc X.sF #[.int .i64 (.ofNat n)]).run P w= .ok (.value (.slice (some ⟨w.heap.size,0,none⟩) n cs.length)) (w.drew.drew.alloc (.cells ⟨cs⟩ X.byte))/\cs.length<=maxLen
 look:∀fn,E.fn.get X.look=some fn->∀(b o n c:Nat)(a:aH)(k:Nat)(g:Value)(i:Nat)(z:List UInt8) w,i<n->w.cell? ⟨b,o+i,none⟩=some (.string ⟨⟨z⟩⟩)->
  Calls P X.look #[.agg ⟨[.slice (some ⟨b,o,none⟩) n c,.slice a 0 k,g]⟩,.int .i64 (.ofNat i)] w λe w'=>e= .returned (.string ⟨⟨z⟩⟩)/\Fr w w' λ_=>False
section
variable {E:dy}{P:Program}{call:dJ}{N:Nat}{X A:Nat->Prop}{ρ:fP}{s s':St}{w:World}{a:Act}{Q:Exit->Act->World->Prop}{tm:Tm}
theorem vc (r:ResultVar)(l:List ResultVar)(s:St):Cf E tm (r::l) s=match r with
  |.tmp t=>ob (Cf E tm l s) λp=>some (lG (tm.get t)::p.1,p.2)
  |.cell a t=>Ez (lG (tm.get a)) λb o=>ob (l6 E s t b o) λq=>ob (Cf E tm l q.2) λp=>some (q.1::p.1,p.2):=rfl
theorem Ij (hE:cS E P):∀(l:List ResultVar)(s:St){vs:aQ}{s':St},Cf E tm l s=some (vs,s')->az s s'/\s'.heap=s.heap/\s'.next=s.next/\∀X A ρ w (a:Act),(∀b,In s'.cM b->X b)->fK P X A ρ s.heap.get w->(∀t,VR A ρ (lG (tm.get t)) (a.tmps.getD t undef))->
  ∃FT,(l.mapM (λ(r:ResultVar)=>match r with|.tmp t=>pure (a.tmps.getD t undef)|.cell x t=>do loadVar t (<-asAddr (a.tmps.getD x undef))):Sem (aQ)).run P w= .ok FT w/\LR A ρ vs FT
 |[],s,vs,s',h=>by
  have:=ir h;simp only[cx] at this;obtain⟨rfl,rfl⟩:=this;exact⟨az.refl _,rfl,rfl,λX A ρ w a _ _ _=>⟨[],by simp,LR.nil⟩⟩
 |r::l,s,vs,s',h=>by
  rw[vc] at h;cases r with
  |tmp t=>
   obtain⟨⟨vs1,s1⟩,h1,h2⟩:=aw h;have:=ir h2;simp only[cx] at this;obtain⟨rfl,rfl⟩:=this;obtain⟨hg,e1,e2,hk⟩:=Ij hE l s h1;refine⟨hg,e1,e2,λX A ρ w a hX ji ht=>?_⟩;obtain⟨FT,h3,h4⟩:=hk X A ρ w a hX ji ht;refine⟨a.tmps.getD t undef::FT,?_,LR.cons (ht t) h4⟩;simp only[EK,Sem.run_bind,Sem.run_pure,Result.andThen_ok,h3]
  |cell x t=>
   obtain⟨b,o,hx,h1⟩:=HW h;obtain⟨⟨v,s1⟩,h2,h3⟩:=aw h1;obtain⟨⟨vs1,s2⟩,h4,h5⟩:=aw h3;have:=ir h5;simp only[cx] at this;obtain⟨rfl,rfl⟩:=this;obtain⟨rfl,hl⟩:=J0 hE h2;obtain⟨hg,e1,e2,hk⟩:=Ij hE l _ h4;refine⟨(az.aR s b).trans hg,by rw[e1];simp,by rw[e2];simp,λX A ρ w a hX ji ht=>?_⟩;obtain⟨v',h6,h7⟩:=hl X A ρ w (hX b (hg.cM b (gy s b))) ji;obtain⟨FT,h8,h9⟩:=hk X A ρ w a hX (by simpa using ji) ht;refine⟨v'::FT,?_,LR.cons h7 h9⟩;have hv:=ht x;rw[hx] at hv;have Bd:(asAddr (a.tmps.getD x undef)).run P w= .ok ⟨(ρ b).1,o,none⟩ w:=by rw[hv.nt];rfl
   simp only[EK,Sem.run_bind,Bd,Sem.run_pure,Result.andThen_ok,h6,h8]
theorem ZJ {vs FT:aQ}(h:LR A ρ vs FT):VR A ρ (gF vs) (if h:(⟨FT⟩:Array Value).size=1 then(⟨FT⟩:Array Value)[0] else .tuple ⟨FT⟩):=by
 have hl:=h.length;unfold gF;split
 .rename_i v;obtain⟨u,us,rfl,hu,Rq⟩:=h.js;have:us=[]:=mG (by simpa using hl);subst this;simpa using hu
 .rename_i gx;rw[dif_neg]
  .exact VR.tuple h
  .intro h1;have h2:vs.length=1:=by rw[<-hl];simpa using h1
   match vs,h2 with
   |[v],_=>exact gx v rfl
theorem Ik (v:Value)(l:aQ)(i:Nat)(tm:Tm):lL (v::l) i tm=lL l (i+1) (tm.set (Nat.succ i) i (some v)):=by
 have h:lL (v::l) i tm=Ui v λv=>(tm.set (Nat.succ i) i (some v)).now λtm=>lL l (Nat.succ i) tm:=rfl
 rw[h,Zc,T.Nd]
theorem uo:∀(l:aQ)(i:Nat)(tm:Tm)(t:Nat),(lL l i tm).get t=if i<=t/\t<i+l.length then l[t-i]? else tm.get t
 |[],i,tm,t=>by
  have:lL [] i tm=tm:=rfl;rw[this,if_neg (by simp only[mD];omega)]
 |v::l,i,tm,t=>by
  rw[Ik,uo l,T.u1];by_cases h:t=i
  .subst h;rw[if_neg af,if_pos rfl,if_pos (by simp)];simp
  .simp only[h,oV];by_cases h2:i+1<=t/\t<i+1+l.length
   .rw[if_pos h2,if_pos (by simp;omega)];rw[show t-i=(t-(i+1))+1 by omega];simp
   .rw[if_neg h2,if_neg (by simp;omega)]
theorem bo_and {a b:Bool}:bo a b false=(a&&b):=by cases a<;>rfl
theorem RG {a b:Bool}(h:NA a b=true):a=b:=by cases a<;>cases b<;>simp_all [NA]
theorem U5 {a b:aH}(h:pEq a b=true):a=b:=by
 unfold pEq at h;split at h
 .rfl
 .rw[cv] at h;have h1:=oM h.1;have h2:=oM h.2;subst h1 h2;rfl
 .cases h
mutual
theorem U6:∀(x y:Value),EE x y=true->x=y
 |.bool a,y,h=>by
  cases y<;>simp only[EE,jH] at h
  rw[RG h]
 |.int k a,y,h=>by
  cases y<;>simp only[EE,jH,cv] at h
  rw[u4 h.1];have:=h.2;rw[jv] at this;simp at this;rw[this]
 |.string ⟨⟨a⟩⟩,y,h=>by
  cases y<;>simp only[EE,jH] at h
  rw[eQ] at h;simp at h;rw[h]
 |.pointer a,y,h=>by
  cases y<;>simp only[EE,jH] at h
  rw[U5 h]
 |.slice a l c,y,h=>by
  cases y<;>simp only[EE,jH,cv] at h
  rw[U5 h.1.1,oM h.1.2,oM h.2]
 |.agg ⟨a⟩,y,h=>by
  cases y<;>simp only[EE,jH] at h
  rw[CC _ _ h]
 |.tuple ⟨a⟩,y,h=>by
  cases y<;>simp only[EE,jH] at h
  rw[CC _ _ h]
 |.func fn ⟨a⟩ ⟨b⟩,y,h=>by
  cases fn<;>cases y<;>(try(simp only[EE,jH] at h;done))
  rename_i f fn2 c d;cases fn2<;>(try(simp only[EE,jH] at h;done))
  simp only[EE,cv] at h;rw[oM h.1.1,CC _ _ h.1.2,CC _ _ h.2]
 |.nilFunc,y,h=>by
  cases y<;>first|rfl|(simp only[EE,jH] at h;done)
 |.nilIface,y,h=>by
  cases y<;>first|rfl|(simp only[EE,jH] at h;done)
 |.float _ _,y,h=>by cases y<;>simp only[EE,jH] at h
 |.complex _ _ _,y,h=>by cases y<;>simp only[EE,jH] at h
 |.map a,y,h=>by
  cases y
  case map b=>
   cases a<;>cases b<;>first|rfl|(simp only[EE,jH] at h;done)|skip
   rename_i a b;simp only[EE] at h;rw[oM h]
  all_goals cases a<;>simp only[EE,jH] at h
 |.chan _,y,h=>by cases y<;>simp only[EE,jH] at h
 |.iface _ _,y,h=>by cases y<;>simp only[EE,jH] at h
theorem CC:∀(x y:aQ),ZI x y=true->x=y
 |[],[],_=>rfl
 |[],_::_,h=>by simp only[ZI,jH] at h
 |_::_,[],h=>by simp only[ZI,jH] at h
 |a::x,b::y,h=>by
  simp only[ZI,cv] at h;rw[U6 a b h.1,CC x y h.2]
end
theorem lU.mono {f:FuncId}{args:Array Value}{R R':Value->World->Prop}(h:lU P f args w R)(hr:∀v w,R v w->R' v w):lU P f args w R':=by
 rcases h with⟨v,w',h1,h2⟩|⟨g,as_,w',h1,h2⟩
 .exact .inl ⟨v,w',h1,hr _ _ h2⟩
 .exact .inr ⟨g,as_,w',h1,h2.mono λe w'' ⟨v,he,hh⟩=>⟨v,he,hr _ _ hh⟩⟩
theorem U7 {X:dM}(hF:U4 E P X){fn:Func}(Kj:E.fn.get X.sF=some fn){args:aQ}{v:Value}(h:zeroV X args s=some (v,s')):
  az s s'/\∀Y A ρ w gH,oN P Y A ρ s s' w->Gl A ρ->LR A ρ args gH->lU P X.sF ⟨gH⟩ w λv' w'=>pN P Y A ρ s s' w v v' w':=by
 unfold zeroV at h;split at h
 .rename_i n;obtain⟨hc,h2⟩:=bg h;simp only[cv,oc] at hc;have:=aA h2;simp only[cx] at this;obtain⟨rfl,rfl⟩:=this;refine⟨az.jt s _,λY A ρ w gH hp gK hl=>.inl ?_⟩;obtain⟨x',r,rfl,hx,hr⟩:=hl.js;have:r=[]:=mG (by simpa using hr.length);subst this;rw[hx.ma];obtain⟨cs,nH,cX⟩:=hF.sF fn Kj n w hc.2;refine⟨_,_,nH,ρ.at s.next (w.heap.size,cs.length),?_,?_⟩
  .have:=VR.slice (A:=dn A s.next (s.new (.cells [] X.byte true)).next) (ρ:=ρ.at s.next (w.heap.size,cs.length)) (b:=s.next) (o:=0) (l:=n) (c:=eL) (.inr ⟨cy _,by simp⟩);simpa[bS,dE] using this
  .refine Good.alloc (o:=.cells [] X.byte true) (x:=.cells ⟨cs⟩ X.byte) hp.st hp.ec hp.lt (λc=>by simp) (by simp) (jY s _) (cy _) ?_ ?_ ?_
   .have:=heap_alloc_new w.drew.drew (.cells ⟨cs⟩ X.byte);exact this
   .refine⟨[],cs,(0,0),rfl,LR.nil,λ_=>⟨rfl,?_,?_,cX⟩,λh=>by cases h⟩
    .rw[hF.byte];simp
    .rw[hF.byte];exact Nat.one_pos
   .have:=Fr.alloc w.drew.drew (.cells ⟨cs⟩ X.byte);exact⟨this.os,this.tape,this.output,this.size,this.block⟩
 .cases h
theorem Good.grew {s1:St}{w1:World}(ji:fK P X A ρ s.heap.get w)(zD:∀b,s.next<=b->s.heap.get b=none)(hn:s1.next=s.next)(hg:s1.heap=s.heap)(hf:Fr w w1 λ_=>False):Good P X A ρ s s1 w w1 ρ:=by
 refine⟨af,λ_ _=>rfl,?_,⟨hf.os,hf.tape,hf.output,hf.size,λr hr _=>hf.block r hr λh=>h⟩,λb _ h=>by rw[hg] at h;exact h,λb h1 h2=>by omega,λb _ _=>by rw[hg],λb hb=>by rw[hg];exact zD b af⟩;rw[hg];refine⟨λb o hx hb=>?_,ji.inj⟩;obtain⟨h1,x,h2,h3⟩:=ji.fy b o hx hb;refine⟨.inl h1,x,?_,h3.mono (λi hi=>.inl hi) (λ_ _=>rfl)⟩;rw[hf.block _ (xD.1 h2).1 λh=>h];exact h2
theorem U8 {X:dM}(hF:U4 E P X)(U9:∀args w,(callFunc X.look args).run P w= .ok (.enter X.look args) w){fn:Func}(Kj:E.fn.get X.look=some fn){args:aQ}{v:Value}(h:JW args s=some (v,s')):
  az s s'/\∀Y A ρ w gH,oN P Y A ρ s s' w->Gl A ρ->LR A ρ args gH->lU P X.look ⟨gH⟩ w λv' w'=>pN P Y A ρ s s' w v v' w':=by
 unfold JW at h;split at h
 .rename_i b o n c a k g i;obtain⟨hi,h2⟩:=bg h;have hi:i<n:=qq hi;obtain⟨cs,e,u,hg,h3⟩:=mK h2;obtain⟨v1,hv1,h4⟩:=aw h3;split at h4
  rotate_left
  .cases h4
  rename_i z;have:=aA h4;simp only[cx] at this;obtain⟨rfl,rfl⟩:=this;rw[dQ] at hv1;refine⟨az.aR s b,λY A ρ w gH hp gK hl=>.inr ?_⟩;obtain⟨x',r,rfl,hx,hr⟩:=hl.js;obtain⟨y',r2,rfl,hy,nW⟩:=hr.js;have:r2=[]:=mG (by simpa using nW.length);subst this;rw[hy.ma];obtain⟨xs,rfl,Rh⟩:=hx.PE;obtain⟨x1,xs,rfl,hx1,Rh⟩:=Rh.js;obtain⟨x2,xs,rfl,RC,Rh⟩:=Rh.js;obtain⟨x3,xs,rfl,hx3,Rh⟩:=Rh.js;have:xs=[]:=mG (by simpa using Rh.length);subst this;obtain⟨hA,c',aL,fr,r1,r2,r3,r4,r5,r6⟩:=hp.st.row (hp.cM b (gy s b)) hg;obtain⟨v',UH,hv3⟩:=r2.get hv1;have UH:c'[o+i]?=some v':=UH;have hx2':∃a' k',x2= .slice a' 0 k':=by
   cases a with
   |none=>exact⟨none,k,RC.iV⟩
   |some a=>obtain⟨a',rv⟩:=RC.sJ;exact⟨some a',_,rv⟩
  obtain⟨a',k',rfl⟩:=hx2';rw[hx1.gd];have tD:w.cell? ⟨(ρ b).1,o+i,none⟩=some v':=by
   rw[xY r1,wq (tL.1 UH).1];exact UH
  have:=hv3.uc;subst this;refine⟨_,_,w,U9 _ _,(hF.look fn Kj (ρ b).1 o n _ a' k' x3 i z w hi tD).mono λe w' hh=>?_⟩;obtain⟨rfl,hf⟩:=hh;exact⟨_,rfl,ρ,hv3.mono (λi hi=>.inl hi) (λ_ _=>rfl),Good.grew hp.st hp.ec (by simp) (by simp) hf⟩
 .cases h
theorem Kk {X:dM}{f:FuncId}{args:aQ}{k:Option (Value×St)}{r:Value×St}(h:xT X f args s k=some r):k=some r\/∃p∈X.vT,p.1=f/\p.2 args s=some r:=by
 have key:∀l:List (Nat×wB),List.rec (motive:=λ_=>Option (Value×St)) k (λp _ ih=>bo (Nat.beq p.1 f) (p.2 args s) ih) l=some r->k=some r\/∃p∈l,p.1=f/\p.2 args s=some r:=by
  intro l;induction l with
  |nil=>exact λh=>.inl h
  |cons p l ih=>
   intro h;have h:bo (Nat.beq p.1 f) (p.2 args s) (List.rec (motive:=λ_=>Option (Value×St)) k (λp _ ih=>bo (Nat.beq p.1 f) (p.2 args s) ih) l)=some r:=h;rw[ek] at h;split at h
   .rename_i hb;exact .inr ⟨p,by simp,by simpa using hb,h⟩
   .rcases ih h with h|⟨q,hq,h1⟩
    .exact .inl h
    .exact .inr ⟨q,by simp[hq],h1⟩
 exact key X.vT h
theorem CD (hE:cS E P){X:dM}(hF:U4 E P X)(hm:P.follows .mixedOrders=true)(lf:Nat){tab:List Ent}(hT:∀e∈tab,False):∀n,dP P (qN E X lf tab n)
 |0=>λf args s v s' h=>by cases h
 |n+1=>λf args s v s' h=>by
  obtain⟨fn,Kj,h1⟩:=aw h;rcases Kk h1 with hk|⟨p,hp,Kl,hk⟩
  case inr=>subst Kl;exact hF.vT p hp args s v s' hk
  clear h1;have h1:=hk;clear hk;split at h1
  .unfold Zb at h1;rw[ek,ek,ek] at h1;split at h1
   .rename_i hf;have hf:f=X.rK:=by simpa using hf
    subst hf;obtain⟨u,hu,h2⟩:=aw h1;have:=aA h2;simp only[cx] at this;obtain⟨rfl,rfl⟩:=this;refine⟨az.refl _,λY A ρ w gH hp gK hl=>.inl ?_⟩;unfold id1 at hu;split at hu
    .rename_i x;have:=ir hu;subst this;obtain⟨x',r,rfl,hx,hr⟩:=hl.js;have:r=[]:=mG (by simpa using hr.length);subst this;exact⟨x',w,hF.rK x' w,ρ,hx.mono (λi hi=>.inl hi) (λ_ _=>rfl),Good.refl hp.st hp.ec⟩
    .cases hu
   .split at h1
    .rename_i hf;have hf:f=X.indexByte:=by simpa using hf
     subst hf;obtain⟨u,hu,h2⟩:=aw h1;have:=aA h2;simp only[cx] at this;obtain⟨rfl,rfl⟩:=this;refine⟨az.refl _,λY A ρ w gH hp gK hl=>.inl ?_⟩;unfold Un at hu;split at hu
     .rename_i z c;obtain⟨hc256,hu⟩:=bg hu;have:=ir hu;subst this;obtain⟨x',r,rfl,hx,hr⟩:=hl.js;obtain⟨y',r2,rfl,hy,nW⟩:=hr.js;have:r2=[]:=mG (by simpa using nW.length);subst this;rw[hx.uc,hy.ma];exact⟨_,w,hF.indexByte z c w (qq hc256),ρ,VR.int _ _,Good.refl hp.st hp.ec⟩
     .cases hu
    .split at h1
     .rename_i hf;have hf:f=X.sF:=by simpa using hf
      subst hf;exact U7 hF Kj h1
     .cases h1
  .rename_i c hc;rw[ek] at h1;split at h1
   .rename_i hf;have hf:f=X.look:=by simpa using hf
    subst hf;exact U8 hF (hF.enter _ fn c Kj hc) Kj h1
   rename_i hne0;have hne0:f≠X.look:=by simpa using hne0
   obtain⟨hla,h2⟩:=bg h1;have hla:args.length<=fn.ntmps:=by simpa using hla
   obtain⟨⟨e,tm,s1⟩,h3,h4⟩:=aw h2;have ih:=CD hE hF hm lf hT n;have Va:=U3 hE ih hm lf c (hF.code f fn c Kj hne0 hc) _ _ _ _ _ h3;have key:∀(gx:e= .normal\/e= .ret),(ob (Cf E tm fn.results.toList s1) λp=>some (gF p.1,p.2))=some (v,s')->az s s'/\∀Y A ρ w gH,oN P Y A ρ s s' w->Gl A ρ->LR A ρ args gH->lU P f ⟨gH⟩ w λv' w'=>pN P Y A ρ s s' w v v' w':=by
    intro gx h5;obtain⟨⟨vs,s2⟩,h6,h7⟩:=aw h5;have:=ir h7;simp only[cx] at this;obtain⟨rfl,rfl⟩:=this;obtain⟨By,e1,e2,Il⟩:=Ij hE _ _ h6;refine⟨Va.1.trans By,λY A ρ w gH hp gK hl=>.inr ⟨f,⟨gH⟩,w,hF.enter f fn c Kj hc _ _,?_⟩⟩;refine calls_of_wp (hE.fn f fn Kj) hc ?_;have hsize:gH.length=args.length:=hl.length;have ht:MV A ρ fn.ntmps (lL args 0 .nil) {tmps:=(⟨gH⟩:Array Value)++Array.replicate (fn.ntmps-(⟨gH⟩:Array Value).size) undef,defers:=[]}:=by
     refine⟨by simp;omega,λt=>?_⟩;rw[uo,T.get_nil];by_cases h8:0<=t/\t<0+args.length
     .rw[if_pos h8,Nat.sub_zero];have h9:t<args.length:=by omega
      obtain⟨u',TY,UE⟩:=hl.get (bk h9);rw[bk h9];have EB:((⟨gH⟩:Array Value)++Array.replicate (fn.ntmps-(⟨gH⟩:Array Value).size) undef).getD t undef=u':=by
       rw[Pm,YU (by simp;omega)];simp[TY]
      rw[EB];exact UE
     .rw[if_neg h8];have EB:((⟨gH⟩:Array Value)++Array.replicate (fn.ntmps-(⟨gH⟩:Array Value).size) undef).getD t undef=undef:=by
       rw[Pm,Array.getElem?_append_right (by simp;omega)];simp only[Array.getElem?_replicate];split<;>rfl
      rw[EB];exact VR.undef
    have Zr:oN P Y A ρ s s1 w:=hp.part By;refine Va.2 Y A ρ w _ _ Zr gK ht λa1 w1 Gc=>?_
    obtain⟨hd,Bb,Zz,hG⟩:=Gc;obtain⟨FT,h8,h9⟩:=Il Y (dn A s.next s1.next) Bb w1 a1 hp.cM hG.state Zz.2;have nH:(results fn a1.tmps).run P w1= .ok (if h:(⟨FT⟩:Array Value).size=1 then(⟨FT⟩:Array Value)[0] else .tuple ⟨FT⟩) w1:=by
     unfold results;rw[Array.mapM_eq_mapM_toList];simp only[map_eq_pure_bind,Sem.run_bind,Sem.run_pure];generalize hXX:Sem.run P (List.mapM _ fn.results.toList) w1=XX;have RC:XX= .ok FT w1:=hXX.symm.trans h8;rw[RC];rfl
    have Gb:∃v,Ending.returned (if h:(⟨FT⟩:Array Value).size=1 then(⟨FT⟩:Array Value)[0] else .tuple ⟨FT⟩)= .returned v/\pN P Y A ρ s s2 w (gF vs) v w1:=by
     refine⟨_,rfl,Bb,?_,?_⟩
     .rw[e2];exact ZJ h9
     .exact Good.trans hp.cM Va.1 By hp.lt hG (Good.Uq hG.state hG.ec e2 e1 rfl rfl rfl rfl)
    rcases gx with rfl|rfl
    .exact⟨hd,_,nH,Gb⟩
    .exact⟨hd,_,nH,Gb⟩
   cases e with
   |normal=>exact key (.inl rfl) h4
   |ret=>exact key (.inr rfl) h4
   |exit id=>cases h4
end
end Go.Ev
namespace Go.Pl
abbrev ay:=List UInt8
def fR (n lo hi:Int):Bool:=decide (lo<=n)&&decide (n<=hi)
def gM (n:Nat):ay:=if h:n<10 then [UInt8.ofNat (48+n)] else gM (n/ 10)++[UInt8.ofNat (48+n% 10)]
def dec (n:Int):ay:=match n with
 |.ofNat n=>gM n
 |.negSucc n=>45::gM (n+1)
def kF (c:UInt8):Bool:=decide (48<=c.toNat)&&decide (c.toNat<=57)
def sT (s:ay):ay:=(s.take 9).takeWhile kF
def numOf (s:ay):Nat:=s.foldl (λn c=>10*n+(c.toNat-48)) 0
def kG (s:ay):Nat×Nat:=
 let d:=sT s
 if 1<d.length/\s.headD 0=48 then(0,1) else(numOf d,d.length)
def iu (s:ay):Option Nat:=
 let r:=kG s
 if r.2=0\/r.2≠s.length then none else some r.1
def cut (c:UInt8):ay->List ay
 |[]=>[[]]
 |x::s=>if x=c then []::cut c s else match cut c s with
  |[]=>[[x]]
  |w::r=>(x::w)::r
def fieldsOf (l:List ay):ay:=(l.map λs=>gM s.length++58::s).flatten
def kH:List ay->ay->Option ay
 |[],out=>some out
 |s::l,out=>if 2048<s.length then none else
  let o:=out++(gM s.length++58::s)
  if 2048<o.length then none else kH l o
def iW (l:List ay):Option ay:=if 60<l.length then none else kH l []
def rT:Nat->ay->List ay->Option (List ay)
 |0,_,_=>none
 |_+1,[],out=>some out
 |f+1,s,out=>
  let(n,k):=kG s
  if k=0\/s.length<=k\/s.getD k 0≠58\/s.length-k-1<n then none
  else rT f (s.drop (k+1+n)) (out++[(s.drop (k+1)).take n])
def eR (s:ay):Option (List ay):=
 match(if 2048<s.length then some [] else rT (s.length+1) s []) with
 |none=>none
 |some out=>match iW out with
  |none=>none
  |some t=>if t=s then some out else none
def Km:ay->Nat->Nat->Nat
 |[],a,b=>a*9973+b
 |c::s,a,b=>Km s ((a+c.toNat+1)% 9973) ((b+(a+c.toNat+1)% 9973)% 9973)
def sumOf (s:ay):Nat:=Km s 1 0
structure iL where
 row:Int
 de:Int
 size:Int
 sum:Int
 level:Int
deriving DecidableEq,Repr,Inhabited
abbrev cV:=List iL
def bq:iL:=⟨0,0,0,0,0⟩
def aC (p:iL):Bool:=decide (p=bq)
def RH (n:Int):Bool:=fR n 8 63
def Im (s:ay):Bool:=decide (1<=s.length)&&decide (s.length<=128)
def bw (p:iL):Bool:=aC p||(RH p.row&&fR p.de 1 900&&fR p.size 1 128&&fR p.sum 0 99460728&&fR p.level 0 2)
def eH (p:iL):ay:=if !bw p then [] else if aC p then [45] else
 dec p.row++46::(dec p.de++46::(dec p.size++46::(dec p.sum++46::dec p.level)))
def iX (s:ay):Option iL:=if s=[45] then some bq else
 match cut 46 s with
 |[a,b,c,d,e]=>match iu a,iu b,iu c,iu d,iu e with
  |some a,some b,some c,some d,some e=>
   let p:iL:=⟨a,b,c,d,e⟩
   if !bw p||aC p then none else some p
  |_,_,_,_,_=>none
 |_=>none
def rU (row de level:Int)(s:ay):Option iL:=
 let p:iL:=⟨row,de,s.length,sumOf s,level⟩
 if !Im s then none else if !bw p then none else some p
def fits (p:iL)(s:ay):Bool:=bw p&&!aC p&&decide (p.size=s.length)&&decide (p.sum=sumOf s)
def il (c:UInt8):List ay->ay
 |[]=>[]
 |[s]=>s
 |s::l=>s++c::il c l
def j8 (l:cV):Option ay:=
 if l.length≠4 then none else if l.any (λp=>!bw p) then none else if l.all aC then none else some (il 44 (l.map eH))
def j9 (s:ay):Option (cV):=
 match(cut 44 s).mapM iX with
 |none=>none
 |some l=>if l.length≠4\/l.all aC then none else some l
structure ak where
 ep:List ay
 aV:List Int
 dq:List Int
 fE:Int
 cG:cV
 ot:Int
 eg:cV
 same:Bool
deriving Repr,Inhabited
def bQ (same:Bool):ak:=⟨List.replicate 64 [],List.replicate 64 0,List.replicate 64 0,1,[],0,[],same⟩
def rwAt (st:ak)(p:iL):ay:=st.ep.getD p.row.toNat []
def jP (st:ak)(p:iL):Option ay:=if aC p then some [] else if fits p (rwAt st p) then some (rwAt st p) else none
def ya (st:ak)(s:ay)(i:Nat):Bool:=decide (st.ep.getD i []=s)&&decide (st.dq.getD i 0<st.fE)&&decide (st.aV.getD i 0<st.fE)
def nu (p:Nat->Bool):Nat->Nat->Option Nat
 |0,_=>none
 |n+1,i=>if p i then some i else nu p n (i+1)
def Vb (st:ak)(s:ay):Option Nat:=nu (ya st s) 56 8
def CE (st:ak):Option Nat:=nu (λi=>decide (st.aV.getD i 0=0)) 56 8
def nX (st:ak)(s:ay)(level:Int):Option Nat:=
 match(if st.same&&decide (level=0) then Vb st s else none) with
 |some i=>some i
 |none=>CE st
def aZ (st:ak)(s:ay)(level:Int):Option (ak×iL):=
 match nX st s level with
 |none=>none
 |some i=>match rU i st.fE level s with
  |none=>none
  |some p=>some ({st with ep:=st.ep.set i s,aV:=st.aV.set i (st.aV.getD i 0+1),dq:=st.dq.set i st.fE},p)
def drop (st:ak)(row:Int):ak:=
 let i:=row.toNat
 let n:=st.aV.getD i 0-1
 {st with aV:=st.aV.set i n,dq:=if n=0 then st.dq.set i 0 else st.dq,ep:=if n=0 then st.ep.set i [] else st.ep}
def free (st:ak)(p:iL):ak:=
 if aC p then st else if p.de<=st.ot then {st with eg:=st.eg++[p]} else if p.de<st.fE then {st with cG:=st.cG++[p]} else drop st p.row
def next (st:ak):ak:={(st.cG.foldl (λst p=>drop st p.row) st) with cG:=[],fE:=st.fE+1}
structure bX where
 cC:iL
 depth:Int
 many:Int
deriving DecidableEq,Repr,Inhabited
def eX:bX:=⟨bq,0,0⟩
def cH (many:Int):Int:=if many<=1 then 0 else if many<=4 then 1 else 2
def cY (n:Nat):cV:=List.replicate n bq
def below (st:ak)(p:iL)(level:Int):Option (cV):=
 if aC p then some (cY 4) else
 if !bw p||decide (p.level≠level)||decide (st.fE<p.de) then none else
 match jP st p with
 |none=>none
 |some s=>match j9 s with
  |none=>none
  |some l=>if l.any (λq=>decide (p.de<q.de)) then none else some l
def down (st:ak)(level:Int)(l:cV):Option (cV):=(l.mapM λp=>below st p level).map List.flatten
def gN (st:ak)(t:bX):Option (cV):=go t.depth.toNat [t.cC]
where go:Nat->cV->Option (cV)
 |0,l=>some l
 |n+1,l=>match down st (n+1:Nat) l with
  |none=>none
  |some l=>go n l
def kI (st:ak)(many:Int)(i:Nat)(p:iL):Bool:=aC p||((jP st p).isSome&&decide (p.level=0)&&decide (p.de<=st.fE)&&decide ((i:Int)<many))
def kj (f:Nat->iL->Bool):Nat->cV->Bool
 |_,[]=>true
 |i,p::l=>f i p&&kj f (i+1) l
def fg (st:ak)(t:bX):Bool:=
 fR t.many 0 16&&decide (t.depth=cH t.many)&&bw t.cC&&match gN st t with
  |none=>false
  |some l=>kj (kI st t.many) 0 l
def wide (st:ak)(t:bX):cV:=
 let l:=(gN st t).getD []
 l++cY (16-l.length)
def bh (st:ak)(p:iL):ay:=(jP st p).getD []
def RI (st:ak)(t:bX)(k:Nat):ay:=bh st ((wide st t).getD k bq)
def hU (st:ak)(t:bX):List ay:=((wide st t).take t.many.toNat).map (bh st)
def fH (st:ak)(t:bX):cV:=
 if t.depth=0\/aC t.cC then [] else
 t.cC::if t.depth=2 then((below st t.cC 2).getD []).filter (λp=>!aC p) else []
def NB (st:ak)(l:cV)(level:Int)(old:iL):Option (ak×iL):=
 if l.all aC then some (st,bq) else
 let s:=(j8 l).getD []
 if !aC old&&fits old s&&decide (rwAt st old=s) then some (st,old) else aZ st s level
def iE (st:ak)(t:bX)(depth level:Int):cV:=
 if t.depth≠depth then cY 4 else if level=depth then [t.cC] else(below st t.cC depth).getD (cY 4)
def eY (l:cV):cV:=l++cY ((4-l.length% 4)% 4)
def ka (level:Int):cV->cV->ak->cV->cV->ak×Option (cV×cV)
 |a::b::c::d::l,was,st,stays,out=>match NB st [a,b,c,d] level (was.headD bq) with
  |none=>(st,none)
  |some (st,p)=>ka level l was.tail st (if p=was.headD bq then stays++[p] else stays) (out++[p])
 |_,_,st,stays,out=>(st,some (stays,out))
def ib (t:bX)(depth:Int):Nat->Int->cV->ak->cV->ak×Option (cV×cV)
 |0,_,l,st,stays=>(st,some (stays,l))
 |n+1,level,l,st,stays=>match ka level (eY l) (iE st t depth level) st stays [] with
  |(st,none)=>(st,none)
  |(st,some (stays,l))=>ib t depth n (level+1) l st stays
def dB (l:cV)(st:ak):ak:=l.foldl free st
def gT (st:ak)(t:bX)(lv:cV)(many:Int):ak×Option bX:=
 let depth:=cH many
 let old:=fH st t
 match ib t depth depth.toNat 1 (lv.take many.toNat) st [] with
 |(st,none)=>(st,none)
 |(st,some (stays,l))=>(dB (old.filter λp=>!(stays.contains p)) st,some ⟨l.headD bq,depth,many⟩)
def Io (st:ak)(s:ay):Option (ak×iL):=if s=[] then some (st,bq) else aZ st s 0
def nj (st:ak)(t:bX)(k:Nat)(s:ay):ak×bX×Bool:=
 let lv:=wide st t
 let old:=lv.getD k bq
 let was:=bh st old
 let many:=max t.many (k+1)
 if was=s/\many=t.many then(st,t,true) else
 match(if was=s then some (st,old) else Io st s) with
 |none=>(st,t,false)
 |some (st1,p)=>match gT st1 t (lv.set k p) many with
  |(eI,none)=>(eI,eX,false)
  |(eI,some t2)=>(if p=old then eI else free eI old,t2,true)
def sU (st:ak)(t:bX)(many:Int):ak×bX×Bool:=
 if many=t.many then(st,t,true) else
 let lv:=wide st t
 match gT st t lv many with
 |(eI,none)=>(eI,t,false)
 |(eI,some t2)=>(dB (lv.drop many.toNat) eI,t2,true)
def pP:Nat->ak->cV->cV->Option (cV)
 |0,_,_,_=>none
 |_+1,_,[],out=>some out
 |f+1,st,p::l,out=>if aC p then pP f st l out else
  pP f st (if 0<p.level then(below st p p.level).getD []++l else l) (out++[p])
structure Nde where
 kind:Int
 bE:Int
 size:Int
 aN:bX
deriving DecidableEq,Repr,Inhabited
def bu:Nde:=⟨0,0,0,eX⟩
def dr (size each:Int):Int:=(size+each-1)/ each
def fh (kind:Int):Int:=if kind=1 then 12 else if kind=2 then 128 else 0
def fj (kind size:Int):Int:=if fh kind=0||!fR size 0 (16*fh kind) then -1 else dr size (fh kind)
def ew (n:Nde):Bool:=
 let many:=fj n.kind n.size
 !(decide (many<0)||decide (n.aN.many≠many)||decide (n.aN.depth≠cH many)||!bw n.aN.cC)&&
   (fR n.bE 1 (if n.kind=2 then 1 else 9)&&(aC n.aN.cC||decide (n.aN.cC.level=n.aN.depth)))
def jQ (n:Nde):List ay:=[dec n.kind,dec n.bE,dec n.size,eH n.aN.cC,dec n.aN.depth,dec n.aN.many,[101,110,100]]
def gf (n:Nde):ay:=if !ew n then [] else(iW (jQ n)).getD []
def qu (s:ay):Int:=((iu s).getD 0:Nat)
def eO (s:ay):Option Nde:=match eR s with
 |some [a,b,c,d,e,f,_]=>
  let n:Nde:=⟨qu a,qu b,qu c,(iX d).getD bq,qu e,qu f⟩
  if !ew n||decide (gf n≠s) then none else some n
 |_=>none
def nk (s:ay):ay:=(s.reverse.dropWhile (·=0)).reverse
def hZ (n:Int):ay:=List.replicate n.toNat 0
def nY (st:ak)(t:bX):Bool:=fg st t&&(hU st t).all λs=>decide (s=[])||match eO s with
 |none=>false
 |some n=>fg st n.aN
def iY (st:ak)(t:bX)(k:Int):Option Nde:=if !fR k 0 (t.many-1) then none else eO (RI st t k.toNat)
def pc (st:ak)(t:bX)(k:Nat)(n:Nde):ak×bX×Bool:=nj st t k (gf n)
def lV (AE:Int):Nat->Nat->List ay->Nat
 |_,n,[]=>n
 |k,n,s::l=>lV AE (k+1) (if decide ((k:Int)≠AE)&&decide (s≠[]) then k+1 else n) l
def qO (st:ak)(t:bX)(AE:Int):Nat:=lV AE 0 0 (hU st t)
def uq (st:ak)(t:bX):Option Nat:=nu (λk=>decide ((hU st t).getD k []=[])) 16 0
def wJ (st:ak)(t:bX):cV:=(pP 200 st [t.cC] []).getD []
def dX (st:ak)(t:bX)(k:Int):ak×bX×Bool:=
 let n:=(iY st t k).getD bu
 let many:=qO st t k
 match nj (dB (wJ st n.aN) st) t k.toNat [] with
 |(st,t,false)=>(st,t,false)
 |(st,t,true)=>sU st t many
structure aT where
 name:ay
 id:Int
deriving DecidableEq,Repr,Inhabited
def bT (s:ay):Bool:=s.all (λc=>decide (97<=c.toNat)&&decide (c.toNat<=122))&&decide (1<=s.length)&&decide (s.length<=4)
def bK:ay->ay->Bool
 |[],[]=>false
 |[],_::_=>true
 |_::_,[]=>false
 |a::s,b::t=>if a.toNat<b.toNat then true else if b.toNat<a.toNat then false else bK s t
def mr:List aT->Bool
 |a::b::l=>bK a.name b.name&&mr (b::l)
 |_=>true
def bz (l:List aT):Bool:=l.all (λe=>bT e.name&&fR e.id 1 15)&&mr l&&decide (l.length<=12)
def a8 (l:List aT):ay:=(l.map λe=>e.name++61::(dec e.id++[59])).flatten
def lM (s:ay):Option aT:=match cut 61 s with
 |[a,b]=>some ⟨a,qu b⟩
 |_=>none
def iw (s:ay):Option (List aT):=match(cut 59 s).dropLast.mapM lM with
 |none=>none
 |some l=>if !bz l||decide (a8 l≠s) then none else some l
def ey (l:List aT)(name:ay):Option Nat:=l.findIdx? λe=>decide (e.name=name)
def gu (l:List aT)(e:aT):List aT:=match l with
 |[]=>[e]
 |x::l=>if bK e.name x.name then e::x::l else x::gu l e
def er (l:List aT)(i:Nat):List aT:=l.take i++l.drop (i+1)
def dv:Nat->ay->List ay
 |0,_=>[]
 |f+1,s=>if 128<s.length then s.take 128::dv f (s.drop 128) else if s=[] then [] else [s]
def kZ:List ay->Nat->ak->bX->ak×bX×Bool
 |[],_,st,t=>(st,t,true)
 |s::l,i,st,t=>match nj st t i s with
  |(st,t,true)=>kZ l (i+1) st t
  |(cQ,_,false)=>(cQ,t,false)
def km (st:ak)(t:bX)(s:ay):ak×bX×Bool:=
 let l:=dv (s.length+1) s
 if 16<l.length then(st,t,false) else match kZ l 0 st t with
  |(st,t,false)=>(st,t,false)
  |(st,t,true)=>sU st t l.length
def oP (many:Int):Nat->List ay->ay->Option ay
 |_,[],out=>some out
 |k,s::l,out=>if decide (s=[])||(decide ((k:Int)+1<many)&&decide (s.length≠128)) then none else oP many (k+1) l (out++s)
def nZ (st:ak)(t:bX):Option ay:=oP t.many 0 (hU st t) []
def bJ (st:ak)(n:Nde):Option (List aT):=
 if !ew n||decide (n.kind≠2)||!fg st n.aN then none else match nZ st n.aN with
  |none=>none
  |some s=>if(s.length:Int)≠n.size then none else iw s
def gi (size:Int)(k:Nat):Int:=min 12 (size-k*12)
def kJ (st:ak)(n:Nde):Bool:=ew n&&decide (n.kind=1)&&fg st n.aN&&go 0 (hU st n.aN)
where go:Nat->List ay->Bool
 |_,[]=>true
 |k,s::l=>decide ((s.length:Int)<=gi n.size k)&&decide (nk s=s)&&go (k+1) l
def pQ (size:Int):Nat->List ay->ay->ay
 |_,[],out=>out
 |k,s::l,out=>pQ size (k+1) l (out++s++hZ (gi size k-s.length))
def bA (st:ak)(n:Nde):ay:=pQ n.size 0 (hU st n.aN) []
def jZ (s:ay):Nat->Nat->ak->Nde->ak×Nde×Bool
 |0,_,st,n=>(st,n,true)
 |m+1,k,st,n=>match nj st n.aN k (nk ((s.take (min s.length ((k+1)*12))).drop (k*12))) with
  |(st,t,true)=>jZ s m (k+1) st {n with aN:=t}
  |(cQ,_,false)=>(cQ,n,false)
def gz (st:ak)(n:Nde)(s:ay)(a b:Nat):ak×Nde×Bool:=jZ s (b+1-a) a st {n with size:=s.length}
def gg (all:ay)(at_:Nat)(s:ay):ay:=
 let all:=all++hZ ((at_:Int)-all.length)
 all.take at_++s++all.drop (min all.length (at_+s.length))
def fB (st:ak)(n:Nde)(at_:Nat)(s:ay):ak×Nde×Bool:=
 if s=[] then(st,n,true) else gz st n (gg (bA st n) at_ s) (at_/ 12) ((at_+s.length-1)/ 12)
def fk (st:ak)(n:Nde)(size:Nat):ak×Nde×Bool:=
 let all:=bA st n
 let many:=dr size 12
 if n.size<=size then
  let n:={n with size:=(size:Int)}
  if many=n.aN.many then(st,n,true) else match nj st n.aN (many-1).toNat [] with
   |(st,t,ok)=>(st,{n with aN:=t},ok)
 else match sU st n.aN many with
  |(cQ,_,false)=>(cQ,n,false)
  |(st,t,true)=>
   let n:={n with aN:=t,size:=(size:Int)}
   if many=0 then(st,n,true) else gz st n (all.take size) (many-1).toNat (many-1).toNat
def aB (s:ay):List ay:=if s=[47] then [] else(cut 47 s).tail
def bf (s:ay):Bool:=if s=[47] then true else if s=[]||decide (s.headD 0≠47) then false else(aB s).all bT&&decide ((aB s).length<=4)
def pathOf (l:List ay):ay:=if l=[] then [47] else(l.map λs=>47::s).flatten
def under (s top:ay):Bool:=bf s&&bf top&&decide ((aB top).length<=(aB s).length)&&decide (pathOf ((aB s).take (aB top).length)=pathOf (aB top))
structure Op where
 kind:Int
 ag:ay
 to:ay
 at_:Int
 bh:ay
deriving DecidableEq,Repr,Inhabited
def iJ (o:Op):Bool:=
 let two:=decide (o.kind=6)||decide (o.kind=7)
 let at2:=decide (o.kind=3)||decide (o.kind=4)
 if !fR o.kind 1 7||!bf o.ag||(two&&!bf o.to)||(!two&&decide (o.to≠[])) then false
 else if(decide (o.kind≠3)&&decide (o.bh≠[]))||decide (24<o.bh.length) then false
 else decide (o.at_=0)||(at2&&fR o.at_ 0 192)
structure Fs where
 st:ak
 t:bX
 cK:Bool
deriving Repr,Inhabited
def ou (E:Int->Option (List aT)):List ay->Int->Int
 |[],at_=>at_
 |s::l,at_=>match E at_ with
  |none=>-1
  |some es=>match ey es s with
   |none=>-1
   |some k=>ou E l (es.getD k ⟨[],0⟩).id
namespace Fs
def node (f:Fs)(id:Int):Nde:=(iY f.st f.t id).getD bu
def bF (f:Fs)(id:Int):List aT:=(bJ f.st (f.node id)).getD []
def put (f:Fs)(id:Int)(n:Nde):Fs:=if f.cK then f else match pc f.st f.t id.toNat n with
 |(st,t,ok)=>⟨st,t,!ok⟩
def aZ (f:Fs)(id:Int)(l:List aT):Fs:=if f.cK then f else
 let n:=f.node id
 let s:=a8 l
 match km f.st n.aN s with
 |(st,t,ok)=>Fs.put ⟨st,f.t,!ok⟩ id {n with aN:=t,size:=s.length}
def Gm (f:Fs)(l:List ay)(at_:Int):Int:=ou (λi=>bJ f.st (f.node i)) l at_
def bL (f:Fs)(ag:ay):Int×Int:=
 let ad:=aB ag
 if ad=[] then(0,3) else
 let at_:=f.Gm ad.dropLast 0
 if at_<0 then(0,2) else if(f.node at_).kind≠2 then(0,4) else(at_,0)
def cZ (f:Fs)(ag:ay):Int:=f.Gm (aB ag) 0
def bD (f:Fs)(ag:ay):Int×Int:=
 let r:=f.bL ag
 if 0<r.2 then(0,r.2) else if 0<=f.cZ ag then(0,3) else(r.1,0)
def base (ag:ay):ay:=(aB ag).getLastD []
def make (f:Fs)(ag:ay)(kind:Int):Fs×Int:=
 let r:=f.bD ag
 if 0<r.2 then(f,r.2) else
 let l:=f.bF r.1
 match uq f.st f.t with
 |none=>(f,6)
 |some id=>if 12<=l.length then(f,6) else((f.put id ⟨kind,1,0,eX⟩).aZ r.1 (gu l ⟨base ag,id⟩),0)
def change(f:Fs)(o:Op):Fs×Int:=
 let id:=f.cZ o.ag
 if id<0 then(f,2) else
 let n:=f.node id
 if n.kind≠1 then(f,4) else if 192<o.at_+o.bh.length then(f,6) else
 match(if o.kind=3 then fB f.st n o.at_.toNat o.bh else fk f.st n o.at_.toNat) with
 |(st,n,ok)=>(Fs.put ⟨st,f.t,!ok⟩ id n,0)
def pR (f:Fs)(ag:ay):Fs×Int:=
 let id:=f.cZ ag
 if id<0 then(f,2) else
 let n:=f.node id
 if id=0\/(n.kind=2/\0<n.size) then(f,5) else
 let at_:=(f.bL ag).1
 let l:=f.bF at_
 let f:=f.aZ at_ (er l ((ey l (base ag)).getD 0))
 let n:={n with bE:=n.bE-1}
 if 0<n.bE then(f.put id n,0) else if f.cK then(f,0) else match dX f.st f.t id with
  |(st,t,ok)=>(⟨st,t,!ok⟩,0)
def link (f:Fs)(ag to:ay):Fs×Int:=
 let id:=f.cZ ag
 if id<0 then(f,2) else
 let n:=f.node id
 if n.kind≠1 then(f,4) else
 let r:=f.bD to
 if 0<r.2 then(f,r.2) else
 let l:=f.bF r.1
 if 9<=n.bE\/12<=l.length then(f,6) else
 ((f.put id {n with bE:=n.bE+1}).aZ r.1 (gu l ⟨base to,id⟩),0)
def move (f:Fs)(ag to:ay):Fs×Int:=
 let id:=f.cZ ag
 if id<0 then(f,2) else if id=0 then(f,5) else if 0<=f.cZ to then(f,3) else if under to ag then(f,5) else
 let r:=f.bL to
 if 0<r.2 then(f,r.2) else
 let from_:=(f.bL ag).1
 if r.1≠from_/\12<=(f.bF r.1).length then(f,6) else
 let old:=f.bF from_
 let old:=er old ((ey old (base ag)).getD 0)
 let e:aT:=⟨base to,id⟩
 if r.1=from_ then(f.aZ r.1 (gu old e),0) else
 let f:=f.aZ from_ old
 (f.aZ r.1 (gu (f.bF r.1) e),0)
end Fs
def eS (st:ak)(t:bX)(o:Op):ak×bX×Int:=
 let f:Fs:=⟨st,t,false⟩
 let r:=if o.kind=1 then f.make o.ag 1 else if o.kind=2 then f.make o.ag 2 else if o.kind=5 then f.pR o.ag else
  if o.kind=6 then f.link o.ag o.to else if o.kind=7 then f.move o.ag o.to else f.change o
 let code:=if r.2=0/\r.1.cK then 7 else r.2
 if code≠0 then(st,t,code) else(r.1.st,r.1.t,code)
structure Fnd where
 ag:ay
 id:Int
deriving DecidableEq,Repr,Inhabited
abbrev dx:=List Fnd
def fm (st:ak)(t:bX):List Nde:=(hU st t).map λs=>(eO s).getD bu
def dS (ag name:ay):ay:=if ag=[47] then 47::name else ag++47::name
def iZ (n:Nat)(kind:Nat->Int)(E:Nat->Option (List aT)):Nat->Fnd->dx->dx×Bool
 |0,_,out=>(out,false)
 |f+1,x,out=>
  let out:=out++[x]
  if 144<out.length||!fR x.id 0 (n-1)||decide (kind x.id.toNat=0) then(out,false) else
  if kind x.id.toNat=1 then(out,true) else
  match E x.id.toNat with
  |none=>(out,false)
  |some l=>l.foldl (λr e=>if r.2 then iZ n kind E f ⟨dS x.ag e.name,e.id⟩ r.1 else r) (out,true)
def walk (st:ak)(ns:List Nde):Nat->Fnd->dx->dx×Bool:=iZ ns.length (λi=>(ns.getD i bu).kind) (λi=>bJ st (ns.getD i bu))
def k9 (out:dx)(k:Nat):Int:=((out.filter λx=>decide (x.id=(k:Int))).length:Nat)
def lb (st:ak)(out:dx):Nat->List Nde->Bool
 |_,[]=>true
 |k,n::l=>!((decide (n.kind≠0)&&decide (k9 out k≠n.bE))||(decide (n.kind=1)&&!kJ st n))&&lb st out (k+1) l
def lI (st:ak)(t:bX):Option (dx):=
 if !nY st t then none else
 let ns:=fm st t
 if ns=[]\/(ns.headD bu).kind≠2 then none else match walk st ns 146 ⟨[47],0⟩ [] with
 |(_,false)=>none
 |(out,true)=>if lb st out 0 ns then some out else none
structure bU where
 id:Int
 aM:Bool
 bh:ay
deriving DecidableEq,Repr,Inhabited
abbrev eV:=List bU
structure Flat where
 ad:dx
 ae:eV
deriving DecidableEq,Repr,Inhabited
def gJ (st:ak):Nat->List Nde->eV
 |_,[]=>[]
 |k,n::l=>(if n.kind=2 then [⟨k,true,[]⟩] else if n.kind=1 then [⟨k,false,bA st n⟩] else [])++gJ st (k+1) l
def Ip (st:ak)(t:bX):Option Flat:=match lI st t with
 |none=>none
 |some all=>some ⟨all,gJ st 0 (fm st t)⟩
structure Rdr where
 b:ay
 p:Nat
def pickN (b:ay)(k n:Nat):Nat:=
 if n<1\/b.length=0 then 0 else
 if k<b.length then(b.getD k 0).toNat% n else
 let x:=(b.getD (k% b.length) 0).toNat*131+(b.getD ((k*7+3)% b.length) 0).toNat*1117+k*29+k/ b.length*53
 (x^^^ (x/ 64))% n
abbrev Dr:=StateM Rdr
def pick (n:Nat):Dr Nat:=λr=>(pickN r.b r.p n,{r with p:=r.p+1})
def str (s:String):ay:=s.toUTF8.data.toList
def first:List Op:=[⟨2,str "/a",[],0,[]⟩,⟨1,str "/b",[],0,[]⟩,⟨1,str "/a/b",[],0,[]⟩,⟨3,str "/b",[],0,str "hello hello hello"⟩,⟨2,str "/a/c",[],0,[]⟩,⟨3,str "/a/b",[],30,str "hello hello hello"⟩]
def mM (same:Bool):ak×bX:=let r:=pc (bQ same) eX 0 ⟨2,1,0,eX⟩;(r.1,r.2.1)
def sV:Nat->Nat->ay->Nat
 |_,at_,[]=>at_
 |i,at_,c::s=>sV (i+1) (if c=47 then i else at_) s
def sW (s:ay):Nat:=sV 0 0 s
def aK (s:ay):ay×ay:=if sW s=0 then([47],s.drop (min 1 s.length)) else(s.take (sW s),s.drop (sW s+1))
namespace Flat
def dt (f:Flat)(p:ay):Option Nat:=f.ad.findIdx? λx=>decide (x.ag=p)
def cD (f:Flat)(id:Int):Option Nat:=f.ae.findIdx? λx=>decide (x.id=id)
def many (f:Flat)(id:Int):Nat:=f.ad.countP λx=>decide (x.id=id)
def nw (f:Flat)(p:ay):Nat:=f.ad.tail.countP λx=>decide ((aK x.ag).1=p)
def gX (f:Flat)(id:Int):Bool:=match f.cD id with
 |none=>false
 |some k=>(f.ae.getD k ⟨0,false,[]⟩).aM
def sX (f:Flat)(i:Nat):Bool:=
 let x:=f.ae.getD i ⟨0,false,[]⟩
 !(!fR x.id 0 15||(decide (0<i)&&decide (x.id<=(f.ae.getD (i-1) ⟨0,false,[]⟩).id))||(x.aM&&decide (x.bh≠[]))||decide (192<x.bh.length)||!fR (f.many x.id) 1 (if x.aM then 1 else 9))
def kn (f:Flat):Bool:=
 let x:=f.ae.getD 0 ⟨0,false,[]⟩
 fR f.ae.length 1 16&&decide (x.id=0)&&x.aM&&(List.range f.ae.length).all f.sX
def ur (f:Flat)(i:Nat):Bool:=
 let x:=f.ad.getD i ⟨[],0⟩
 let r:=aK x.ag
 let ag:=if r.1=[47] then 47::r.2 else r.1++47::r.2
 match f.dt r.1 with
 |none=>false
 |some k=>bK (f.ad.getD (i-1) ⟨[],0⟩).ag x.ag&&decide (k<i)&&decide (ag=x.ag)&&bT r.2&&(f.cD x.id).isSome&&f.gX (f.ad.getD k ⟨[],0⟩).id&&decide (f.nw x.ag<=12)
def ok (f:Flat):Bool:=f.kn&&decide (f.ad≠[])&&decide (f.ad.getD 0 ⟨[],0⟩=⟨[47],0⟩)&&(List.range f.ad.length).all (λi=>decide (i=0)||f.ur i)&&decide (f.nw [47]<=12)
def cZ (f:Flat)(p:ay):Int×Bool:=match f.dt p with
 |none=>(0,false)
 |some k=>if f.ok then((f.ad.getD k ⟨[],0⟩).id,true) else(0,false)
def fV:dx->Fnd->dx
 |[],e=>[e]
 |x::l,e=>if bK e.ag x.ag then e::x::l else x::fV l e
def add (f:Flat)(p:ay)(id:Int):Flat:=⟨fV f.ad ⟨p,id⟩,f.ae⟩
def less (f:Flat)(p:ay):Flat:=⟨f.ad.filter λx=>decide (x.ag≠p),f.ae⟩
def bD (f:Flat)(p:ay):Int:=match f.dt (aK p).1 with
 |none=>if p=[47] then 3 else 2
 |some k=>if p=[47] then 3 else if !f.gX (f.ad.getD k ⟨[],0⟩).id then 4 else if(f.dt p).isSome then 3 else 0
def yb (f:Flat):Nat->Nat->Nat
 |0,id=>id
 |n+1,id=>if(f.cD id).isSome then yb f n (id+1) else id
def bI (f:Flat):Nat:=f.yb (f.ae.length+1) 0
def nL:eV->bU->eV
 |[],e=>[e]
 |x::l,e=>if x.id<e.id then x::nL l e else e::x::l
def make (f:Flat)(p:ay)(aM:Bool):Flat×Int:=
 if 0<f.bD p then(f,f.bD p) else
 let id:=f.bI
 if 16<=id\/12<=f.nw (aK p).1 then(f,6) else
 (Flat.add ⟨f.ad,nL f.ae ⟨id,aM,[]⟩⟩ p id,0)
def yc (f:Flat)(k:Nat)(s:ay):Flat:=⟨f.ad,f.ae.set k {f.ae.getD k ⟨0,false,[]⟩ with bh:=s}⟩
def change(f:Flat)(o:Op):Flat×Int:=match f.dt o.ag with
 |none=>(f,2)
 |some k=>match f.cD (f.ad.getD k ⟨[],0⟩).id with
  |none=>(f,0)
  |some x=>
   let t:=f.ae.getD x ⟨0,false,[]⟩
   if t.aM then(f,4) else if 192<o.at_+o.bh.length then(f,6) else
   if o.kind=4 then(f.yc x ((t.bh++hZ (o.at_-t.bh.length)).take o.at_.toNat),0) else
   if o.bh≠[] then(f.yc x (gg t.bh o.at_.toNat o.bh),0) else(f,0)
def dX (f:Flat)(p:ay):Flat×Int:=match f.dt p with
 |none=>(f,2)
 |some k=>
  let id:=(f.ad.getD k ⟨[],0⟩).id
  if p=[47]\/0<f.nw p then(f,5) else
  let g:=f.less p
  if g.many id=0 then match g.cD id with
   |none=>(g,0)
   |some x=>(⟨g.ad,g.ae.take x++g.ae.drop (x+1)⟩,0)
  else(g,0)
def link (f:Flat)(p to:ay):Flat×Int:=match f.dt p with
 |none=>(f,2)
 |some k=>
  let id:=(f.ad.getD k ⟨[],0⟩).id
  if f.gX id then(f,4) else if 0<f.bD to then(f,f.bD to) else
  if 9<=f.many id\/12<=f.nw (aK to).1 then(f,6) else(f.add to id,0)
def eJ (p to x:ay):ay:=if x=p\/(p.length<x.length/\x.take (p.length+1)=p++[47]) then to++x.drop p.length else x
def move (f:Flat)(p to:ay):Flat×Int:=match f.dt p with
 |none=>(f,2)
 |some _=>if p=[47] then(f,5) else if(f.dt to).isSome then(f,3) else if under to p then(f,5) else
  if 0<f.bD to then(f,f.bD to) else
  if(aK to).1≠(aK p).1/\12<=f.nw (aK to).1 then(f,6) else
  (⟨f.ad.foldl (λl x=>fV l ⟨eJ p to x.ag,x.id⟩) [],f.ae⟩,0)
def eS (f:Flat)(o:Op):Flat×Int:=
 if o.kind=1\/o.kind=2 then f.make o.ag (decide (o.kind=2)) else if o.kind=5 then f.dX o.ag else
 if o.kind=6 then f.link o.ag o.to else if o.kind=7 then f.move o.ag o.to else f.change o
def run (f:Flat)(o:Op):Flat×Int:=if !f.ok then(⟨[],[]⟩,1) else if !iJ o then(f,1) else f.eS o
end Flat
end Go.Pl
namespace Go.Ev
open Go Go.Pl
def yd (x:Pl.Fnd):List Pl.Fnd->List Pl.Fnd
 |[]=>[x]
 |y::l=>if bK x.ag y.ag then x::y::l else y::yd x l
def iF (l:List Pl.Fnd):List Pl.Fnd:=l.foldr yd []
def ye (x:Pl.bU):List Pl.bU->List Pl.bU
 |[]=>[x]
 |y::l=>if x.id<y.id then x::y::l else y::ye x l
def ja (l:List Pl.bU):List Pl.bU:=l.foldr ye []
def pS (x:Pl.Fnd):aQ:=[.string ⟨⟨x.ag⟩⟩,.int .i64 x.id]
def pT (x:Pl.bU):aQ:=[.int .i64 x.id,.bool x.aM,.string ⟨⟨x.bh⟩⟩]
def RJ:aQ->Option (List Pl.Fnd)
 |[]=>some []
 |.string ⟨⟨z⟩⟩:: .int .i64 i::l=>(RJ l).map (⟨z,i⟩::·)
 |_=>none
def RL:aQ->Option (List Pl.bU)
 |[]=>some []
 |.int .i64 i:: .bool b:: .string ⟨⟨z⟩⟩::l=>(RL l).map (⟨i,b,z⟩::·)
 |_=>none
noncomputable section
def Ko {α:Type}(g k:Nat)(dec:aQ->Option (List α))(cells:α->aQ)(sort:List α->List α)(apart:List α->Bool):wB:=λargs s=>match args with
 |[.slice (some ⟨b,o,none⟩) n _,.func (.func g') ⟨[]⟩ ⟨[]⟩]=>eb (Nat.beq g g'&&Nat.ble 1 n&&Nat.ble n 1000000)<| s.row b λc e w s=>eb (Nat.ble (o+n*k) c.length)<| ob (dec ((c.drop o).take (n*k))) λl=>
    eb (apart l&&Nat.beq l.length n)<| aG (.tuple ⟨[]⟩) (s.put b (some (.cells (c.take o++(sort l).flatMap cells++c.drop (o+n*k)) e w)))
 |_=>none
def wK (l:List Pl.Fnd):Bool:=decide (l.map (·.ag)).Nodup
def wL (l:List Pl.bU):Bool:=decide (l.map (·.id)).Nodup
def Vc (g:Nat):wB:=Ko g 2 RJ pS iF wK
def Vd (g:Nat):wB:=Ko g 3 RL pT ja wL
def zL (a b:Pl.ay):Int:=if bK a b then -1 else if bK b a then 1 else 0
def CF:wB:=λargs s=>match args with
 |[.string ⟨⟨a⟩⟩,.string ⟨⟨b⟩⟩]=>aG (.int .i64 (zL a b)) s
 |_=>none
def yf (z:Pl.ay):Nat->Pl.ay
 |0=>[]
 |n+1=>z++yf z n
def Iq:wB:=λargs s=>match args with
 |[.string ⟨⟨z⟩⟩,.int .i64 (.ofNat n)]=>eb (Nat.ble (z.length*n) 1000000&&Nat.ble n 1000000)<| aG (.string ⟨⟨yf z n⟩⟩) s
 |_=>none
def Ir:wB:=λargs s=>match args with
 |[.string ⟨⟨z⟩⟩,.int .u8 (.ofNat c)]=>eb (Nat.ble (Nat.succ c) 256)<| aG (.int .i64 (.ofNat (eh (z.filter λb=>Nat.beq b.toNat c)))) s
 |_=>none
def fp:List Pl.ay:=[[],[97],[47,47],[47,97,47],[47,65],[47,97,47,98,47,99,47,97,47,98],[47,97,98,99,100,101],[47,97,47,47,98],[47,97],[47,98],[47,97,47,98],[47,97,47,99],[47,98,47,97],[47,99],[47,97,47,98,47,99],[47,99,47,97],[47,97,98],[47]]
def c8 (z:Pl.ay):Pl.ay:=if bf z=true/\z≠[47] then(aK z).1 else []
def Is:wB:=λargs s=>match args with
 |[.string ⟨⟨z⟩⟩]=>eb (decide (z∈fp)) (aG (.bool (bf z)) s)
 |_=>none
def uu:wB:=λargs s=>match args with
 |[.string ⟨⟨z⟩⟩]=>eb (decide (z∈fp)) (aG (.string ⟨⟨c8 z⟩⟩) s)
 |_=>none
def wM:wB:=λargs s=>match args with
 |[.string ⟨⟨z⟩⟩,.string ⟨⟨t⟩⟩]=>eb (decide (z∈fp/\t∈fp/\bf z=true/\bf t=true)) (aG (.bool (under z t)) s)
 |_=>none
end
end Go.Ev
namespace Go.Proofs
open Go Go.Ev
noncomputable def fnT:T Func:=(T.node none (T.node none (T.node (some f3) (T.node (some f7) (T.node (some f15) (T.node (some f31) (T.node (some f63) (T.node (some f127) (T.node (some f255) T.nil T.nil) T.nil) (T.node (some f191) T.nil T.nil)) (T.node (some f95) (T.node (some f159) T.nil T.nil) (T.node (some f223) T.nil T.nil))) (T.node (some f47) (T.node (some f79) (T.node (some f143) (T.node (some f271) T.nil T.nil) T.nil) (T.node (some f207) T.nil T.nil)) (T.node (some f111) (T.node (some f175) T.nil T.nil) (T.node (some f239) T.nil T.nil)))) (T.node (some f23) (T.node (some f39) (T.node (some f71) (T.node (some f135) (T.node (some f263) T.nil T.nil) T.nil) (T.node (some f199) T.nil T.nil)) (T.node (some f103) (T.node (some f167) T.nil T.nil) (T.node (some f231) T.nil T.nil))) (T.node (some f55) (T.node (some f87) (T.node (some f151) (T.node (some f279) T.nil T.nil) T.nil) (T.node (some f215) T.nil T.nil)) (T.node (some f119) (T.node (some f183) T.nil T.nil) (T.node (some f247) T.nil T.nil))))) (T.node (some f11) (T.node (some f19) (T.node (some f35) (T.node (some f67) (T.node (some f131) (T.node (some f259) T.nil T.nil) T.nil) (T.node (some f195) T.nil T.nil)) (T.node (some f99) (T.node (some f163) T.nil T.nil) (T.node (some f227) T.nil T.nil))) (T.node (some f51) (T.node (some f83) (T.node (some f147) (T.node (some f275) T.nil T.nil) T.nil) (T.node (some f211) T.nil T.nil)) (T.node (some f115) (T.node (some f179) T.nil T.nil) (T.node (some f243) T.nil T.nil)))) (T.node (some f27) (T.node (some f43) (T.node (some f75) (T.node (some f139) (T.node (some f267) T.nil T.nil) T.nil) (T.node (some f203) T.nil T.nil)) (T.node (some f107) (T.node (some f171) T.nil T.nil) (T.node (some f235) T.nil T.nil))) (T.node (some f59) (T.node (some f91) (T.node (some f155) (T.node (some f283) T.nil T.nil) T.nil) (T.node (some f219) T.nil T.nil)) (T.node (some f123) (T.node (some f187) T.nil T.nil) (T.node (some f251) T.nil T.nil)))))) (T.node (some f5) (T.node (some f9) (T.node (some f17) (T.node (some f33) (T.node (some f65) (T.node (some f129) (T.node (some f257) T.nil T.nil) T.nil) (T.node (some f193) T.nil T.nil)) (T.node (some f97) (T.node (some f161) T.nil T.nil) (T.node (some f225) T.nil T.nil))) (T.node (some f49) (T.node (some f81) (T.node (some f145) (T.node (some f273) T.nil T.nil) T.nil) (T.node (some f209) T.nil T.nil)) (T.node (some f113) (T.node (some f177) T.nil T.nil) (T.node (some f241) T.nil T.nil)))) (T.node (some f25) (T.node (some f41) (T.node (some f73) (T.node (some f137) (T.node (some f265) T.nil T.nil) T.nil) (T.node (some f201) T.nil T.nil)) (T.node (some f105) (T.node (some f169) T.nil T.nil) (T.node (some f233) T.nil T.nil))) (T.node (some f57) (T.node (some f89) (T.node (some f153) (T.node (some f281) T.nil T.nil) T.nil) (T.node (some f217) T.nil T.nil)) (T.node (some f121) (T.node (some f185) T.nil T.nil) (T.node (some f249) T.nil T.nil))))) (T.node (some f13) (T.node (some f21) (T.node (some f37) (T.node (some f69) (T.node (some f133) (T.node (some f261) T.nil T.nil) T.nil) (T.node (some f197) T.nil T.nil)) (T.node (some f101) (T.node (some f165) T.nil T.nil) (T.node (some f229) T.nil T.nil))) (T.node (some f53) (T.node (some f85) (T.node (some f149) (T.node (some f277) T.nil T.nil) T.nil) (T.node (some f213) T.nil T.nil)) (T.node (some f117) (T.node (some f181) T.nil T.nil) (T.node (some f245) T.nil T.nil)))) (T.node (some f29) (T.node (some f45) (T.node (some f77) (T.node (some f141) (T.node (some f269) T.nil T.nil) T.nil) (T.node (some f205) T.nil T.nil)) (T.node (some f109) (T.node (some f173) T.nil T.nil) (T.node (some f237) T.nil T.nil))) (T.node (some f61) (T.node (some f93) (T.node (some f157) T.nil T.nil) (T.node (some f221) T.nil T.nil)) (T.node (some f125) (T.node (some f189) T.nil T.nil) (T.node (some f253) T.nil T.nil))))))) (T.node none (T.node (some f4) (T.node (some f8) (T.node (some f16) (T.node (some f32) (T.node (some f64) (T.node (some f128) (T.node (some f256) T.nil T.nil) T.nil) (T.node (some f192) T.nil T.nil)) (T.node (some f96) (T.node (some f160) T.nil T.nil) (T.node (some f224) T.nil T.nil))) (T.node (some f48) (T.node (some f80) (T.node (some f144) (T.node (some f272) T.nil T.nil) T.nil) (T.node (some f208) T.nil T.nil)) (T.node (some f112) (T.node (some f176) T.nil T.nil) (T.node (some f240) T.nil T.nil)))) (T.node (some f24) (T.node (some f40) (T.node (some f72) (T.node (some f136) (T.node (some f264) T.nil T.nil) T.nil) (T.node (some f200) T.nil T.nil)) (T.node (some f104) (T.node (some f168) T.nil T.nil) (T.node (some f232) T.nil T.nil))) (T.node (some f56) (T.node (some f88) (T.node (some f152) (T.node (some f280) T.nil T.nil) T.nil) (T.node (some f216) T.nil T.nil)) (T.node (some f120) (T.node (some f184) T.nil T.nil) (T.node (some f248) T.nil T.nil))))) (T.node (some f12) (T.node (some f20) (T.node (some f36) (T.node (some f68) (T.node (some f132) (T.node (some f260) T.nil T.nil) T.nil) (T.node (some f196) T.nil T.nil)) (T.node (some f100) (T.node (some f164) T.nil T.nil) (T.node (some f228) T.nil T.nil))) (T.node (some f52) (T.node (some f84) (T.node (some f148) (T.node (some f276) T.nil T.nil) T.nil) (T.node (some f212) T.nil T.nil)) (T.node (some f116) (T.node (some f180) T.nil T.nil) (T.node (some f244) T.nil T.nil)))) (T.node (some f28) (T.node (some f44) (T.node (some f76) (T.node (some f140) (T.node (some f268) T.nil T.nil) T.nil) (T.node (some f204) T.nil T.nil)) (T.node (some f108) (T.node (some f172) T.nil T.nil) (T.node (some f236) T.nil T.nil))) (T.node (some f60) (T.node (some f92) (T.node (some f156) T.nil T.nil) (T.node (some f220) T.nil T.nil)) (T.node (some f124) (T.node (some f188) T.nil T.nil) (T.node (some f252) T.nil T.nil)))))) (T.node (some f6) (T.node (some f10) (T.node (some f18) (T.node (some f34) (T.node (some f66) (T.node (some f130) (T.node (some f258) T.nil T.nil) T.nil) (T.node (some f194) T.nil T.nil)) (T.node (some f98) (T.node (some f162) T.nil T.nil) (T.node (some f226) T.nil T.nil))) (T.node (some f50) (T.node (some f82) (T.node (some f146) (T.node (some f274) T.nil T.nil) T.nil) (T.node (some f210) T.nil T.nil)) (T.node (some f114) (T.node (some f178) T.nil T.nil) (T.node (some f242) T.nil T.nil)))) (T.node (some f26) (T.node (some f42) (T.node (some f74) (T.node (some f138) (T.node (some f266) T.nil T.nil) T.nil) (T.node (some f202) T.nil T.nil)) (T.node (some f106) (T.node (some f170) T.nil T.nil) (T.node (some f234) T.nil T.nil))) (T.node (some f58) (T.node (some f90) (T.node (some f154) (T.node (some f282) T.nil T.nil) T.nil) (T.node (some f218) T.nil T.nil)) (T.node (some f122) (T.node (some f186) T.nil T.nil) (T.node (some f250) T.nil T.nil))))) (T.node (some f14) (T.node (some f22) (T.node (some f38) (T.node (some f70) (T.node (some f134) (T.node (some f262) T.nil T.nil) T.nil) (T.node (some f198) T.nil T.nil)) (T.node (some f102) (T.node (some f166) T.nil T.nil) (T.node (some f230) T.nil T.nil))) (T.node (some f54) (T.node (some f86) (T.node (some f150) (T.node (some f278) T.nil T.nil) T.nil) (T.node (some f214) T.nil T.nil)) (T.node (some f118) (T.node (some f182) T.nil T.nil) (T.node (some f246) T.nil T.nil)))) (T.node (some f30) (T.node (some f46) (T.node (some f78) (T.node (some f142) (T.node (some f270) T.nil T.nil) T.nil) (T.node (some f206) T.nil T.nil)) (T.node (some f110) (T.node (some f174) T.nil T.nil) (T.node (some f238) T.nil T.nil))) (T.node (some f62) (T.node (some f94) (T.node (some f158) T.nil T.nil) (T.node (some f222) T.nil T.nil)) (T.node (some f126) (T.node (some f190) T.nil T.nil) (T.node (some f254) T.nil T.nil))))))))
noncomputable def tyT:T TypeInfo:=(T.node (some t0) (T.node (some t1) (T.node (some t3) (T.node (some t7) (T.node (some t15) (T.node (some t31) (T.node (some t63) (T.node (some t127) (T.node (some t255) T.nil T.nil) T.nil) (T.node (some t191) T.nil T.nil)) (T.node (some t95) (T.node (some t159) (T.node (some t287) T.nil T.nil) T.nil) (T.node (some t223) T.nil T.nil))) (T.node (some t47) (T.node (some t79) (T.node (some t143) (T.node (some t271) T.nil T.nil) T.nil) (T.node (some t207) T.nil T.nil)) (T.node (some t111) (T.node (some t175) T.nil T.nil) (T.node (some t239) T.nil T.nil)))) (T.node (some t23) (T.node (some t39) (T.node (some t71) (T.node (some t135) (T.node (some t263) T.nil T.nil) T.nil) (T.node (some t199) T.nil T.nil)) (T.node (some t103) (T.node (some t167) (T.node (some t295) T.nil T.nil) T.nil) (T.node (some t231) T.nil T.nil))) (T.node (some t55) (T.node (some t87) (T.node (some t151) (T.node (some t279) T.nil T.nil) T.nil) (T.node (some t215) T.nil T.nil)) (T.node (some t119) (T.node (some t183) T.nil T.nil) (T.node (some t247) T.nil T.nil))))) (T.node (some t11) (T.node (some t19) (T.node (some t35) (T.node (some t67) (T.node (some t131) (T.node (some t259) T.nil T.nil) T.nil) (T.node (some t195) T.nil T.nil)) (T.node (some t99) (T.node (some t163) (T.node (some t291) T.nil T.nil) T.nil) (T.node (some t227) T.nil T.nil))) (T.node (some t51) (T.node (some t83) (T.node (some t147) (T.node (some t275) T.nil T.nil) T.nil) (T.node (some t211) T.nil T.nil)) (T.node (some t115) (T.node (some t179) T.nil T.nil) (T.node (some t243) T.nil T.nil)))) (T.node (some t27) (T.node (some t43) (T.node (some t75) (T.node (some t139) (T.node (some t267) T.nil T.nil) T.nil) (T.node (some t203) T.nil T.nil)) (T.node (some t107) (T.node (some t171) T.nil T.nil) (T.node (some t235) T.nil T.nil))) (T.node (some t59) (T.node (some t91) (T.node (some t155) (T.node (some t283) T.nil T.nil) T.nil) (T.node (some t219) T.nil T.nil)) (T.node (some t123) (T.node (some t187) T.nil T.nil) (T.node (some t251) T.nil T.nil)))))) (T.node (some t5) (T.node (some t9) (T.node (some t17) (T.node (some t33) (T.node (some t65) (T.node (some t129) (T.node (some t257) T.nil T.nil) T.nil) (T.node (some t193) T.nil T.nil)) (T.node (some t97) (T.node (some t161) (T.node (some t289) T.nil T.nil) T.nil) (T.node (some t225) T.nil T.nil))) (T.node (some t49) (T.node (some t81) (T.node (some t145) (T.node (some t273) T.nil T.nil) T.nil) (T.node (some t209) T.nil T.nil)) (T.node (some t113) (T.node (some t177) T.nil T.nil) (T.node (some t241) T.nil T.nil)))) (T.node (some t25) (T.node (some t41) (T.node (some t73) (T.node (some t137) (T.node (some t265) T.nil T.nil) T.nil) (T.node (some t201) T.nil T.nil)) (T.node (some t105) (T.node (some t169) T.nil T.nil) (T.node (some t233) T.nil T.nil))) (T.node (some t57) (T.node (some t89) (T.node (some t153) (T.node (some t281) T.nil T.nil) T.nil) (T.node (some t217) T.nil T.nil)) (T.node (some t121) (T.node (some t185) T.nil T.nil) (T.node (some t249) T.nil T.nil))))) (T.node (some t13) (T.node (some t21) (T.node (some t37) (T.node (some t69) (T.node (some t133) (T.node (some t261) T.nil T.nil) T.nil) (T.node (some t197) T.nil T.nil)) (T.node (some t101) (T.node (some t165) (T.node (some t293) T.nil T.nil) T.nil) (T.node (some t229) T.nil T.nil))) (T.node (some t53) (T.node (some t85) (T.node (some t149) (T.node (some t277) T.nil T.nil) T.nil) (T.node (some t213) T.nil T.nil)) (T.node (some t117) (T.node (some t181) T.nil T.nil) (T.node (some t245) T.nil T.nil)))) (T.node (some t29) (T.node (some t45) (T.node (some t77) (T.node (some t141) (T.node (some t269) T.nil T.nil) T.nil) (T.node (some t205) T.nil T.nil)) (T.node (some t109) (T.node (some t173) T.nil T.nil) (T.node (some t237) T.nil T.nil))) (T.node (some t61) (T.node (some t93) (T.node (some t157) (T.node (some t285) T.nil T.nil) T.nil) (T.node (some t221) T.nil T.nil)) (T.node (some t125) (T.node (some t189) T.nil T.nil) (T.node (some t253) T.nil T.nil))))))) (T.node (some t2) (T.node (some t4) (T.node (some t8) (T.node (some t16) (T.node (some t32) (T.node (some t64) (T.node (some t128) (T.node (some t256) T.nil T.nil) T.nil) (T.node (some t192) T.nil T.nil)) (T.node (some t96) (T.node (some t160) (T.node (some t288) T.nil T.nil) T.nil) (T.node (some t224) T.nil T.nil))) (T.node (some t48) (T.node (some t80) (T.node (some t144) (T.node (some t272) T.nil T.nil) T.nil) (T.node (some t208) T.nil T.nil)) (T.node (some t112) (T.node (some t176) T.nil T.nil) (T.node (some t240) T.nil T.nil)))) (T.node (some t24) (T.node (some t40) (T.node (some t72) (T.node (some t136) (T.node (some t264) T.nil T.nil) T.nil) (T.node (some t200) T.nil T.nil)) (T.node (some t104) (T.node (some t168) (T.node (some t296) T.nil T.nil) T.nil) (T.node (some t232) T.nil T.nil))) (T.node (some t56) (T.node (some t88) (T.node (some t152) (T.node (some t280) T.nil T.nil) T.nil) (T.node (some t216) T.nil T.nil)) (T.node (some t120) (T.node (some t184) T.nil T.nil) (T.node (some t248) T.nil T.nil))))) (T.node (some t12) (T.node (some t20) (T.node (some t36) (T.node (some t68) (T.node (some t132) (T.node (some t260) T.nil T.nil) T.nil) (T.node (some t196) T.nil T.nil)) (T.node (some t100) (T.node (some t164) (T.node (some t292) T.nil T.nil) T.nil) (T.node (some t228) T.nil T.nil))) (T.node (some t52) (T.node (some t84) (T.node (some t148) (T.node (some t276) T.nil T.nil) T.nil) (T.node (some t212) T.nil T.nil)) (T.node (some t116) (T.node (some t180) T.nil T.nil) (T.node (some t244) T.nil T.nil)))) (T.node (some t28) (T.node (some t44) (T.node (some t76) (T.node (some t140) (T.node (some t268) T.nil T.nil) T.nil) (T.node (some t204) T.nil T.nil)) (T.node (some t108) (T.node (some t172) T.nil T.nil) (T.node (some t236) T.nil T.nil))) (T.node (some t60) (T.node (some t92) (T.node (some t156) (T.node (some t284) T.nil T.nil) T.nil) (T.node (some t220) T.nil T.nil)) (T.node (some t124) (T.node (some t188) T.nil T.nil) (T.node (some t252) T.nil T.nil)))))) (T.node (some t6) (T.node (some t10) (T.node (some t18) (T.node (some t34) (T.node (some t66) (T.node (some t130) (T.node (some t258) T.nil T.nil) T.nil) (T.node (some t194) T.nil T.nil)) (T.node (some t98) (T.node (some t162) (T.node (some t290) T.nil T.nil) T.nil) (T.node (some t226) T.nil T.nil))) (T.node (some t50) (T.node (some t82) (T.node (some t146) (T.node (some t274) T.nil T.nil) T.nil) (T.node (some t210) T.nil T.nil)) (T.node (some t114) (T.node (some t178) T.nil T.nil) (T.node (some t242) T.nil T.nil)))) (T.node (some t26) (T.node (some t42) (T.node (some t74) (T.node (some t138) (T.node (some t266) T.nil T.nil) T.nil) (T.node (some t202) T.nil T.nil)) (T.node (some t106) (T.node (some t170) T.nil T.nil) (T.node (some t234) T.nil T.nil))) (T.node (some t58) (T.node (some t90) (T.node (some t154) (T.node (some t282) T.nil T.nil) T.nil) (T.node (some t218) T.nil T.nil)) (T.node (some t122) (T.node (some t186) T.nil T.nil) (T.node (some t250) T.nil T.nil))))) (T.node (some t14) (T.node (some t22) (T.node (some t38) (T.node (some t70) (T.node (some t134) (T.node (some t262) T.nil T.nil) T.nil) (T.node (some t198) T.nil T.nil)) (T.node (some t102) (T.node (some t166) (T.node (some t294) T.nil T.nil) T.nil) (T.node (some t230) T.nil T.nil))) (T.node (some t54) (T.node (some t86) (T.node (some t150) (T.node (some t278) T.nil T.nil) T.nil) (T.node (some t214) T.nil T.nil)) (T.node (some t118) (T.node (some t182) T.nil T.nil) (T.node (some t246) T.nil T.nil)))) (T.node (some t30) (T.node (some t46) (T.node (some t78) (T.node (some t142) (T.node (some t270) T.nil T.nil) T.nil) (T.node (some t206) T.nil T.nil)) (T.node (some t110) (T.node (some t174) T.nil T.nil) (T.node (some t238) T.nil T.nil))) (T.node (some t62) (T.node (some t94) (T.node (some t158) (T.node (some t286) T.nil T.nil) T.nil) (T.node (some t222) T.nil T.nil)) (T.node (some t126) (T.node (some t190) T.nil T.nil) (T.node (some t254) T.nil T.nil))))))))
noncomputable def aU:dy:=⟨fnT,tyT,157,[(37,[0,2,1]),(60,[0,0,0,0,0]),(70,[1,0])],[(84,"loop.example/poolfiles/impl.lead",20),(84,"loop.example/poolfiles/impl.folder",280),(84,"loop.example/poolfiles/impl.entries",279),(84,"loop.example/poolfiles/impl.links",77),(84,"loop.example/poolfiles/impl.size",283),(84,"loop.example/poolfiles/impl.room",73)]⟩
noncomputable def aW:dM:=⟨199,259,200,99999,5,[(121,Vc 122),(123,Vd 124),(89,CF),(74,Iq),(67,Is),(71,uu),(72,wM)]⟩
end Go.Proofs
namespace Go.Ev
open Go
variable {P:Program}{f:FuncId}
theorem LR.ground {A:Nat->Prop}{ρ:fP}{l l':aQ}(h:LR A ρ l l')(hg:∀x∈l,∀ρ,bZ ρ x=x):l'=l:=by
 rw[<-h.self];exact(EI λx hx=>hg x hx ρ).trans (List.map_id _)
theorem rV {h:wB}(H:∀args s v s',h args s=some (v,s')->s'=s/\(∀ρ,bZ ρ v=v)/\(∀x∈args,∀ρ,bZ ρ x=x)/\∀w,lU P f ⟨args⟩ w λv' w'=>v'=v/\Fr w w' λ_=>False):mL P f h:=by
 intro args s v s' hh;obtain⟨rfl,hv,ha,hc⟩:=H args s v s' hh;refine⟨az.refl _,λY A ρ w gH hp gK hl=>?_⟩;have:=hl.ground ha;subst this;refine(hc w).mono λv' w' ⟨h1,hf⟩=>?_
 subst h1;exact⟨ρ,VR.ground hv,Good.grew hp.st hp.ec rfl rfl hf⟩
theorem run_pure {call:dJ}(hC:dP P call){args:aQ}{n:Nat}{v:Value}{s1:St}(hn:16<=n)(hc:call f args ⟨.nil,n,0,0⟩=some (v,s1))(hv:∀ρ,bZ ρ v=v)(ha:∀x∈args,∀ρ,bZ ρ x=x)(w:World):lU P f ⟨args⟩ w λv' w'=>v'=v/\Fr w w' λ_=>False:=by
 obtain⟨hg,hk⟩:=hC _ _ _ _ _ hc;have xy:∀b,(⟨.nil,n,0,0⟩:St).heap.get b=none:=λb=>rfl
 have:=hk (λb=>In s1.cM b) (λi=>i<n) (λi=>(i,0)) w args ⟨λi hi=>hi,λb _=>xy b,λb hb=>hb,⟨λb o _ h=>(by have h1:=(xy b).symm.trans h;cases h1),λb b' o o' _ _ h=>(by have h1:=(xy b).symm.trans h;cases h1)⟩⟩ (λg hg=>⟨A9 hg hn,rfl⟩) (λeF _=>(EI λx hx=>ha x hx eF).trans (List.map_id _));refine this.mono λv' w' ⟨eF,h1,hG⟩=>⟨?_,hG.fQ.os,hG.fQ.tape,hG.fQ.output,hG.fQ.size,λr hr _=>hG.fQ.block r hr ?_⟩
 .rw[<-h1.self];exact hv _
 .rintro⟨b,o,_,_,h,_⟩;rw[xy] at h;cases h
end Go.Ev
namespace Go.Proofs
open Go Go.Ev Go.Pl
noncomputable def extP:dM:=⟨199,259,200,99999,5,[(250,Ir)]⟩
def st0:St:=⟨.nil,16,0,0⟩
noncomputable def Kq (f:Nat)(args:aQ)(v:Value):Bool:=match qN aU extP 100000 [] 200 f args st0 with
 |some (u,_)=>EE u v
 |none=>false
def S (z:List UInt8):Value:=.string ⟨⟨z⟩⟩
theorem okAll:fp.all (λz=>Kq 67 [S z] (.bool (bf z)))=true:=by kernel_rfl
theorem foAll:fp.all (λz=>Kq 71 [S z] (S (c8 z)))=true:=by kernel_rfl
theorem unAll:fp.all (λz=>!bf z||fp.all λt=>!bf t||Kq 72 [S z,S t] (.bool (under z t)))=true:=by kernel_rfl
end Go.Proofs
namespace Go.Ev
open Go
section
variable (E:dy)(X:dM)
def RunF (f:FuncId)(args:aQ)(s:St)(v:Value)(s':St):Prop:=∃N,∀n,N<=n->∀lf,N<=lf->qN E X lf [] n f args s=some (v,s')
def jb (c:Code)(tm:Tm)(s:St)(Q:Ex->Tm->St->Prop):Prop:=∃N e jk s',Q e jk s'/\∀n,N<=n->∀lf,N<=lf->l8 E (qN E X lf [] n) lf c tm s=some (e,jk,s')
def RunL (body:Code)(tm:Tm)(s:St)(Q:Ex->Tm->St->Prop):Prop:=∃N e jk s',Q e jk s'/\∀n,N<=n->∀lf,N<=lf->∀m,N<=m->Ce (l8 E (qN E X lf [] n) lf body) m tm s=some (e,jk,s')
def fS (ev:Operand->Value)(s:St)(o:Op)(K:Value->St->Prop):Prop:=∃N v s',K v s'/\∀n,N<=n->∀lf,N<=lf->EA E (qN E X lf [] n) ev s o=some (v,s')
def yg (ax l:List Oper)(tm:Tm)(s:St)(K:Tm->St->Prop):Prop:=∃N jk s',K jk s'/\∀n,N<=n->∀lf,N<=lf->JV E (qN E X lf [] n) ax l tm s=some (jk,s')
def EZ (ax l:List Oper)(j:Nat)(tm:Tm)(s:St)(seen:List Seen)(K:Tm->St->Prop):Prop:=∃N jk s',K jk s'/\∀n,N<=n->∀lf,N<=lf->ub E (qN E X lf [] n) ax l j tm s seen=some (jk,s')
variable {E X}{f:FuncId}{args:aQ}{v:Value}{c a b:Code}{tm:Tm}{s s':St}{Q Q':Ex->Tm->St->Prop}{K:Tm->St->Prop}{ax l:List Oper}{o:Oper}
theorem jb.mono (h:jb E X c tm s Q)(k:∀e tm s,Q e tm s->Q' e tm s):jb E X c tm s Q':=by
 obtain⟨N,e,jk,s',hq,hr⟩:=h;exact⟨N,e,jk,s',k _ _ _ hq,hr⟩
def Then (Q:Ex->Tm->St->Prop)(k:Tm->St->Prop):Ex->Tm->St->Prop
 |.normal,tm,s=>k tm s
 |e,tm,s=>Q e tm s
def ZK (id:Nat)(Q:Ex->Tm->St->Prop):Ex->Tm->St->Prop
 |.exit i,tm,s=>Q (if i=id then .normal else .exit i) tm s
 |e,tm,s=>Q e tm s
theorem jb.skip (h:Q .normal tm s):jb E X .skip tm s Q:=⟨0,_,_,_,h,λ_ _ _ _=>rfl⟩
theorem jb.ret (h:Q .ret tm s):jb E X .ret tm s Q:=⟨0,_,_,_,h,λ_ _ _ _=>rfl⟩
theorem jb.exit {id:Nat}(h:Q (.exit id) tm s):jb E X (.exit id) tm s Q:=⟨0,_,_,_,h,λ_ _ _ _=>rfl⟩
theorem jb.seq (h:jb E X a tm s (Then Q λtm s=>jb E X b tm s Q)):jb E X (.seq a b) tm s Q:=by
 obtain⟨N,e,rS,s1,hq,hr⟩:=h;have hc:∀(call:dJ)(lf:Nat),l8 E call lf (.seq a b) tm s=FM (l8 E call lf a tm s) (l8 E call lf b):=λ_ _=>rfl
 cases e with
 |normal=>
  obtain⟨M,e2,YJ,s2,YK,nW⟩:=(show jb E X b rS s1 Q from hq);refine⟨max N M,e2,YJ,s2,YK,λn hn lf hl=>?_⟩;rw[hc,hr n af lf af];exact nW n af lf af
 |exit i=>exact⟨N,_,_,_,(show Q (.exit i) rS s1 from hq),λn hn lf hl=>by rw[hc,hr n hn lf hl];rfl⟩
 |ret=>exact⟨N,_,_,_,(show Q .ret rS s1 from hq),λn hn lf hl=>by rw[hc,hr n hn lf hl];rfl⟩
theorem jb.cond {x:Operand}(t:Bool)(hx:aI tm x= .bool t)(h:if t=true then jb E X a tm s Q else jb E X b tm s Q):jb E X (.cond x a b) tm s Q:=by
 have hc:∀(call:dJ)(lf:Nat),l8 E call lf (.cond x a b) tm s=Pz (aI tm x) (l8 E call lf a tm s) (l8 E call lf b tm s):=λ_ _=>rfl
 cases t with
 |true=>
  obtain⟨N,e,rS,s1,hq,hr⟩:=(show jb E X a tm s Q from by simpa using h);exact⟨N,e,rS,s1,hq,λn hn lf hl=>by rw[hc,hx];exact hr n hn lf hl⟩
 |false=>
  obtain⟨N,e,rS,s1,hq,hr⟩:=(show jb E X b tm s Q from by simpa using h);exact⟨N,e,rS,s1,hq,λn hn lf hl=>by rw[hc,hx];exact hr n hn lf hl⟩
theorem jb.block {id:Nat}(h:jb E X a tm s (ZK id Q)):jb E X (.block id a) tm s Q:=by
 have hc:∀(call:dJ)(lf:Nat),l8 E call lf (.block id a) tm s=outV id (l8 E call lf a tm s):=λ_ _=>rfl
 obtain⟨N,e,rS,s1,hq,hr⟩:=h;cases e with
 |normal=>exact⟨N,_,_,_,(show Q .normal rS s1 from hq),λn hn lf hl=>by rw[hc,hr n hn lf hl];rfl⟩
 |ret=>exact⟨N,_,_,_,(show Q .ret rS s1 from hq),λn hn lf hl=>by rw[hc,hr n hn lf hl];rfl⟩
 |exit i=>
  refine⟨N,_,_,_,(show Q (if i=id then .normal else .exit i) rS s1 from hq),λn hn lf hl=>?_⟩;rw[hc,hr n hn lf hl];show bo (Nat.beq i id) (some (Ex.normal,rS,s1)) (some (.exit i,rS,s1))=_;rw[ek];by_cases h:i=id<;>simp[h]
theorem jb.loop (I:Nat->Tm->St->Prop)(k:Nat)(h0:I k tm s)(step:∀k tm s,I k tm s->jb E X a tm s (Then Q λtm s=>∃j,j<k/\I j tm s)):jb E X (.loop a) tm s Q:=by
 have key:∀k tm s,I k tm s->RunL E X a tm s Q:=by
  intro k;induction k using Nat.strongRecOn with
  |ind k ih=>
   intro tm s hI;obtain⟨N,e,rS,s1,hq,hr⟩:=step k tm s hI;have hc:∀(body:Tm->St->R4)(m:Nat),Ce body (m+1) tm s=FM (body tm s) (Ce body m):=λ_ _=>rfl
   cases e with
   |normal=>
    obtain⟨j,hj,hI'⟩:=hq;obtain⟨M,e2,YJ,s2,YK,nW⟩:=ih j hj rS s1 hI';refine⟨max N M+1,e2,YJ,s2,YK,λn hn lf hl m hm=>?_⟩;obtain⟨m,rfl⟩:∃q,m=q+1:=⟨m-1,af⟩;rw[hc,hr n af lf af];exact nW n af lf af m af
   |exit i=>
    refine⟨N+1,_,_,_,(show Q (.exit i) rS s1 from hq),λn hn lf hl m hm=>?_⟩;obtain⟨m,rfl⟩:∃q,m=q+1:=⟨m-1,af⟩;rw[hc,hr n af lf af];rfl
   |ret=>
    refine⟨N+1,_,_,_,(show Q .ret rS s1 from hq),λn hn lf hl m hm=>?_⟩;obtain⟨m,rfl⟩:∃q,m=q+1:=⟨m-1,af⟩;rw[hc,hr n af lf af];rfl
 obtain⟨N,e,rS,s1,hq,hr⟩:=key k tm s h0;exact⟨N,e,rS,s1,hq,λn hn lf hl=>hr n hn lf hl lf hl⟩
theorem jb.region {id:Nat}{arr:Array Oper}(h:yg E X arr.toList arr.toList tm s (Q .normal)):jb E X (.region id arr false) tm s Q:=by
 obtain⟨N,rS,s1,hq,hr⟩:=h;refine⟨N,.normal,rS,s1,hq,λn hn lf hl=>?_⟩;show FN (JV E _ arr.toList arr.toList tm s)=_;rw[hr n hn lf hl];rfl
theorem jb.draw {id:Nat}{arr:Array Oper}(h:EZ E X arr.toList arr.toList 0 tm s [] (Q .normal)):jb E X (.region id arr true) tm s Q:=by
 obtain⟨N,rS,s1,hq,hr⟩:=h;refine⟨N,.normal,rS,s1,hq,λn hn lf hl=>?_⟩;show FN (ub E _ arr.toList arr.toList 0 tm s [])=_;rw[hr n hn lf hl];rfl
theorem yg.nil (h:K tm s):yg E X ax [] tm s K:=⟨0,_,_,h,λ_ _ _ _=>rfl⟩
theorem yg.cons (hw:gW ax tm o.guard=true)(h:fS E X (aI tm) s o.op λv s=>yg E X ax l (tm.gT o.dst v) s K):yg E X ax (o::l) tm s K:=by
 obtain⟨N,v,s1,hk,hr⟩:=h;obtain⟨M,YJ,s2,x9,nW⟩:=hk;refine⟨max N M,YJ,s2,x9,λn hn lf hl=>?_⟩;rw[zI,hw,gw,hr n af lf af];show Tm.put tm o.dst v _=_;rw[Tm.put_eq];exact nW n af lf af
theorem yg.pass (hw:gW ax tm o.guard=false)(h:yg E X ax l (tm.gT o.dst (.tuple ⟨[]⟩)) s K):yg E X ax (o::l) tm s K:=by
 obtain⟨M,YJ,s2,x9,nW⟩:=h;refine⟨M,YJ,s2,x9,λn hn lf hl=>?_⟩;rw[zI,hw,eG,Tm.put_eq];exact nW n hn lf hl
end
section
variable (E:dy)(X:dM)
def rW (f:FuncId)(args:aQ)(s:St)(Q:Value->St->Prop):Prop:=∃v s',RunF E X f args s v s'/\Q v s'
variable {E X}{f g:FuncId}{fn:Func}{args:aQ}{v:Value}{c a b:Code}{tm:Tm}{s s':St}{K:Value->St->Prop}{ax l:List Oper}{o:Op}{ev:Operand->Value}
theorem rW.mono {K':Value->St->Prop}(h:rW E X f args s K)(k:∀v s,K v s->K' v s):rW E X f args s K':=by
 obtain⟨v,s',h1,h2⟩:=h;exact⟨v,s',h1,k _ _ h2⟩
theorem NC (h:Cg X f=false)(k:Option (Value×St)):xT X f args s k=k:=by
 have key:∀l:List (Nat×wB),List.rec (motive:=λ_=>Bool) false (λp _ ih=>bo (Nat.beq p.1 f) true ih) l=false->List.rec (motive:=λ_=>Option (Value×St)) k (λp _ ih=>bo (Nat.beq p.1 f) (p.2 args s) ih) l=k:=by
  intro l;induction l with
  |nil=>exact λ_=>rfl
  |cons p l ih=>
   intro h;have h:bo (Nat.beq p.1 f) true (List.rec (motive:=λ_=>Bool) false (λp _ ih=>bo (Nat.beq p.1 f) true ih) l)=false:=h;show bo (Nat.beq p.1 f) (p.2 args s) (List.rec (motive:=λ_=>Option (Value×St)) k (λp _ ih=>bo (Nat.beq p.1 f) (p.2 args s) ih) l)=k;cases hb:Nat.beq p.1 f with
   |true=>rw[hb] at h;cases h
   |false=>rw[hb] at h;exact ih h
 exact key X.vT h
theorem rW.hook (hf:E.fn.get f=some fn)(hh:∀k,xT X f args s k=some (v,s'))(hk:K v s'):rW E X f args s K:=by
 refine⟨v,s',⟨1,λn hn lf BG=>?_⟩,hk⟩;obtain⟨n,rfl⟩:∃q,n=q+1:=⟨n-1,af⟩;show(ob (E.fn.get f) λfn=>xT X f args s _)=_;rw[hf];exact hh _
theorem rW.body (hf:E.fn.get f=some fn)(hb:fn.body=some c)(Rs:(Nat.beq f X.look||Cg X f)=false)(hl:args.length<=fn.ntmps)
  (h:jb E X c (lL args 0 .nil) s λe tm s1=>(e= .normal\/e= .ret)/\∃vs s2,Cf E tm fn.results.toList s1=some (vs,s2)/\K (gF vs) s2):rW E X f args s K:=by
 obtain⟨N,e,rS,s1,⟨he,vs,s2,Il,hk⟩,hr⟩:=h;refine⟨gF vs,s2,⟨N+1,λn hn lf BG=>?_⟩,hk⟩;obtain⟨n,rfl⟩:∃q,n=q+1:=⟨n-1,af⟩;have hx:Nat.beq f X.look=false:=by
  cases hq:Nat.beq f X.look with
  |true=>rw[hq] at Rs;cases Rs
  |false=>rfl
 have hx1:Cg X f=false:=by rw[hx] at Rs;exact Rs
 show(ob (E.fn.get f) λfn=>xT X f args s<| match fn.body with
   |none=>Zb X f args s
   |some c=>bo (Nat.beq f X.look) (JW args s)<| eb (Nat.ble (eh args) fn.ntmps)<| Uo E fn (l8 E (qN E X lf [] n) lf c (lL args (nat_lit 0) .nil) s))=_
 rw[hf];show(xT X f args s<| match fn.body with
   |none=>Zb X f args s
   |some c=>bo (Nat.beq f X.look) (JW args s)<| eb (Nat.ble (eh args) fn.ntmps)<| Uo E fn (l8 E (qN E X lf [] n) lf c (lL args (nat_lit 0) .nil) s))=_
 rw[NC hx1,hb];simp only[hx,eG];have h2:Nat.ble (eh args) fn.ntmps=true:=by rw[dm];exact gR hl
 rw[h2,hr n af lf af];rcases he with rfl|rfl
 .show ob (Cf E rS fn.results.toList s1) (λp=>some (gF p.1,p.2))=_;rw[Il];rfl
 .show ob (Cf E rS fn.results.toList s1) (λp=>some (gF p.1,p.2))=_;rw[Il];rfl
theorem fS.call {x:Operand}{xs:List Operand}{ts:Array TypeId}{first cap:aQ}(hx:ev x= .func (.func g) ⟨first⟩ ⟨cap⟩)(h:rW E X g (first++(wy ev xs++cap)) s K):fS E X ev s (.call ⟨.value x,⟨xs⟩,ts⟩) K:=by
 obtain⟨v,s',⟨N,hr⟩,hk⟩:=h;refine⟨N,v,s',hk,λn hn lf hl=>?_⟩;show wA (qN E X lf [] n) (ev x) (wy ev xs) s=_;rw[hx];exact hr n hn lf hl
theorem fS.pure (h:∀call:dJ,EA E call ev s o=some (v,s'))(hk:K v s'):fS E X ev s o K:=⟨0,v,s',hk,λn _ lf _=>h _⟩
theorem ZL (tm:Tm)(d:Tmp)(v:Value)(t:Tmp):T.get (tm.gT (some d) v) t=if t=d then some v else T.get tm t:=by
 show T.get (T.set (Nat.succ d) tm d (some v)) t=_;exact T.u1 tm d t (some v)
end
end Go.Ev
namespace Go.Lg
open Go Go.Ev
abbrev sv (z:List UInt8):Value:=.string ⟨⟨z⟩⟩
abbrev cg:Value:=.int .i64 0
abbrev eW:Value:=.slice none 0 0
abbrev jF (b:Nat):aH:=some ⟨b,0,none⟩
abbrev aP (b:Nat):Value:=.pointer (some ⟨b,0,none⟩)
abbrev iv (n:Int):Value:=.int .i64 n
abbrev bv (b:UInt8):Value:=.int .u8 (b.toNat:Int)
abbrev Kn:=List (Nat×Value)
def lk:Kn->Nat->Option Value
 |[],_=>none
 |(k,v)::l,t=>match Nat.beq k t with
  |true=>some v
  |false=>lk l t
def mu (l:Kn)(tm:Tm):Prop:=∀t v,lk l t=some v->aI tm (.tmp t)=v
theorem mu.nil (tm:Tm):mu [] tm:=λ_ _ h=>by cases h
theorem Ve (tm:Tm)(d:Nat)(v:Value)(t:Nat):aI (tm.gT (some d) v) (.tmp t)=if t=d then v else aI tm (.tmp t):=by
 show lG (T.get _ t)=_;rw[ZL];split<;>rfl
theorem mu.cons {l:Kn}{tm:Tm}(h:mu l tm)(d:Nat)(v:Value):mu ((d,v)::l) (tm.gT (some d) v):=by
 intro t u ht;rw[Ve];unfold lk at ht;by_cases hd:t=d
 .subst hd;rw[if_pos rfl];simp at ht;exact ht
 .rw[if_neg hd];split at ht
  .rename_i hb;simp at hb;exact absurd hb.symm hd
  .exact h t u ht
def Le (l2 l:Kn):Prop:=∀t v,lk l2 t=some v->lk l t=some v
theorem mu.le {l2 l:Kn}{tm:Tm}(h:mu l tm)(hl:Le l2 l):mu l2 tm:=λt v ht=>h t v (hl t v ht)
theorem Le.nil (l:Kn):Le [] l:=λ_ _ h=>by cases h
theorem Le.cons {l2 l:Kn}{t:Nat}{v:Value}(h:lk l t=some v)(k:Le l2 l):Le ((t,v)::l2) l:=by
 intro t' v' h';unfold lk at h';split at h'
 .rename_i hb;simp at hb;subst hb;simp at h';subst h';exact h
 .exact k t' v' h'
theorem Le.refl (l:Kn):Le l l:=λ_ _ h=>h
inductive It where
 |box (b:Nat) (cs:aQ) (t:TypeId) (w:Bool)
 |aJ (v:Value) (e:TypeId) (sz:Nat) (cs:aQ)
 |fy (b:Nat) (o:gh)
abbrev bn:=List It
def mN:Value->List Nat
 |.slice (some a) _ _=>[a.block]
 |_=>[]
def It.aS:It->List Nat
 |.box b _ _ _=>[b]
 |.aJ v _ _ _=>mN v
 |.fy b _=>[b]
def yh (s:St)(v:Value)(e:TypeId)(sz:Nat)(cs:aQ):Prop:=
 (v= .slice none 0 0/\cs=[])\/∃b n k w,v= .slice (some ⟨b,0,none⟩) n k/\s.heap.get b=some (.cells cs e w)/\cs.length=n*sz/\((k=n/\n<eL)\/(k=eL/\w=true))
def It.ok (s:St):It->Prop
 |.box b cs t w=>s.heap.get b=some (.cells cs t w)
 |.aJ v e sz cs=>yh s v e sz cs
 |.fy b o=>s.heap.get b=some o
theorem It.yi {s s':St}{x:It}(h:x.ok s)(hh:∀b∈x.aS,s'.heap.get b=s.heap.get b):x.ok s':=by
 cases x with
 |box b cs t w=>exact(hh b (by simp[It.aS])).trans h
 |fy b o=>exact(hh b (by simp[It.aS])).trans h
 |aJ v e sz cs=>
  rcases h with⟨rfl,rfl⟩|⟨b,n,k,w,rfl,h1,h2⟩
  .exact .inl ⟨rfl,rfl⟩
  .exact .inr ⟨b,n,k,w,rfl,(hh b (by simp[It.aS,mN])).trans h1,h2⟩
structure gY where
 s0:St
 M:List Nat
 A:List Nat
structure Inv (Γ:gY)(s:St)(L:bn):Prop where
 fr:∀b,b<Γ.s0.next->b∉Γ.M->s.heap.get b=Γ.s0.heap.get b
 le:Γ.s0.next<=s.next
 it:∀x∈L,x.ok s
 lt:∀x∈L,∀b∈x.aS,b<s.next/\(Γ.s0.next<=b\/b∈Γ.M)
 nd:(L.flatMap It.aS).Nodup
 cM:∀b,In s.cM b->In Γ.s0.cM b\/b∈Γ.A\/b∈Γ.M\/Γ.s0.next<=b
 wr:∀b,In s.wr b->In Γ.s0.wr b\/b∈Γ.M\/Γ.s0.next<=b
 top:∀b,In s.cM b->In Γ.s0.cM b\/b<s.next
 CG:∀b,In s.wr b->In Γ.s0.wr b\/b<s.next
def cr (L2 L:bn):Prop:=∃l:bn,l.Perm L2/\l.Sublist L
theorem cr.subset {L2 L:bn}(h:cr L2 L){x:It}(hx:x∈L2):x∈L:=by
 obtain⟨l,hp,hs⟩:=h;exact hs.subset (hp.mem_iff.2 hx)
theorem RM {L2 L:bn}(h:cr L2 L)(hn:(L.flatMap It.aS).Nodup):(L2.flatMap It.aS).Nodup:=by
 obtain⟨l,hp,hs⟩:=h;have h1:(l.flatMap It.aS).Nodup:=hn.sublist (by
  clear hn hp;induction hs with
  |slnil=>exact List.Sublist.slnil
  |cons a _ ih=>simp only[l3];exact ih.trans (np _ _)
  |cons_cons a _ ih=>simp only[l3];exact JF (Fu _) ih)
 exact(List.Perm.nodup_iff (List.Perm.flatMap_right It.aS hp)).1 h1
theorem Inv.sub {Γ:gY}{s:St}{L2 L:bn}(h:Inv Γ s L)(hl:cr L2 L):Inv Γ s L2:=
 ⟨h.fr,h.le,λx hx=>h.it x (hl.subset hx),λx hx=>h.lt x (hl.subset hx),RM hl h.nd,h.cM,h.wr,h.top,h.CG⟩
theorem Inv.same {Γ:gY}{s s':St}{L:bn}(h:Inv Γ s L)(h1:s'.heap=s.heap)(h2:s'.next=s.next)(ha:∀b,In s'.cM b->In s.cM b\/b∈Γ.A\/b∈Γ.M\/Γ.s0.next<=b)(hw:∀b,In s'.wr b->In s.wr b\/b∈Γ.M\/Γ.s0.next<=b)(ht:∀b,In s'.cM b->In s.cM b\/b<s.next)(htw:∀b,In s'.wr b->In s.wr b\/b<s.next):Inv Γ s' L:=
 ⟨λb hb hm=>by rw[h1];exact h.fr b hb hm,by rw[h2];exact h.le,λx hx=>It.yi (h.it x hx) λb _=>by rw[h1],λx hx b hb=>by rw[h2];exact h.lt x hx b hb,h.nd,
  λb hb=>(ha b hb).elim (h.cM b) .inr,λb hb=>(hw b hb).elim (h.wr b) .inr,λb hb=>by rw[h2];exact(ht b hb).elim (h.top b) .inr,λb hb=>by rw[h2];exact(htw b hb).elim (h.CG b) .inr⟩
section
variable (E:dy)(X:dM)(Γ:gY)
abbrev zM:=Ex->Kn->bn->Prop
def W (c:Code)(l:Kn)(L:bn)(Q:zM):Prop:=
 ∀tm s,mu l tm->Inv Γ s L->jb E X c tm s λe jk s'=>∃l' L',mu l' jk/\Inv Γ s' L'/\Q e l' L'
abbrev Fp:=Nat->Prop
structure kx (s s':St)(R Wr:Fp):Prop where
 nx:s.next<=s'.next
 cM:∀b,In s'.cM b->In s.cM b\/(R b/\b<s'.next)
 wr:∀b,In s'.wr b->In s.wr b\/(Wr b/\b<s'.next)
abbrev KO:=Value->bn->Nat->Nat->Fp->Fp->Prop
def WO (l:Kn)(o:Op)(L:bn)(K:KO):Prop:=
 ∀tm s,mu l tm->Inv Γ s L->fS E X (aI tm) s o λv s'=>∃L' R Wr,Inv Γ s' L'/\kx s s' R Wr/\K v L' s.next s'.next R Wr
def WS (ax aL:List Oper)(l:Kn)(L:bn)(K:Kn->bn->Prop):Prop:=
 ∀tm s,mu l tm->Inv Γ s L->yg E X ax aL tm s λjk s'=>∃l' L',mu l' jk/\Inv Γ s' L'/\K l' L'
structure Sn where
 i:Nat
 R:Fp
 W:Fp
def kK (n mask:Nat)(R Wr:Fp):List Sn->Prop
 |[]=>True
 |x::l=>(Nat.testBit mask x.i=true\/((∀b,b<n->x.W b->¬R b)/\(∀b,b<n->x.R b->¬Wr b)))/\kK n mask R Wr l
def RN (seen:List Sn)(sn:List Seen)(n:Nat):Prop:=∀y∈sn,∃x∈seen,x.i=y.i/\(∀b,In y.cM b->x.R b/\b<n)/\(∀b,In y.wr b->x.W b/\b<n)
def WD (ax aL:List Oper)(j:Nat)(seen:List Sn)(nx:Nat)(l:Kn)(L:bn)(K:Kn->bn->Prop):Prop:=
 ∀tm s sn,mu l tm->Inv Γ s L->s.next=nx->RN seen sn nx->EZ E X ax aL j tm s sn λjk s'=>∃l' L',mu l' jk/\Inv Γ s' L'/\K l' L'
variable {E X Γ}{a b c:Code}{l l2:Kn}{L L2:bn}{Q Q':zM}
theorem W.le (h:W E X Γ c l2 L2 Q)(hl:Le l2 l)(hL:cr L2 L):W E X Γ c l L Q:=λtm s h1 h2=>h tm s (h1.le hl) (h2.sub hL)
theorem W.mono (h:W E X Γ c l L Q)(k:∀e l L,Q e l L->Q' e l L):W E X Γ c l L Q':=λtm s h1 h2=>(h tm s h1 h2).mono λe tm s ⟨l,L,h3,h4,h5⟩=>⟨l,L,h3,h4,k _ _ _ h5⟩
def Kr (Q:zM)(k:Kn->bn->Prop):zM
 |.normal,l,L=>k l L
 |e,l,L=>Q e l L
def oQ (id:Nat)(Q:zM):zM
 |.exit i,l,L=>if i=id then Q .normal l L else Q (.exit i) l L
 |e,l,L=>Q e l L
theorem W.skip (h:Q .normal l L):W E X Γ .skip l L Q:=λtm s h1 h2=>jb.skip ⟨l,L,h1,h2,h⟩
theorem W.ret (h:Q .ret l L):W E X Γ .ret l L Q:=λtm s h1 h2=>jb.ret ⟨l,L,h1,h2,h⟩
theorem W.exit {id:Nat}(h:Q (.exit id) l L):W E X Γ (.exit id) l L Q:=λtm s h1 h2=>jb.exit ⟨l,L,h1,h2,h⟩
theorem W.seq (h:W E X Γ a l L (Kr Q λl L=>W E X Γ b l L Q)):W E X Γ (.seq a b) l L Q:=λtm s h1 h2=>by
 refine jb.seq ((h tm s h1 h2).mono ?_);rintro e tm s ⟨l,L,h3,h4,h5⟩;cases e with
 |normal=>exact h5 tm s h3 h4
 |exit i=>exact⟨l,L,h3,h4,h5⟩
 |ret=>exact⟨l,L,h3,h4,h5⟩
theorem W.block {id:Nat}(h:W E X Γ a l L (oQ id Q)):W E X Γ (.block id a) l L Q:=λtm s h1 h2=>by
 refine jb.block ((h tm s h1 h2).mono ?_);rintro e tm s ⟨l,L,h3,h4,h5⟩;cases e with
 |normal=>exact⟨l,L,h3,h4,h5⟩
 |exit i=>
  refine⟨l,L,h3,h4,?_⟩;simp only[oQ] at h5;split at h5
  .rename_i hi;rw[if_pos hi];exact h5
  .rename_i hi;rw[if_neg hi];exact h5
 |ret=>exact⟨l,L,h3,h4,h5⟩
inductive Ev (l:Kn):Operand->Value->Prop
 |tmp {t:Nat} {v:Value} (h:lk l t=some v):Ev l (.tmp t) v
 |const {v:Value}:Ev l (.const v) v
 |func {f:Nat}:Ev l (.func f) (.func (.func f) #[] #[])
theorem Ev.eval {x:Operand}{v:Value}{tm:Tm}(h:Ev l x v)(hl:mu l tm):aI tm x=v:=by
 cases h with
 |tmp h=>exact hl _ _ h
 |const=>rfl
 |func=>rfl
theorem W.cond {x:Operand}{t:Bool}(hx:Ev l x (.bool t))(h1:t=true->W E X Γ a l L Q)(h2:t=false->W E X Γ b l L Q):W E X Γ (.cond x a b) l L Q:=λtm s k1 k2=>by
 refine jb.cond t (hx.eval k1) ?_;cases t with
 |true=>exact h1 rfl tm s k1 k2
 |false=>exact h2 rfl tm s k1 k2
theorem W.loop (I:Nat->Kn->bn->Prop)(k:Nat)(h0:I k l L)(step:∀k l L,I k l L->W E X Γ a l L (Kr Q λl L=>∃j,j<k/\I j l L)):W E X Γ (.loop a) l L Q:=λtm s k1 k2=>by
 refine jb.loop (λk tm s=>∃l L,mu l tm/\Inv Γ s L/\I k l L) k ⟨l,L,k1,k2,h0⟩ ?_;rintro k tm s ⟨l,L,h1,h2,h3⟩;refine(step k l L h3 tm s h1 h2).mono ?_;rintro e tm s ⟨l,L,h3,h4,h5⟩;cases e with
 |normal=>obtain⟨j,hj,hI⟩:=h5;exact⟨j,hj,l,L,h3,h4,hI⟩
 |exit i=>exact⟨l,L,h3,h4,h5⟩
 |ret=>exact⟨l,L,h3,h4,h5⟩
theorem W.region {id:Nat}{ax:List Oper}(h:WS E X Γ ax ax l L (Q .normal)):W E X Γ (.region id ⟨ax⟩ false) l L Q:=λtm s h1 h2=>jb.region (h tm s h1 h2)
theorem W.draw {id:Nat}{ax:List Oper}(h:∀nx,(∀y∈L,∀i∈y.aS,i<nx)->Γ.s0.next<=nx->WD E X Γ ax ax 0 [] nx l L (Q .normal)):W E X Γ (.region id ⟨ax⟩ true) l L Q:=λtm s h1 h2=>jb.draw (h s.next (λy hy i hi=>(h2.lt y hy i hi).1) h2.le tm s [] h1 h2 rfl (λ_ hx=>by cases hx))
variable {ax aL:List Oper}{K:Kn->bn->Prop}{o:Op}{KO:KO}
inductive Want (ax:List Oper)(l:Kn):Option (Nat×Bool)->Bool->Prop
 |none:Want ax l none true
 |some {j d:Nat} {w t:Bool} (hd:l7 ax j=some d) (h:lk l d=some (.bool t)):Want ax l (some (j,w)) (if t then w else !w)
 |undef {j d:Nat} {w:Bool} (hd:l7 ax j=some d) (h:lk l d=some (.tuple ⟨[]⟩)):Want ax l (some (j,w)) false
theorem Want.eval {g:Option (Nat×Bool)}{t:Bool}{tm:Tm}(h:Want ax l g t)(hl:mu l tm):gW ax tm g=t:=by
 cases h with
 |none=>rfl
 |some hd h=>
  have h1:=hl _ _ h;show tZ (ob (l7 ax _) λd=>tm.get d) _=_;rw[hd];show tZ (tm.get _) _=_;have h2:lG (tm.get _)=_:=h1;rename_i j d w t;generalize tm.get d=q at h2;cases q with
  |none=>cases h2
  |some v=>cases (show v=_ from h2);cases t<;>rfl
 |undef hd h=>
  have h1:=hl _ _ h;show tZ (ob (l7 ax _) λd=>tm.get d) _=_;rw[hd];show tZ (tm.get _) _=_;have h2:lG (tm.get _)=_:=h1;rename_i j d w;generalize tm.get d=q at h2;cases q with
  |none=>rfl
  |some v=>cases (show v=_ from h2);rfl
theorem WS.nil (h:K l L):WS E X Γ ax [] l L K:=λtm s h1 h2=>yg.nil ⟨l,L,h1,h2,h⟩
theorem WS.cons {d:Nat}{o:Oper}(hd:o.dst=some d)(hw:Want ax l o.guard true)(h:WO E X Γ l o.op L λv L' _ _ _ _=>WS E X Γ ax aL ((d,v)::l) L' K):WS E X Γ ax (o::aL) l L K:=λtm s h1 h2=>by
 obtain⟨N,v,s',⟨L',R,Wr,h3,h4,h8⟩,hr⟩:=h tm s h1 h2;exact yg.cons (hw.eval h1) ⟨N,v,s',by rw[hd];exact h8 _ _ (h1.cons d v) h3,hr⟩
theorem WS.Vf {o:Oper}(hd:o.dst=none)(hw:Want ax l o.guard true)(h:WO E X Γ l o.op L λv L' _ _ _ _=>WS E X Γ ax aL l L' K):WS E X Γ ax (o::aL) l L K:=λtm s h1 h2=>by
 obtain⟨N,v,s',⟨L',R,Wr,h3,h4,h8⟩,hr⟩:=h tm s h1 h2;exact yg.cons (hw.eval h1) ⟨N,v,s',by rw[hd];exact h8 _ _ h1 h3,hr⟩
theorem WS.pass {d:Nat}{o:Oper}(hd:o.dst=some d)(hw:Want ax l o.guard false)(h:WS E X Γ ax aL ((d,.tuple ⟨[]⟩)::l) L K):WS E X Γ ax (o::aL) l L K:=λtm s h1 h2=>by
 exact yg.pass (hw.eval h1) (by rw[hd];exact h _ _ (h1.cons d _) h2)
end
def Z:Fp:=λ_=>False
def bM (s:St)(a:aH)(n sz:Nat)(cs:aQ):Prop:=
 cs.length=n*sz/\((n=0/\(a=none\/∃b o q,a=some ⟨b,o,some q⟩/\b<s.next))\/∃b o c e w,a=some ⟨b,o,none⟩/\b<s.next/\s.heap.get b=some (.cells c e w)/\(c.drop o).take (n*sz)=cs)
def da (a:aH)(i sz j:Nat):Value:=match a with
 |some ⟨b,o,none⟩=>.pointer (some ⟨b,o+(i*sz+j),none⟩)
 |_=>.tuple ⟨[]⟩
def ai:aH->List Nat
 |some a=>[a.block]
 |none=>[]
class iG (E:dy)(t:TypeId)(n:outParam Nat):Prop where
 h:size E t=some n
class ny (E:dy)(t:TypeId):Prop where
 h:∃d,iQ E t=some d/\zy d=false
class vG (E:dy)(t:TypeId)(n:outParam Nat):Prop where
 h:∃d,iQ E t=some d/\zy d=true/\size E t=some n
class ix (E:dy)(t:TypeId)(i:Nat)(off:outParam Nat):Prop where
 h:∃fs f sz,iQ E t=some (.struct ⟨fs⟩)/\fs[i]?=some f/\size E f.type=some sz/\1<=sz/\f.offset=off
class o9 (E:dy)(t:TypeId)(e sz:outParam Nat):Prop where
 h:iQ E t=some (.slice e)/\∃i z,E.ty.get e=some i/\i.size=sz/\i.zero=some z/\(bW z).length=sz/\1<=sz/\i.bytes<=1000000
class rX (E:dy)(t:TypeId)(z:outParam (aQ)):Prop where
 h:∃v,zero E t=some v/\bW v=z
class yj (E:dy)(t:TypeId):Prop where
 h:iQ E t=some .string
class wN (E:dy)(t:TypeId)(k:outParam IntKind):Prop where
 h:iQ E t=some (.int k)
class Vg (E:dy)(t:TypeId):Prop where
 h:iQ E t=some .bool
class TEq (E:dy)(t:TypeId)(ks:outParam (List Nat)):Prop where
 h:(t,ks)∈E.eqs
section
variable {E:dy}{X:dM}{Γ:gY}{l:Kn}{L L':bn}{K:KO}{x y c:Operand}{v u:Value}{t:TypeId}
theorem kx.id {s:St}{R W:Fp}:kx s s R W:=⟨cy _,λ_ h=>.inl h,λ_ h=>.inl h⟩
theorem WO.val {o:Op}(h:∀tm s (call:dJ),mu l tm->EA E call (aI tm) s o=some (v,s))(k:∀n,K v L n n Z Z):WO E X Γ l o L K:=λtm s h1 h2=>
 fS.pure (λcall=>h tm s call h1) ⟨L,Z,Z,h2,kx.id,k _⟩
theorem WO.move (hx:Ev l x v)(k:∀n,K v L n n Z Z):WO E X Γ l (.move x) L K:=WO.val (λtm s call h=>by show aG _ s=_;rw[hx.eval h];rfl) k
theorem WO.assign (hx:Ev l x v)(k:∀n,K v L n n Z Z):WO E X Γ l (.assign x) L K:=WO.val (λtm s call h=>by show aG _ s=_;rw[hx.eval h];rfl) k
theorem WO.pickT {b:Bool}(hc:Ev l c (.bool b))(hb:b=true)(hx:Ev l x v)(k:∀n,K v L n n Z Z):WO E X Γ l (.pick c x y) L K:=WO.val (λtm s call h=>by
 show Py (aI tm c) (aI tm x) (aI tm y) s=_;rw[hc.eval h,hx.eval h,hb];rfl) k
theorem WO.pickF {b:Bool}(hc:Ev l c (.bool b))(hb:b=false)(hy:Ev l y v)(k:∀n,K v L n n Z Z):WO E X Γ l (.pick c x y) L K:=WO.val (λtm s call h=>by
 show Py (aI tm c) (aI tm x) (aI tm y) s=_;rw[hc.eval h,hy.eval h,hb];rfl) k
theorem WO.not {b:Bool}(hx:Ev l x (.bool b))(k:∀n,K (.bool !b) L n n Z Z):WO E X Γ l (.unOp .not t x) L K:=WO.val (λtm s call h=>by
 show unV .not (aI tm x) s=_;rw[hx.eval h];rfl) k
theorem WO.extract {vs:aQ}{i:Nat}(hx:Ev l x (.tuple ⟨vs⟩))(hv:iR vs i=some v)(k:∀n,K v L n n Z Z):WO E X Γ l (.extract x i) L K:=WO.val (λtm s call h=>by
 show xS s (aI tm x) i=_;rw[hx.eval h];show ob (iR vs i) _=_;rw[hv];rfl) k
theorem WO.bin {op:BinOp}{t2:TypeId}(hx:Ev l x v)(hy:Ev l y u){r:Value}(h:∀cc,Q7 E op t cc v u=some r)(k:∀n,K r L n n Z Z):WO E X Γ l (.binOp op t x y t2) L K:=WO.val (λtm s call hl=>by
 show ob (Q7 E op t (YX x||YX y) (aI tm x) (aI tm y)) (λv=>aG v s)=_;rw[hx.eval hl,hy.eval hl,h];rfl) k
def Fit (n:Int):Prop:=-9223372036854775808<=n/\n<=9223372036854775807
theorem pU {n:Int}(h:Fit n):IntKind.wrap .i64 n=n:=by
 refine' zaL
section
variable {a b:Int}{k:IntKind}{t2:TypeId}
theorem WO.add (hx:Ev l x (iv a))(hy:Ev l y (iv b))(hf:Fit (a+b))(h:∀n,K (iv (a+b)) L n n Z Z):WO E X Γ l (.binOp .add t x y t2) L K:=WO.bin hx hy (λcc=>by
 show some (Value.int .i64 (pJ .i64 (a+b)))=_;rw[jM,pU hf]) h
theorem WO.sub (hx:Ev l x (iv a))(hy:Ev l y (iv b))(hf:Fit (a-b))(h:∀n,K (iv (a-b)) L n n Z Z):WO E X Γ l (.binOp .sub t x y t2) L K:=WO.bin hx hy (λcc=>by
 show some (Value.int .i64 (pJ .i64 (a-b)))=_;rw[jM,pU hf]) h
theorem WO.mul (hx:Ev l x (iv a))(hy:Ev l y (iv b))(hf:Fit (a*b))(h:∀n,K (iv (a*b)) L n n Z Z):WO E X Γ l (.binOp .mul t x y t2) L K:=WO.bin hx hy (λcc=>by
 show some (Value.int .i64 (pJ .i64 (a*b)))=_;rw[jM,pU hf]) h
theorem WO.quo (hx:Ev l x (iv a))(hy:Ev l y (iv b))(hb:b≠0)(hf:Fit (a.tdiv b))(h:∀n,K (iv (a.tdiv b)) L n n Z Z):WO E X Γ l (.binOp .quo t x y t2) L K:=WO.bin hx hy (λcc=>by
 show bo (xM b (.ofNat 0)) none (some (Value.int .i64 (pJ .i64 (a.tdiv b))))=_;rw[jv,jM,pU hf];have:(b== Int.ofNat 0)=false:=by simpa using hb
 rw[this];rfl) h
theorem WO.rem (hx:Ev l x (iv a))(hy:Ev l y (iv b))(hb:b≠0)(h:∀n,K (iv (a.tmod b)) L n n Z Z):WO E X Γ l (.binOp .rem t x y t2) L K:=WO.bin hx hy (λcc=>by
 show bo (xM b (.ofNat 0)) none (some (Value.int .i64 (a.tmod b)))=_;rw[jv];have:(b== Int.ofNat 0)=false:=by simpa using hb
 rw[this];rfl) h
theorem uv (k:IntKind):pK k k=true:=by cases k<;>rfl
theorem sY {op:BinOp}{r:Value}(hs:isSh op=false)(h:JR op k a b=some r):∀cc,Q7 E op t cc (.int k a) (.int k b)=some r:=λcc=>by
 show bo (isSh op) (shV op k a b) (bo (pK k k) (JR op k a b) none)=_;rw[hs,uv,eG,gw,h]
theorem WO.lss (hx:Ev l x (.int k a))(hy:Ev l y (.int k b))(h:∀n,K (.bool (decide (a<b))) L n n Z Z):WO E X Γ l (.binOp .lss t x y t2) L K:=WO.bin hx hy (sY rfl (by rw[<-rh];rfl)) h
theorem WO.leq (hx:Ev l x (.int k a))(hy:Ev l y (.int k b))(h:∀n,K (.bool (decide (a<=b))) L n n Z Z):WO E X Γ l (.binOp .leq t x y t2) L K:=WO.bin hx hy (sY rfl (by
 show some (Value.bool !(TP b a))=_;rw[rh];congr 2;rw[<-decide_not];simp)) h
theorem WO.gtr (hx:Ev l x (.int k a))(hy:Ev l y (.int k b))(h:∀n,K (.bool (decide (b<a))) L n n Z Z):WO E X Γ l (.binOp .gtr t x y t2) L K:=WO.bin hx hy (sY rfl (by rw[<-rh];rfl)) h
theorem WO.geq (hx:Ev l x (.int k a))(hy:Ev l y (.int k b))(h:∀n,K (.bool (decide (b<=a))) L n n Z Z):WO E X Γ l (.binOp .geq t x y t2) L K:=WO.bin hx hy (sY rfl (by
 show some (Value.bool !(TP a b))=_;rw[rh];congr 2;rw[<-decide_not];simp)) h
theorem WO.eql (hx:Ev l x (.int k a))(hy:Ev l y (.int k b))(h:∀n,K (.bool (decide (a=b))) L n n Z Z):WO E X Γ l (.binOp .eql t x y t2) L K:=WO.bin hx hy (sY rfl (by
 show some (Value.bool (xM a b))=_;rw[jv];congr 2)) h
theorem WO.neq (hx:Ev l x (.int k a))(hy:Ev l y (.int k b))(h:∀n,K (.bool !(decide (a=b))) L n n Z Z):WO E X Γ l (.binOp .neq t x y t2) L K:=WO.bin hx hy (sY rfl (by
 show some (Value.bool !(xM a b))=_;rw[jv];congr 2)) h
end
section
variable {p q:List UInt8}{t2:TypeId}
theorem WO.sadd (hx:Ev l x (sv p))(hy:Ev l y (sv q))(hf:p.length+q.length<=1000000000)(h:∀n,K (sv (p++q)) L n n Z Z):WO E X Γ l (.binOp .add t x y t2) L K:=WO.bin hx hy (λcc=>by
 show eb (Nat.ble (Nat.add (eh p) (eh q)) 1000000000) (some (Value.string ⟨⟨p++q⟩⟩))=_;have:Nat.ble (Nat.add (eh p) (eh q)) 1000000000=true:=gR (by simpa using hf);rw[this];rfl) h
theorem WO.seql (hx:Ev l x (sv p))(hy:Ev l y (sv q))(h:∀n,K (.bool (decide (p=q))) L n n Z Z):WO E X Γ l (.binOp .eql t x y t2) L K:=WO.bin hx hy (λcc=>by
 show some (Value.bool (gv p q))=_;rw[eQ];congr 2;rw[oL];simp) h
theorem WO.sneq (hx:Ev l x (sv p))(hy:Ev l y (sv q))(h:∀n,K (.bool !(decide (p=q))) L n n Z Z):WO E X Γ l (.binOp .neq t x y t2) L K:=WO.bin hx hy (λcc=>by
 show some (Value.bool !(gv p q))=_;rw[eQ];congr 3;rw[oL];simp) h
theorem WO.sgeq (hx:Ev l x (sv p))(hy:Ev l y (sv q))(h:∀n,K (.bool !(Op.bytesLess p q)) L n n Z Z):WO E X Γ l (.binOp .geq t x y t2) L K:=WO.bin hx hy (λcc=>by
 show some (Value.bool !(nV p q))=_;rw[sK]) h
theorem WO.index {i:Nat}[ht:yj E t](hx:Ev l x (sv p)){k:IntKind}(hy:Ev l y (.int k (i:Int)))(hi:i<p.length)(h:∀n,K (bv (p.getD i 0)) L n n Z Z):WO E X Γ l (.index t x y) L K:=WO.val (λtm s call hl=>by
 show HU E s t (aI tm x) (aI tm y)=_;rw[hx.eval hl,hy.eval hl];unfold HU;rw[ht.h];show ob (iR p i) (λc=>aG (.int .u8 (.ofNat c.toNat)) s)=_;rw[dQ,bk hi];simp[aY,bk hi];rfl) h
theorem WO.lenS [ht:yj E t](hx:Ev l x (sv p))(h:∀n,K (iv (p.length:Nat)) L n n Z Z):WO E X Γ l (.call ⟨.builtin .len,⟨[x]⟩,⟨[t]⟩⟩) L K:=WO.val (λtm s call hl=>by
 show xQ E (aI tm) s .len [t] [x]=_;show rJ E s .len [t] (aI tm x)=_;rw[hx.eval hl];show ob (some t) (λt=>ob (Q9 E t (sv p)) λv=>aG v s)=_;simp only[cq];unfold Q9;rw[ht.h];simp[aG]) h
theorem WO.lenR {a:aH}{n c e sz:Nat}[ht:o9 E t e sz](hx:Ev l x (.slice a n c))(h:∀m,K (iv (n:Nat)) L m m Z Z):WO E X Γ l (.call ⟨.builtin .len,⟨[x]⟩,⟨[t]⟩⟩) L K:=WO.val (λtm s call hl=>by
 show xQ E (aI tm) s .len [t] [x]=_;show rJ E s .len [t] (aI tm x)=_;rw[hx.eval hl];show ob (some t) (λt=>ob (Q9 E t (.slice a n c)) λv=>aG v s)=_;simp only[cq];unfold Q9;rw[ht.h.1];simp[aG]) h
theorem WO.Iu {lo hi:Option Operand}{i j:Nat}[ht:yj E t](hx:Ev l x (sv p))(hlo:(lo=none/\i=0)\/∃o k,lo=some o/\Ev l o (.int k (i:Int)))(Yz:(hi=none/\j=p.length)\/∃o k,hi=some o/\Ev l o (.int k (j:Int)))
  (qp:i<=j)(hj:j<=p.length)(h:∀n,K (sv ((p.drop i).take (j-i))) L n n Z Z):WO E X Γ l (.slice t x lo hi none) L K:=WO.val (λtm s call hl=>by
 show j7 E s t (aI tm x) (dz (aI tm) lo) (dz (aI tm) hi) none=_;rw[hx.eval hl];have h1:hiV (eh p) (eh p) (dz (aI tm) hi) none=some j:=by
  rcases Yz with⟨rfl,rfl⟩|⟨o,k,rfl,ho⟩
  .show some (eh p)=_;simp
  .show pd (aI tm o) (eh p)=_;rw[ho.eval hl];show bo (Nat.ble j (eh p)) (some j) none=_;rw[gR (by simpa using hj)];rfl
 have h2:Q8 (dz (aI tm) lo) j 0=some i:=by
  rcases hlo with⟨rfl,rfl⟩|⟨o,k,rfl,ho⟩
  .rfl
  .show pd (aI tm o) j=_;rw[ho.eval hl];show bo (Nat.ble i j) (some i) none=_;rw[gR qp];rfl
 unfold j7;rw[ht.h];show ob (Cd p (dz (aI tm) lo) (dz (aI tm) hi) none) (λv=>aG v s)=_;have h3:Cd p (dz (aI tm) lo) (dz (aI tm) hi) none=some (sv ((p.drop i).take (j-i))):=by
  show ob (some (eh p)) (λm=>ob (hiV (eh p) m (dz (aI tm) hi) none) λh=>ob (Q8 (dz (aI tm) lo) h 0) λl=>some (Value.string ⟨⟨Ul (Nat.sub h l) (Um l p)⟩⟩))=_;simp only[cq,h1,h2];simp
 rw[h3];rfl) h
end
end
inductive yk (x x':It):bn->bn->Prop
 |here {L:bn}:yk x x' (x::L) (x'::L)
 |there {y:It} {L L':bn} (h:yk x x' L L'):yk x x' (y::L) (y::L')
theorem yk.cR {x x':It}{L L':bn}(h:yk x x' L L'):∃R:bn,L.Perm (x::R)/\L'.Perm (x'::R):=by
 induction h with
 |here=>exact⟨_,.refl _,.refl _⟩
 |there h ih=>
  obtain⟨R,h1,h2⟩:=ih;exact⟨_::R,(h1.cons _).trans (.swap _ _ _),(h2.cons _).trans (.swap _ _ _)⟩
section
variable {Γ:gY}{s s':St}{L L' R:bn}
theorem Inv.cR (h:Inv Γ s L)(hp:L.Perm L'):Inv Γ s L':=h.sub ⟨L,hp,Fu _⟩
theorem Inv.js {x:It}(h:Inv Γ s (x::R)):Inv Γ s R:=h.sub ⟨R,.refl _,List.sublist_cons_self _ _⟩
theorem Inv.far {x:It}(h:Inv Γ s (x::R)):∀y∈R,∀b∈y.aS,b∉x.aS:=by
 have:=h.nd;rw[l3,qB] at this;intro y hy b hb hx;exact this.2.2 b hx b (oW.2 ⟨y,hy,hb⟩) rfl
def EF (Γ:gY)(s:St)(b:Nat):Prop:=b<s.next/\(b∈Γ.A\/b∈Γ.M\/Γ.s0.next<=b)
theorem Inv.may {x:It}(h:Inv Γ s L)(hx:x∈L){b:Nat}(hb:b∈x.aS):EF Γ s b:=⟨(h.lt x hx b hb).1,.inr ((h.lt x hx b hb).2.symm)⟩
theorem Inv.aR {b:Nat}(h:Inv Γ s L)(hb:EF Γ s b):Inv Γ (s.aR b) L:=
 h.same (by simp) (by simp) (λi hi=>by
   rw[rM,gG] at hi;rcases hi with hi|rfl
   .exact .inl hi
   .exact .inr hb.2) (λi hi=>by rw[Bw] at hi;exact .inl hi) (λi hi=>by
   rw[rM,gG] at hi;rcases hi with hi|rfl
   .exact .inl hi
   .exact .inr hb.1) (λi hi=>by rw[Bw] at hi;exact .inl hi)
theorem Inv.new {x:It}{o:gh}(h:Inv Γ s L)(hx:x.ok (s.new o))(hb:x.aS=[s.next]):Inv Γ (s.new o) (x::L):=by
 refine⟨λb h1 h2=>?_,by rw[lH];have:=h.le;omega,?_,?_,?_,?_,?_,?_,?_⟩
 .rw[Bx,if_neg (by have:=h.le;omega)];exact h.fr b h1 h2
 .intro y hy;rcases bV.1 hy with rfl|hy
  .exact hx
  .refine It.yi (h.it y hy) λb hb=>?_
   rw[Bx,if_neg (by have:=(h.lt y hy b hb).1;omega)]
 .intro y hy b kX;rw[lH];rcases bV.1 hy with rfl|hy
  .rw[hb] at kX;simp at kX;subst kX;exact⟨af,.inl h.le⟩
  .have:=h.lt y hy b kX;exact⟨af,this.2⟩
 .rw[l3,hb,tw,vN];refine⟨λhm=>?_,h.nd⟩;obtain⟨y,hy,kX⟩:=oW.1 hm;have:=(h.lt y hy _ kX).1;omega
 .intro b kX;rw[xX,gG] at kX;rcases kX with kX|rfl
  .exact h.cM b kX
  .exact .inr (.inr (.inr h.le))
 .intro b kX;rw[wD,gG] at kX;rcases kX with kX|rfl
  .exact h.wr b kX
  .exact .inr (.inr h.le)
 .intro b kX;rw[xX,gG] at kX;rw[lH];rcases kX with kX|rfl
  .rcases h.top b kX with h|h
   .exact .inl h
   .exact .inr af
  .exact .inr af
 .intro b kX;rw[wD,gG] at kX;rw[lH];rcases kX with kX|rfl
  .rcases h.CG b kX with h|h
   .exact .inl h
   .exact .inr af
  .exact .inr af
theorem Inv.put {x x':It}{b:Nat}{o:Option gh}(h:Inv Γ s L)(hu:yk x x' L L')(hb:x.aS=[b])(kX:x'.aS=[b])(hx:x'.ok (s.put b o)):Inv Γ (s.put b o) L':=by
 obtain⟨R,h1,h2⟩:=hu.cR;have hR:=h.cR h1;have lg:=hR.lt x (by simp) b (by simp[hb]);refine Inv.cR (L:=x'::R) ?_ h2.symm;refine⟨λc h3 h4=>?_,by rw[dY];exact h.le,?_,?_,?_,?_,?_,?_,?_⟩
 .rw[qE,if_neg]
  .exact h.fr c h3 h4
  .rintro rfl;rcases lg.2 with h5|h5
   .omega
   .exact h4 h5
 .intro y hy;rcases bV.1 hy with rfl|hy
  .exact hx
  .refine It.yi (hR.it y (by simp[hy])) λc hc=>?_
   rw[qE,if_neg];rintro rfl;exact hR.far y hy c hc (by simp[hb])
 .intro y hy c hc;rw[dY];rcases bV.1 hy with rfl|hy
  .rw[kX] at hc;simp at hc;subst hc;exact lg
  .exact hR.lt y (by simp[hy]) c hc
 .have:=hR.nd;rw[l3,hb] at this;rw[l3,kX];exact this
 .intro c hc;rw[qF,gG] at hc;rcases hc with hc|rfl
  .exact h.cM c hc
  .exact .inr (.inr lg.2.symm)
 .intro c hc;rw[sI,gG] at hc;rcases hc with hc|rfl
  .exact h.wr c hc
  .exact .inr lg.2.symm
 .intro c hc;rw[qF,gG] at hc;rw[dY];rcases hc with hc|rfl
  .exact h.top c hc
  .exact .inr lg.1
 .intro c hc;rw[sI,gG] at hc;rw[dY];rcases hc with hc|rfl
  .exact h.CG c hc
  .exact .inr lg.1
theorem Inv.kill {x:It}{b:Nat}{o:Option gh}(h:Inv Γ s (x::R))(hb:x.aS=[b]):Inv Γ (s.put b o) R:=by
 have lg:=h.lt x (by simp) b (by simp[hb]);have hR:=h.js;refine⟨λc h3 h4=>?_,by rw[dY];exact h.le,λy hy=>It.yi (hR.it y hy) λc hc=>?_,λy hy c hc=>by rw[dY];exact hR.lt y hy c hc,hR.nd,?_,?_,?_,?_⟩
 .rw[qE,if_neg]
  .exact h.fr c h3 h4
  .rintro rfl;rcases lg.2 with h5|h5
   .omega
   .exact h4 h5
 .rw[qE,if_neg];rintro rfl;exact h.far y hy c hc (by simp[hb])
 .intro c hc;rw[qF,gG] at hc;rcases hc with hc|rfl
  .exact h.cM c hc
  .exact .inr (.inr lg.2.symm)
 .intro c hc;rw[sI,gG] at hc;rcases hc with hc|rfl
  .exact h.wr c hc
  .exact .inr lg.2.symm
 .intro c hc;rw[qF,gG] at hc;rw[dY];rcases hc with hc|rfl
  .exact h.top c hc
  .exact .inr lg.1
 .intro c hc;rw[sI,gG] at hc;rw[dY];rcases hc with hc|rfl
  .exact h.CG c hc
  .exact .inr lg.1
end
structure Rd (Γ:gY)(a:aH)(n sz:Nat)(cs:aQ):Prop where
 row:bM Γ.s0 a n sz cs
 A:∀b∈ai a,b∈Γ.A
 M:∀b∈ai a,b∉Γ.M
inductive jR (Γ:gY)(L:bn)(a:aH)(n sz:Nat)(cs:aQ):Prop
 |rd (h:Rd Γ a n sz cs):jR Γ L a n sz cs
 |aJ {c e:Nat} (h:It.aJ (.slice a n c) e sz cs∈L):jR Γ L a n sz cs
 |box {b t:Nat} {w:Bool} (h:It.box b cs t w∈L) (ha:a=some ⟨b,0,none⟩) (hn:cs.length=n*sz):jR Γ L a n sz cs
 |sub {c e n0:Nat} {a0:aH} {cs0:aQ} (h:It.aJ (.slice a0 n0 c) e sz cs0∈L) (hr:∀s,bM s a0 n0 sz cs0->bM s a n sz cs) (hb:∀b∈ai a,b∈ai a0):jR Γ L a n sz cs
section
variable {E:dy}{X:dM}{Γ:gY}{l:Kn}{L L':bn}{K:KO}{x y:Operand}{v u:Value}{t:TypeId}{s:St}{a:aH}{n sz:Nat}{cs:aQ}
theorem yh.row {e c:Nat}(h:yh s (.slice a n c) e sz cs)(hb:∀b∈ai a,b<s.next):bM s a n sz cs:=by
 rcases h with⟨h1,rfl⟩|⟨b,m,k,w,h1,h2,h3,h4⟩
 .cases h1;exact⟨by simp,.inl ⟨rfl,.inl rfl⟩⟩
 .cases h1;exact⟨h3,.inr ⟨b,0,cs,e,w,rfl,hb b (by simp[ai]),h2,by rw[<-h3];simp⟩⟩
theorem jR.row (h:jR Γ L a n sz cs)(hi:Inv Γ s L):bM s a n sz cs/\∀b∈ai a,EF Γ s b:=by
 cases h with
 |rd h=>
  obtain⟨h1,h2⟩:=h.row;rcases h2 with⟨rfl,rfl|⟨b,o,q,rfl,h3⟩⟩|⟨b,o,c,e,w,rfl,h3,h4,h5⟩
  .exact⟨⟨h1,.inl ⟨rfl,.inl rfl⟩⟩,by simp[ai]⟩
  .have:=hi.le;refine⟨⟨h1,.inl ⟨rfl,.inr ⟨b,o,q,rfl,af⟩⟩⟩,λi hb=>?_⟩;have hib:i=b:=by simpa[ai] using hb
   subst hib;exact⟨af,.inl (h.A i hb)⟩
  .have:=hi.le;refine⟨⟨h1,.inr ⟨b,o,c,e,w,rfl,af,?_,h5⟩⟩,λi hb=>?_⟩
   .rw[hi.fr b h3 (h.M b (by simp[ai]))];exact h4
   .have hib:i=b:=by simpa[ai] using hb
    subst hib;exact⟨af,.inl (h.A i hb)⟩
 |aJ h=>
  have h1:∀b∈ai a,EF Γ s b:=λb hb=>hi.may h (by
   cases a with
   |none=>simp[ai] at hb
   |some a=>simpa[It.aS,mN,ai] using hb)
  exact⟨yh.row (hi.it _ h) λb hb=>(h1 b hb).1,h1⟩
 |sub h hr hb=>
  rename_i c e n0 a0 cs0;have h1:∀b∈ai a0,EF Γ s b:=λb hb=>hi.may h (by
   cases a0 with
   |none=>simp[ai] at hb
   |some a=>simpa[It.aS,mN,ai] using hb)
  exact⟨hr s (yh.row (hi.it _ h) λb hb=>(h1 b hb).1),λb kX=>h1 b (hb b kX)⟩
 |box h ha hn=>
  rename_i b t w;subst ha;have h1:=hi.may h (b:=b) (by simp[It.aS]);refine⟨⟨hn,.inr ⟨b,0,cs,t,w,rfl,h1.1,hi.it _ h,by rw[<-hn];simp⟩⟩,λi fG=>?_⟩;have:i=b:=by simpa[ai] using fG
  subst this;exact h1
theorem cW {s:St}{b:Nat}{R W:Fp}(hb:b<s.next)(hR:R b):kx s (s.aR b) R W:=⟨by simp,λi hi=>by
  rw[rM,gG] at hi;rw[cw];rcases hi with hi|rfl
  .exact .inl hi
  .exact .inr ⟨hR,hb⟩,λi hi=>by rw[Bw] at hi;exact .inl hi⟩
theorem sZ {b off:Nat}{c:aQ}{e:TypeId}{w:Bool}[ht:ny E t](hb:s.heap.get b=some (.cells c e w))(hv:c[off]?=some v):l6 E s t b off=some (v,s.aR b):=by
 obtain⟨d,h1,h2⟩:=ht.h;unfold l6 St.JQ St.look;rw[hb];simp only[cq,h1,h2,eG,dQ,hv]
theorem vd {b off m:Nat}{c:aQ}{e:TypeId}{w:Bool}{r:aQ}[ht:vG E t m](hb:s.heap.get b=some (.cells c e w))(hv:iD m (dX off c)=some r):l6 E s t b off=some (.agg ⟨r⟩,s.aR b):=by
 obtain⟨d,h1,h2,h3⟩:=ht.h;unfold l6 St.JQ St.look;rw[hb];simp only[cq,h1,h2,gw,h3,hv]
theorem WO.reads {o:Op}{b:Nat}(hi:∀s,Inv Γ s L->EF Γ s b)(h:∀tm s (call:dJ),mu l tm->Inv Γ s L->EA E call (aI tm) s o=some (v,s.aR b))(k:∀n,K v L n n (λi=>i=b) Z):WO E X Γ l o L K:=λtm s h1 h2=>
 fS.pure (λcall=>h tm s call h1 h2) ⟨L,(λi=>i=b),Z,h2.aR (hi s h2),cW (hi s h2).1 rfl,by rw[cw];exact k _⟩
theorem WO.load {b off:Nat}{e:TypeId}{w:Bool}[ht:ny E t](hx:Ev l x (.pointer (some ⟨b,off,none⟩)))(hm:It.box b cs e w∈L)(hv:iR cs off=some v)(k:∀n,K v L n n (λi=>i=b) Z):WO E X Γ l (.load t x) L K:=
 WO.reads (λs hi=>hi.may hm (by simp[It.aS])) (λtm s call hl hi=>by
   show(Ez (aI tm x) λb o=>l6 E s t b o)=_;rw[hx.eval hl];exact sZ (hi.it _ hm) (by rw[<-dQ];exact hv)) k
theorem WO.loadA {b off m:Nat}{e:TypeId}{w:Bool}{r:aQ}[ht:vG E t m](hx:Ev l x (.pointer (some ⟨b,off,none⟩)))(hm:It.box b cs e w∈L)(hv:iD m (dX off cs)=some r)(k:∀n,K (.agg ⟨r⟩) L n n (λi=>i=b) Z):WO E X Γ l (.load t x) L K:=
 WO.reads (λs hi=>hi.may hm (by simp[It.aS])) (λtm s call hl hi=>by
   show(Ez (aI tm x) λb o=>l6 E s t b o)=_;rw[hx.eval hl];exact vd (hi.it _ hm) hv) k
class c9 (α:Type)(sz:outParam Nat) where
 cells:α->aQ
 lW:α
 len:∀x,(cells x).length=sz
 fl:∀x,∀v∈cells x,flat v=true
 pos:1<=sz
def ah {α:Type}{sz:Nat}[c9 α sz](l:List α):aQ:=l.flatMap (c9.cells (sz:=sz))
section
variable {α:Type}[c9 α sz]
theorem qP (p q:List α):ah (sz:=sz) (p++q)=ah (sz:=sz) p++ah (sz:=sz) q:=by simp[ah]
theorem dG (p:α)(q:List α):ah (sz:=sz) (p::q)=c9.cells (sz:=sz) p++ah (sz:=sz) q:=by simp[ah]
theorem bc (p:List α):(ah (sz:=sz) p).length=p.length*sz:=by
 induction p with
 |nil=>simp[ah]
 |cons x p ih=>rw[dG,bR,ih,c9.len];simp[mq,Nat.add_comm]
theorem zN (p:List α):∀v∈ah (sz:=sz) p,flat v=true:=by
 intro v hv;obtain⟨x,_,h⟩:=oW.1 hv;exact c9.fl x v h
theorem rY (p:List α)(i:Nat):(ah (sz:=sz) p).drop (i*sz)=ah (sz:=sz) (p.drop i):=by
 induction p generalizing i with
 |nil=>simp[ah]
 |cons x p ih=>
  cases i with
  |zero=>simp
  |succ i=>
   rw[dG,List.drop_succ_cons,<-ih,List.drop_append,c9.len];have:(i+1)*sz=sz+i*sz:=by rw[mq];omega
   rw[this];simp[c9.len]
theorem pw (p:List α)(i:Nat):(ah (sz:=sz) p).take (i*sz)=ah (sz:=sz) (p.take i):=by
 induction p generalizing i with
 |nil=>simp[ah]
 |cons x p ih=>
  cases i with
  |zero=>simp[ah]
  |succ i=>
   rw[dG,x_5,dG,<-ih,B2,c9.len];have:(i+1)*sz=sz+i*sz:=by rw[mq];omega
   rw[this,Nat.add_sub_cancel_left,q9 (by rw[c9.len];omega)]
theorem PO (p:List α){i:Nat}(hi:i<p.length):∃q r,ah (sz:=sz) p=q++(c9.cells (sz:=sz) (p.getD i (c9.lW (sz:=sz)))++r)/\q.length=i*sz:=by
 refine⟨ah (sz:=sz) (p.take i),ah (sz:=sz) (p.drop (i+1)),?_,?_⟩
 .have h:p=p.take i++(p.getD i (c9.lW (sz:=sz))::p.drop (i+1)):=by
   rw[aY,bk hi];simp
  conv=>lhs;rw[h]
  rw[qP,dG]
 .rw[bc,dg,Ba (rE hi)]
theorem Vh (p:List α){i j:Nat}(hi:i<p.length)(hv:iR (c9.cells (sz:=sz) (p.getD i (c9.lW (sz:=sz)))) j=some v):(ah (sz:=sz) p)[i*sz+j]?=some v:=by
 obtain⟨q,r,h1,h2⟩:=PO (sz:=sz) p hi;rw[dQ] at hv;have hj:j<(c9.cells (sz:=sz) (p.getD i (c9.lW (sz:=sz)))).length:=(tL.1 hv).1;rw[h1,zu af,h2,Nat.add_sub_cancel_left,wq hj,hv]
theorem Vi (p:List α){i:Nat}(hi:i<p.length):iD sz (dX (i*sz+0) (ah (sz:=sz) p))=some (c9.cells (sz:=sz) (p.getD i (c9.lW (sz:=sz)))):=by
 obtain⟨q,r,h1,h2⟩:=PO (sz:=sz) p hi;rw[pL,xU,h1,wo,<-h2,List.drop_left,if_pos (by rw[bR,c9.len];omega),B2,c9.len,q9 (by rw[c9.len];omega)];simp
end
section
variable {α:Type}{enc:c9 α sz}
theorem bM.at_ {p:List α}(h:bM s a n sz (ah (sz:=sz) p)){i:Nat}(hi:i<p.length):∃b o c e w,a=some ⟨b,o,none⟩/\b<s.next/\s.heap.get b=some (.cells c e w)/\(c.drop o).take (n*sz)=ah (sz:=sz) p/\n=p.length:=by
 have hn:n=p.length:=by
  have h1:=h.1;rw[bc] at h1;exact(Nat.eq_of_mul_eq_mul_right (c9.pos (α:=α) (sz:=sz)) h1).symm
 rcases h.2 with⟨h0,_⟩|⟨b,o,c,e,w,rfl,h1,h2,h3⟩
 .omega
 .exact⟨b,o,c,e,w,rfl,h1,h2,h3,hn⟩
theorem AF {c cs:aQ}{o m k:Nat}(h:(c.drop o).take m=cs)(hv:cs[k]?=some v):c[o+k]?=some v:=by
 have hk:k<cs.length:=(tL.1 hv).1;rw[<-h,Jy] at hv;split at hv
 .rw[xF] at hv;exact hv
 .cases hv
theorem v8 {c cs r:aQ}{o m k sz:Nat}(h:(c.drop o).take m=cs)(hv:iD sz (dX k cs)=some r):iD sz (dX (o+k) c)=some r:=by
 obtain⟨h1,h2⟩:=kC hv;rw[pL] at h1 h2⊢;subst h2;rw[xU];rw[<-h,gp,dg,gp] at h1;have h3:sz<=(c.drop (o+k)).length:=by rw[gp];omega
 rw[if_pos h3]
 congr 1
 rw[<-h,List.drop_take,lZ,M5,Ba af]
theorem WO.loadE {p:List α}{i j:Nat}[ht:ny E t](hx:Ev l x (da a i sz j))(hh:jR Γ L a n sz (ah (sz:=sz) p))(hi:i<p.length)(hv:iR (c9.cells (sz:=sz) (p.getD i (c9.lW (sz:=sz)))) j=some v)(k:∀n,K v L n n (λi=>i∈ai a) Z):WO E X Γ l (.load t x) L K:=λtm s h1 h2=>by
 obtain⟨hr,hm⟩:=hh.row h2;obtain⟨b,o,c,e,w,rfl,h3,h4,h5,h6⟩:=hr.at_ hi;refine fS.pure (v:=v) (s':=s.aR b) (λcall=>?_) ⟨L,(λi=>i∈ai (some ⟨b,o,none⟩)),Z,h2.aR (hm b (by simp[ai])),cW h3 (by simp[ai]),by rw[cw];exact k _⟩
 .show(Ez (aI tm x) λb o=>l6 E s t b o)=_;rw[hx.eval h1];exact sZ h4 (AF h5 (Vh p hi hv))
theorem WO.loadEA {p:List α}{i:Nat}[ht:vG E t sz](hx:Ev l x (da a i sz 0))(hh:jR Γ L a n sz (ah (sz:=sz) p))(hi:i<p.length)(k:∀n,K (.agg ⟨c9.cells (sz:=sz) (p.getD i (c9.lW (sz:=sz)))⟩) L n n (λi=>i∈ai a) Z):WO E X Γ l (.load t x) L K:=λtm s h1 h2=>by
 obtain⟨hr,hm⟩:=hh.row h2;obtain⟨b,o,c,e,w,rfl,h3,h4,h5,h6⟩:=hr.at_ hi;refine fS.pure (v:=.agg ⟨c9.cells (sz:=sz) (p.getD i (c9.lW (sz:=sz)))⟩) (s':=s.aR b) (λcall=>?_) ⟨L,(λi=>i∈ai (some ⟨b,o,none⟩)),Z,h2.aR (hm b (by simp[ai])),cW h3 (by simp[ai]),by rw[cw];exact k _⟩
 .show(Ez (aI tm x) λb o=>l6 E s t b o)=_;rw[hx.eval h1];exact vd h4 (v8 h5 (Vi p hi))
theorem WO.indexAddr {p:List α}{i c e:Nat}{k:IntKind}[ht:o9 E t e sz](hx:Ev l x (.slice a n c))(hy:Ev l y (.int k (i:Int)))(hh:jR Γ L a n sz (ah (sz:=sz) p))(hi:i<p.length)(hk:∀n,K (da a i sz 0) L n n Z Z):WO E X Γ l (.indexAddr t x y) L K:=λtm s h1 h2=>by
 obtain⟨hr,hm⟩:=hh.row h2;obtain⟨b,o,cc,e',w,rfl,h3,h4,h5,h6⟩:=hr.at_ hi;obtain⟨hu,z1,z2,hz,hz2,_⟩:=ht.h;refine fS.pure (v:=da (some ⟨b,o,none⟩) i sz 0) (s':=s) (λcall=>?_) ⟨L,Z,Z,h2,kx.id,hk _⟩;show nD E s t (aI tm x) (aI tm y)=_;rw[hx.eval h1,hy.eval h1];unfold nD;rw[hu];show eb (Nat.ble (Nat.succ i) n) (ob (size E e) λsz=>aG (.pointer (some ⟨b,Nat.add o (Nat.mul i sz),none⟩)) s)=_;have hs:size E e=some sz:=by unfold size;rw[hz];simp[hz2]
 rw[gR af,hs];rfl
end
theorem WO.fieldAddr {b o i off:Nat}[ht:ix E t i off](hx:Ev l x (.pointer (some ⟨b,o,none⟩)))(k:∀n,K (.pointer (some ⟨b,o+off,none⟩)) L n n Z Z):WO E X Γ l (.fieldAddr t x i) L K:=WO.val (λtm s call hl=>by
 obtain⟨fs,f,sz,h1,h2,h3,h4,h5⟩:=ht.h;show nC E s t (aI tm x) i=_;rw[hx.eval hl];unfold nC;rw[h1];simp only[cq,dQ,h2,h3,gR h4];show aG (.pointer (some ⟨b,Nat.add o f.offset,none⟩)) s=_;rw[h5];rfl) k
theorem WO.ND {α:Type}{enc:c9 α sz}{p:List α}{i j f off:Nat}[ht:ix E t f off](hx:Ev l x (da a i sz j))(hh:jR Γ L a n sz (ah (sz:=sz) p))(hi:i<p.length)(k:∀n,K (da a i sz (j+off)) L n n Z Z):WO E X Γ l (.fieldAddr t x f) L K:=λtm s hl h2=>by
 obtain⟨fs,f,RO,h1,MZ,h3,h4,h5⟩:=ht.h;obtain⟨b,o,_,_,_,rfl,_⟩:=(hh.row h2).1.at_ hi;refine fS.pure (v:=da (some ⟨b,o,none⟩) i sz (j+off)) (s':=s) (λcall=>?_) ⟨L,Z,Z,h2,kx.id,k _⟩;show nC E s t (aI tm x) _=_;rw[hx.eval hl];unfold nC;rw[h1];simp only[cq,dQ,MZ,h3,gR h4];show aG (.pointer (some ⟨b,Nat.add (o+(i*sz+j)) f.offset,none⟩)) s=_;rw[h5];show aG _ _=some (da _ _ _ _,_);unfold da aG
 congr 5
 show o+(i*sz+j)+off=_;omega
end
class lX (E:dy)(t:TypeId)(pl:outParam (List (Nat×Nat)))(z:outParam (aQ)):Prop where
 h:∃fs v,iQ E t=some (.struct ⟨fs⟩)/\places E fs=some pl/\zero E t=some v/\bW v=z
class tQ (E:dy)(t:TypeId)(e sz:outParam Nat)(z:outParam (aQ)):Prop where
 h:iQ E t=some (.slice e)/\∃i v,E.ty.get e=some i/\i.size=sz/\i.zero=some v/\bW v=z/\z.length=sz/\1<=sz/\i.bytes<=1000000
inductive NF (x:It):bn->bn->Prop
 |here {L:bn}:NF x (x::L) L
 |there {y:It} {L R:bn} (h:NF x L R):NF x (y::L) (y::R)
theorem NF.cR {x:It}{L R:bn}(h:NF x L R):L.Perm (x::R):=by
 induction h with
 |here=>exact .refl _
 |there h ih=>exact(ih.cons _).trans (.swap _ _ _)
section
variable {E:dy}{X:dM}{Γ:gY}{l:Kn}{L L' R:bn}{K:KO}{x y:Operand}{v u:Value}{t:TypeId}{s s':St}{a:aH}{n sz:Nat}{cs:aQ}
def kb (L:bn)(b:Nat):Prop:=∀y∈L,∀i∈y.aS,i<b
theorem Inv.old (h:Inv Γ s L):kb L s.next:=λy hy i hi=>(h.lt y hy i hi).1
theorem uw {s:St}{o:gh}{R W:Fp}(hR:R s.next)(hW:W s.next):kx s (s.new o) R W:=⟨by simp,λi hi=>by
  rw[xX,gG] at hi;rw[lH];rcases hi with hi|rfl
  .exact .inl hi
  .exact .inr ⟨hR,af⟩,λi hi=>by
  rw[wD,gG] at hi;rw[lH];rcases hi with hi|rfl
  .exact .inl hi
  .exact .inr ⟨hW,af⟩⟩
theorem jS {s:St}{b:Nat}{o:Option gh}{R W:Fp}(hb:b<s.next)(hR:R b)(hW:W b):kx s (s.put b o) R W:=⟨by simp,λi hi=>by
  rw[qF,gG] at hi;rw[dY];rcases hi with hi|rfl
  .exact .inl hi
  .exact .inr ⟨hR,hb⟩,λi hi=>by
  rw[sI,gG] at hi;rw[dY];rcases hi with hi|rfl
  .exact .inl hi
  .exact .inr ⟨hW,hb⟩⟩
theorem kx.trans {s s1 s2:St}{R W:Fp}(h:kx s s1 R W)(k:kx s1 s2 R W):kx s s2 R W:=⟨ku h.nx k.nx,λi hi=>by
  rcases k.cM i hi with h1|h1
  .rcases h.cM i h1 with h2|h2
   .exact .inl h2
   .exact .inr ⟨h2.1,A9 h2.2 k.nx⟩
  .exact .inr h1,λi hi=>by
  rcases k.wr i hi with h1|h1
  .rcases h.wr i h1 with h2|h2
   .exact .inl h2
   .exact .inr ⟨h2.1,A9 h2.2 k.nx⟩
  .exact .inr h1⟩
theorem WO.news {o:Op}{ob:Nat->gh}{mk:Nat->Value}{it:Nat->It}(h:∀tm s (call:dJ),mu l tm->Inv Γ s L->EA E call (aI tm) s o=some (mk s.next,s.new (ob s.next)))
  (fZ:∀s b,s.heap.get b=some (ob b)->(it b).ok s)(hb:∀b,(it b).aS=[b])(k:∀b,kb L b->K (mk b) (it b::L) b (b+1) (λi=>i=b) (λi=>i=b)):WO E X Γ l o L K:=λtm s h1 h2=>
 fS.pure (λcall=>h tm s call h1 h2) ⟨it s.next::L,(λi=>i=s.next),(λi=>i=s.next),h2.new (fZ _ _ (by simp)) (hb _),uw rfl rfl,by rw[lH];exact k _ h2.old⟩
theorem WO.boxA {cs:aQ}(hx:Ev l x (.agg ⟨cs⟩))(k:∀b,kb L b->K (.pointer (some ⟨b,0,none⟩)) (.box b cs t false::L) b (b+1) (λi=>i=b) (λi=>i=b)):WO E X Γ l (.box t x) L K:=
 WO.news (mk:=λb=>.pointer (some ⟨b,0,none⟩)) (ob:=λ_=>.cells cs t false) (it:=λb=>.box b cs t false) (λtm s call hl _=>by
   show Na s (bW (aI tm x)) t=_;rw[hx.eval hl];rfl) (λs b h=>h) (λb=>rfl) k
theorem WO.boxS (hx:Ev l x v)(hv:bW v=[v])(k:∀b,kb L b->K (.pointer (some ⟨b,0,none⟩)) (.box b [v] t false::L) b (b+1) (λi=>i=b) (λi=>i=b)):WO E X Γ l (.box t x) L K:=
 WO.news (mk:=λb=>.pointer (some ⟨b,0,none⟩)) (ob:=λ_=>.cells [v] t false) (it:=λb=>.box b [v] t false) (λtm s call hl _=>by
   show Na s (bW (aI tm x)) t=_;rw[hx.eval hl,hv];rfl) (λs b h=>h) (λb=>rfl) k
theorem WO.alloc {z:aQ}[ht:rX E t z](k:∀b,kb L b->K (.pointer (some ⟨b,0,none⟩)) (.box b z t false::L) b (b+1) (λi=>i=b) (λi=>i=b)):WO E X Γ l (.alloc t) L K:=
 WO.news (mk:=λb=>.pointer (some ⟨b,0,none⟩)) (ob:=λ_=>.cells z t false) (it:=λb=>.box b z t false) (λtm s call hl _=>by
   obtain⟨v,h1,h2⟩:=ht.h;show HR E s t=_;unfold HR;rw[h1];show Na s (bW v) t=_;rw[h2];rfl) (λs b h=>h) (λb=>rfl) k
inductive RP (l:Kn):List (Nat×Operand)->List (Nat×Value)->Prop
 |nil:RP l [] []
 |cons {i:Nat} {x:Operand} {v:Value} {ps:List (Nat×Operand)} {vs:List (Nat×Value)} (h:Ev l x v) (k:RP l ps vs):RP l ((i,x)::ps) ((i,v)::vs)
theorem RP.eval {ps:List (Nat×Operand)}{vs:List (Nat×Value)}{tm:Tm}(h:RP l ps vs)(hl:mu l tm):sD (aI tm) ps=vs:=by
 induction h with
 |nil=>rfl
 |cons h _ ih=>
  show(_,aI tm _)::sD (aI tm) _=_;rw[ih,h.eval hl]
theorem WO.build {ps:List (Nat×Operand)}{vs:List (Nat×Value)}{pl:List (Nat×Nat)}{z:aQ}[ht:lX E t pl z](hp:RP l ps vs)(hf:rH (iR pl) vs z=some cs)(k:∀n,K (.agg ⟨cs⟩) L n n Z Z):WO E X Γ l (.build t ⟨ps⟩) L K:=WO.val (λtm s call hl=>by
 obtain⟨fs,v,h1,h2,h3,h4⟩:=ht.h;show HS E (aI tm) s t ps=_;unfold HS;rw[h3,h1];simp only[cq,h2,hp.eval hl,h4,hf];rfl) k
theorem WO.buildSlice {m:Nat}{ps:List (Nat×Operand)}{vs:List (Nat×Value)}{e:Nat}{z:aQ}[ht:tQ E t e sz z](hm:Nat.ble (Nat.mul m sz) 16777216=true)(hp:RP l ps vs)(hf:rH (oh sz) vs (lF z m)=some cs)(hc:cs.length=m*sz)
  (k:∀b,kb L b->K (.slice (some ⟨b,0,none⟩) m m) (.aJ (.slice (some ⟨b,0,none⟩) m m) e sz cs::L) b (b+1) (λi=>i=b) (λi=>i=b)):WO E X Γ l (.buildSlice t m ⟨ps⟩) L K:=
 WO.news (mk:=λb=>.slice (some ⟨b,0,none⟩) m m) (ob:=λ_=>.cells cs e false) (it:=λb=>.aJ (.slice (some ⟨b,0,none⟩) m m) e sz cs) (λtm s call hl _=>by
   obtain⟨h1,i,v,h2,h3,h4,h5,h6,h7,h8⟩:=ht.h;show tY E (aI tm) s t m ps=_;have hs:size E e=some sz:=by unfold size;rw[h2];simp[h3]
   have hz:zero E e=some v:=by unfold zero;rw[h2];simp[h4]
   show ob (some t) (λt=>ob (iQ E t) λd=>match d with
    |.slice e=>ob (size E e) λsz=>ob (zero E e) λz=>eb (Nat.beq (eh (bW z)) sz&&Nat.ble (nat_lit 1) sz&&Nat.ble (Nat.mul m sz) (nat_lit 16777216))<| ob (rH (oh sz) (sD (aI tm) ps) (lF (bW z) m)) λcs=>aG (.slice (some ⟨s.next,nat_lit 0,none⟩) m m) (s.new (.cells cs e false))
    |_=>none)=_
   simp only[cq,h1,hs,hz,h5,hp.eval hl,hf,hm,dm,h6,gR h7,lz,JG];rfl) (λs b h=>.inr ⟨b,m,m,false,rfl,h,hc,.inl ⟨rfl,by
    have h1:=qq hm;obtain⟨_,i,v,_,_,_,_,_,h7,_⟩:=ht.h;have h2:m<=m*sz:=Uc _ h7;have h3:m<=16777216:=ku h2 h1;show m<9223372036854775808;omega⟩⟩) (λb=>rfl) k
theorem CH {α:Type}[c9 α sz](x:α)(n:Nat):lF (c9.cells (sz:=sz) x) n=ah (sz:=sz) (List.replicate n x):=by
 induction n with
 |zero=>rfl
 |succ n ih=>
  rw[List.replicate_succ,dG,<-ih];rfl
theorem WO.makeSlice {α:Type}[c9 α sz]{d:α}{m e:Nat}{k1 k2:IntKind}{z:aQ}[ht:tQ E t e sz z](hd:c9.cells (sz:=sz) d=z)(hx:Ev l x (.int k1 (m:Int)))(hy:Ev l y (.int k2 (m:Int)))(hm:m<=1000000)
  (k:∀b,kb L b->K (.slice (some ⟨b,0,none⟩) m m) (.aJ (.slice (some ⟨b,0,none⟩) m m) e sz (ah (sz:=sz) (List.replicate m d))::L) b (b+1) (λi=>i=b) (λi=>i=b)):WO E X Γ l (.makeSlice t x y) L K:=
 WO.news (mk:=λb=>.slice (some ⟨b,0,none⟩) m m) (ob:=λ_=>.cells (ah (sz:=sz) (List.replicate m d)) e false) (it:=λb=>.aJ (.slice (some ⟨b,0,none⟩) m m) e sz (ah (sz:=sz) (List.replicate m d))) (λtm s call hl _=>by
   obtain⟨h1,i,v,h2,h3,h4,h5,h6,h7,h8⟩:=ht.h;show wz E s t (aI tm x) (aI tm y)=_;rw[hx.eval hl,hy.eval hl];show ob (some t) (λt=>ob (iQ E t) λd=>match d with
    |.slice e=>ob (E.ty.get e) λi=>ob i.zero λz=>eb (Nat.ble m m&&Nat.ble m (nat_lit 1000000)&&Nat.ble i.bytes (nat_lit 1000000)&&Nat.beq (eh (bW z)) i.size&&Nat.ble (nat_lit 1) i.size)<| aG (.slice (some ⟨s.next,nat_lit 0,none⟩) m m) (s.new (.cells (lF (bW z) m) e false))
    |_=>none)=_
   simp only[cq,h1,h2,h4,h5,h3,dm,h6,gR h7,gR hm,gR h8,gR (cy m),lz,JG];rw[<-hd,CH];rfl) (λs b h=>.inr ⟨b,m,m,false,rfl,h,bc _|>.trans (by simp),.inl ⟨rfl,by show m<9223372036854775808;omega⟩⟩) (λb=>rfl) k
theorem WO.store {b off m:Nat}{cs cs':aQ}{e:TypeId}{w:Bool}[ht:iG E t m](hx:Ev l x (.pointer (some ⟨b,off,none⟩)))(hy:Ev l y v)(hc:Nat.beq (eh (bW v)) m=true)(hf:jj (bW v)=true)
  (hu:yk (.box b cs e w) (.box b cs' e w) L L')(hp:fO off (bW v) cs=some cs')(k:∀n,K (.tuple ⟨[]⟩) L' n n (λi=>i=b) (λi=>i=b)):WO E X Γ l (.store t x y) L K:=λtm s h1 h2=>by
 obtain⟨R,p1,p2⟩:=hu.cR;have hm:It.box b cs e w∈L:=p1.mem_iff.2 (by simp);have hg:s.heap.get b=some (.cells cs e w):=h2.it _ hm;have dA:=(h2.may hm (b:=b) (by simp[It.aS]));have hr:=h2.aR dA;refine fS.pure (v:=.tuple ⟨[]⟩) (s':=(s.aR b).put b (some (.cells cs' e w))) (λcall=>?_) ⟨L',(λi=>i=b),(λi=>i=b),hr.put hu rfl rfl (by show T.get (St.heap _) b=_;simp),(kx.trans (cW dA.1 rfl) (jS (by simpa using dA.1) rfl rfl)),by rw[dY,cw];exact k _⟩
 .show(Ez (aI tm x) λb o=>mI E s t b o (aI tm y))=_;rw[hx.eval h1,hy.eval h1];show mI E s t b off v=_;unfold mI St.row St.look;rw[hg];simp only[cq,ht.h,hc,hf,hp];rfl
theorem AG (h:flat v=true):bW v=[v]:=by cases v<;>first|rfl|cases h
theorem zO (v:Value):∀(i:Nat)(cs:aQ),i<cs.length->fO i [v] cs=some (cs.set i v)
 |_,[],h=>by simp at h
 |0,z::zs,_=>rfl
 |i+1,z::zs,h=>by
  show ob (fO i [v] zs) (λr=>some (z::r))=_;rw[zO v i zs (by simpa using h)];rfl
theorem WO.storeE {α:Type}{enc:c9 α 1}{p:List α}{q:α}{i c e m:Nat}[ht:iG E t 1](hx:Ev l x (da a i 1 0))(hy:Ev l y v)(hv:c9.cells q=[v])(hi:i<p.length)
  (hu:yk (.aJ (.slice a n c) e 1 (ah p)) (.aJ (.slice a n c) e 1 (ah (p.set i q))) L L')(k:∀n,K (.tuple ⟨[]⟩) L' n n (λi=>i∈ai a) (λi=>i∈ai a)):WO E X Γ l (.store t x y) L K:=λtm s h1 h2=>by
 obtain⟨R,p1,p2⟩:=hu.cR;have hm:It.aJ (.slice a n c) e 1 (ah p)∈L:=p1.mem_iff.2 (by simp);have Bg:flat v=true:=c9.fl q v (by rw[hv];simp);have oo:∀(p:List α)(i:Nat),(ah p).set i v=ah (p.set i q):=by
  intro p;induction p with
  |nil=>intro i;rfl
  |cons x p ih=>
   intro i;have h1:∃u,c9.cells x=[u]:=List.length_eq_one_iff.1 (c9.len x);obtain⟨u,hu⟩:=h1;cases i with
   |zero=>rw[List.set_cons_zero,dG,dG,hu,hv];rfl
   |succ i=>rw[List.set_cons_succ,dG,dG,hu,<-ih];rfl
 rcases h2.it _ hm with⟨h3,h4⟩|⟨b,n',k',w,h3,h4,h5,h6⟩
 .cases h3
  have:=bc p;rw[h4] at this;simp at this;omega
 .cases h3
  have dA:=(h2.may hm (b:=b) (by simp[It.aS,mN]));have hr:=h2.aR dA;have dK:fO (0+(i*1+0)) [v] (ah p)=some (ah (p.set i q)):=by
   rw[<-oo];have YL:i<(ah p).length:=by rw[bc];omega
   simp only[ni,wo,zx];exact zO v _ _ YL
  refine fS.pure (v:=.tuple ⟨[]⟩) (s':=(s.aR b).put b (some (.cells (ah (p.set i q)) e w))) (λcall=>?_) ⟨L',(λi=>i∈ai (some ⟨b,0,none⟩)),(λi=>i∈ai (some ⟨b,0,none⟩)),hr.put hu rfl rfl ?_,(kx.trans (cW dA.1 (by simp[ai])) (jS (by simpa using dA.1) (by simp[ai]) (by simp[ai]))),by rw[dY,cw];exact k _⟩
  .show(Ez (aI tm x) λb o=>mI E s t b o (aI tm y))=_;rw[hx.eval h1,hy.eval h1];show mI E s t b (0+(i*1+0)) v=_;unfold mI St.row St.look;rw[h4];simp only[cq,ht.h,AG Bg,dK];have:jj [v]=true:=by show bo (flat v) true false=true;rw[Bg];rfl
   rw[this];rfl
  .exact .inr ⟨b,_,_,w,rfl,by show T.get (St.heap _) b=_;simp,by rw[bc] at h5⊢;simpa using h5,h6⟩
end
def ko (s:St):aH->St
 |some ⟨b,_,none⟩=>s.aR b
 |_=>s
section
variable {E:dy}{X:dM}{Γ:gY}{l:Kn}{L L' R:bn}{K:KO}{x y:Operand}{v u:Value}{t:TypeId}{s s':St}{a:aH}{n sz:Nat}{cs:aQ}
theorem rZ {cs:aQ}{o m:Nat}{c:aQ}(h:(c.drop o).take m=cs)(hl:cs.length=m):iD m (dX o c)=some cs:=by
 rw[pL,xU];have:m<=(c.drop o).length:=by
  rw[<-h,dg] at hl;omega
 rw[if_pos this,h]
theorem Ks {β:Type}{c:Nat}(h:bM s a n sz cs)(k:Nat->aQ->St->Option β):JS s sz (.slice a n c) k=k n cs (ko s a):=by
 obtain⟨h1,h2⟩:=h;rcases h2 with⟨rfl,rfl|⟨b,o,q,rfl,h3⟩⟩|⟨b,o,c',e,w,rfl,h3,h4,h5⟩
 .have:cs=[]:=mG (by simpa using h1);subst this;rfl
 .have:cs=[]:=mG (by simpa using h1);subst this;rfl
 .show s.row b (λc _ _ s=>ob (iD (Nat.mul n sz) (dX o c)) λcs=>k n cs s)=_;unfold St.row St.look;rw[h4];simp only[cq];have:=rZ (m:=n*sz) h5 h1;rw[show Nat.mul n sz=n*sz from rfl,this];rfl
theorem eA {β:Type}(k:Option β):eb true k=k:=rfl
theorem j2 (elem:TypeId)(sz:Nat)(b o len cap n:Nat)(new:aQ)(s:St):og elem sz (some ⟨b,o,none⟩) len cap n new s=s.row b λc e w s=>bo (Nat.ble eL cap)
  (eb (w&&Nat.beq e elem&&Nat.beq cap eL&&Nat.beq o (nat_lit 0))<| bo (Nat.beq (eh c) (Nat.mul len sz)) (bo (Nat.beq n (nat_lit 0)) (aG (.slice (some ⟨b,o,none⟩) len cap) s)<|
    (λs:St=>aG (bS s (Nat.add len n)) (s.new (.cells (c++new) elem true))) (s.put b none))<|
    eb (Nat.ble (Nat.add (Nat.mul len sz) (eh new)) (eh c))<| ob (iD (Nat.mul len sz) c) λold=>(λs:St=>aG (bS s (Nat.add len n)) (s.new (.cells (old++new) elem true))) (s.put b none))
  (bo (Nat.ble (Nat.add len n) cap)
    (bo (Nat.beq n (nat_lit 0)) (aG (.slice (some ⟨b,o,none⟩) len cap) s)<|
      ob (fO (Nat.add o (Nat.mul len sz)) new c) λcs=>aG (.slice (some ⟨b,o,none⟩) (Nat.add len n) cap) (s.put b (some (.cells cs e w))))
    (ob (iD (Nat.mul len sz) (dX o c)) λold=>aG (bS s (Nat.add len n)) (s.new (.cells (old++new) elem true)))):=rfl
theorem Vj {m:Nat}(h:0<m):Nat.beq m 0=false:=by
 cases m with
 |zero=>omega
 |succ m=>rfl
theorem CI:(ko s a).heap=s.heap:=by unfold ko;split<;>simp
theorem wO:(ko s a).next=s.next:=by unfold ko;split<;>simp
theorem Inv.ko (h:Inv Γ s L)(hm:∀b∈ai a,EF Γ s b):Inv Γ (ko s a) L:=by
 unfold Go.Lg.ko;split
 .exact h.aR (hm _ (by simp[ai]))
 .exact h
theorem wP {R W:Fp}(hm:∀b∈ai a,b<s.next)(hR:∀b∈ai a,R b):kx s (ko s a) R W:=by
 unfold Go.Lg.ko;split
 .exact cW (hm _ (by simp[ai])) (hR _ (by simp[ai]))
 .exact kx.id
theorem WO.append {e m c c2:Nat}{a2:aH}{new:aQ}{z:aQ}{t2:TypeId}[ht:tQ E t e sz z][ht2:tQ E t2 e sz z](hx:Ev l x (.slice a n c))(hy:Ev l y (.slice a2 m c2))(hr:NF (.aJ (.slice a n c) e sz cs) L R)(hs:jR Γ L a2 m sz new)
  (Bg:∀v∈new,flat v=true)(hn:n+m<=1000000)
  (k:∀b b' a' c',kb L b->b<=b'->(∀i∈ai a',i∈ai a\/i=b)->K (.slice a' (n+m) c') (.aJ (.slice a' (n+m) c') e sz (cs++new)::R) b b' (λi=>i∈ai a2\/i∈ai a\/i=b) (λi=>i∈ai a\/i=b)):WO E X Γ l (.call ⟨.builtin .append,⟨[x,y]⟩,⟨[t,t2]⟩⟩) L K:=λtm s h1 h2=>by
 obtain⟨TY,ii,z1,hi,tG,YM,Js,ZM,ZN,hi7⟩:=ht.h;obtain⟨UE,_⟩:=ht2.h;have hm:It.aJ (.slice a n c) e sz cs∈L:=hr.cR.mem_iff.2 (by simp);obtain⟨yl,lg⟩:=hs.row h2;have hinv:Inv Γ (ko s a2) L:=h2.ko lg;have sa:=hinv.cR hr.cR;have PQ:kx s (ko s a2) (λi=>i∈ai a2\/i∈ai a\/i=s.next) (λi=>i∈ai a\/i=s.next):=wP (λb hb=>(lg b hb).1) (λb hb=>.inl hb);have hh1:(ko s a2).heap=s.heap:=CI;have NG:(ko s a2).next=s.next:=wO
 generalize tP:ko s a2=s1 at hinv sa PQ hh1 NG;have kW:new.length=m*sz:=yl.1;have mg:∀(r:Value×St),og e sz a n c m new s1=some r->∀call:dJ,EA E call (aI tm) s (.call ⟨.builtin .append,⟨[x,y]⟩,⟨[t,t2]⟩⟩)=some r:=by
  intro r hr call;show uZ E s [t,t2] (aI tm x) (aI tm y)=_;rw[hx.eval h1,hy.eval h1];unfold uZ;show ob (some t) (λt=>ob (iQ E t) λd=>match d with
   |.slice elem=>ob (some t2) λxt=>ob (iQ E xt) λxd=>eb (!isInt xd)<| ob (E.ty.get elem) λi=>ob i.zero λz=>eb (Nat.ble (nat_lit 1) i.size&&Nat.ble i.bytes (nat_lit 1000000)&&Nat.beq (eh (bW z)) i.size)<| JS s i.size (.slice a2 m c2) λn' new s=>eb (Nat.beq (eh new) (Nat.mul n' i.size))<| eb (jj new)<| (eb (Nat.ble (Nat.add n n') (nat_lit 1000000))<| og elem i.size a n c n' new s)
   |_=>none)=_
  have hff:jj new=true:=(l9 new).2 Bg;simp only[cq,TY,UE,hi,tG,YM,Js,dm,ZM];show eb true _=_;simp only[gR ZN,gR hi7,lz,Fv];rw[eA,eA,Ks yl];simp only[hff];rw[show Nat.mul m sz=m*sz from rfl,kW,lz];rw[gR (show Nat.add n m<=1000000 from hn),tP];exact hr
 have hbb:∀{b:Nat}{o:Nat}{L:bn}{s:St},Inv Γ s (.aJ (.slice (some ⟨b,o,none⟩) n c) e sz cs::L)->b<s.next:=λh=>(h.lt _ jr _ (by simp[It.aS,mN])).1
 rcases sa.it _ jr with⟨h3,h4⟩|⟨b,n',k',w,h3,h4,h5,h6⟩
 .cases h3;subst h4
  rcases vC m with H2|H2
  .subst H2;have xy:new=[]:=mG (by simpa using kW);subst xy;refine fS.pure (mg (.slice none 0 0,s1) rfl) ⟨_,_,_,?_,PQ,k s.next _ none 0 h2.old af (λi hi=>by simp[ai] at hi)⟩;exact sa
  .refine fS.pure (mg (bS s1 m,s1.new (.cells new e true)) (by
    show eb true (bo (Nat.beq m 0) _ _)=_;rw[show Nat.beq m 0=false from Vj H2];rfl)) ⟨.aJ (.slice (some ⟨s1.next,0,none⟩) (0+m) eL) e sz ([]++new)::R,_,_,?_,PQ.trans (uw (.inr (.inr NG)) (.inr NG)),?_⟩
   .exact sa.js.new (.inr ⟨s1.next,0+m,eL,true,rfl,by simp,by simpa using kW,.inr ⟨rfl,rfl⟩⟩) rfl
   .have:=k s.next (s1.new (.cells new e true)).next (some ⟨s1.next,0,none⟩) eL h2.old (by rw[lH];omega) (λi hi=>by right;simpa[ai,NG] using hi)
    rw[show bS s1 m= .slice (some ⟨s1.next,0,none⟩) (0+m) eL from by simp[bS]];exact this
 .cases h3
  have RQ:=hbb sa;have CJ:∀{β:Type}(k:aQ->TypeId->Bool->St->Option β),s1.row b k=k cs e w (s1.aR b):=λk=>by unfold St.row St.look;rw[h4];rfl
  have CK:Inv Γ (s1.aR b) (.aJ (.slice (some ⟨b,0,none⟩) n c) e sz cs::R):=sa.aR (sa.may jr (by simp[It.aS,mN]));have NH:kx s (s1.aR b) (λi=>i∈ai a2\/i∈ai (some ⟨b,0,none⟩)\/i=s.next) (λi=>i∈ai (some ⟨b,0,none⟩)\/i=s.next):=PQ.trans (cW RQ (.inr (.inl (by simp[ai]))));rcases vC m with H2|H2
  .subst H2;have xy:new=[]:=mG (by simpa using kW);subst xy;refine fS.pure (mg (.slice (some ⟨b,0,none⟩) n c,s1.aR b) ?_) ⟨_,_,_,?_,NH,k s.next _ (some ⟨b,0,none⟩) c h2.old (by rw[cw];omega) (λi hi=>.inl hi)⟩
   .rw[j2,CJ];rcases h6 with⟨rfl,h6⟩|⟨rfl,rfl⟩
    .rw[show Nat.ble eL c=false from by rw[<-jJ,oc];omega];show bo (Nat.ble (Nat.add c 0) c) _ _=_;rw[gR (show Nat.add c 0<=c from cy _)];rfl
    .show eb (true&&Nat.beq e e&&Nat.beq eL eL&&Nat.beq 0 0) (bo (Nat.beq (eh cs) (Nat.mul n sz)) _ _)=_;rw[dm,h5,show Nat.mul n sz=n*sz from rfl];simp only[lz];rfl
   .rw[iH];exact CK
  .have hmf:Nat.beq m 0=false:=Vj H2;rcases h6 with⟨rfl,h6⟩|⟨rfl,rfl⟩
   .refine fS.pure (mg (.slice (some ⟨s1.next,0,none⟩) (c+m) eL,(s1.aR b).new (.cells (cs++new) e true)) ?_) ⟨_,_,_,?_,NH.trans (uw (.inr (.inr (by simpa using NG))) (.inr (by simpa using NG))),k s.next _ (some ⟨s1.next,0,none⟩) eL h2.old (by simp;omega) (λi hi=>by right;simpa[ai,NG] using hi)⟩
    .rw[j2,CJ];rw[show Nat.ble eL c=false from by rw[<-jJ,oc];omega];show bo (Nat.ble (Nat.add c m) c) _ (ob (iD (Nat.mul c sz) (dX 0 cs)) _)=_;rw[show Nat.ble (Nat.add c m) c=false from by rw[<-jJ,oc];show ¬c+m<=c;omega];rw[rZ (cs:=cs) (o:=0) (m:=Nat.mul c sz) (by rw[B1];exact q9 (by rw[h5];exact cy _)) h5];show aG (bS (s1.aR b) (Nat.add c m)) _=_;unfold bS;rw[cw];rfl
    .have:=CK.js.new (o:=.cells (cs++new) e true) (x:=.aJ (.slice (some ⟨s1.next,0,none⟩) (c+m) eL) e sz (cs++new)) (.inr ⟨s1.next,c+m,eL,true,rfl,by simp,by rw[bR,h5,kW,mq],.inr ⟨rfl,rfl⟩⟩) (by simp[It.aS,mN]);exact this
   .refine fS.pure (mg (.slice (some ⟨s1.next,0,none⟩) (n+m) eL,((s1.aR b).put b none).new (.cells (cs++new) e true)) ?_) ⟨_,_,_,?_,(NH.trans (jS (by simpa using RQ) (.inr (.inl (by simp[ai]))) (.inl (by simp[ai])))).trans (uw (.inr (.inr (by simpa using NG))) (.inr (by simpa using NG))),k s.next _ (some ⟨s1.next,0,none⟩) eL h2.old (by simp;omega) (λi hi=>by right;simpa[ai,NG] using hi)⟩
    .rw[j2,CJ];show eb (true&&Nat.beq e e&&Nat.beq eL eL&&Nat.beq 0 0) (bo (Nat.beq (eh cs) (Nat.mul n sz)) _ _)=_;rw[dm,h5,show Nat.mul n sz=n*sz from rfl];simp only[lz];show bo (Nat.beq m 0) _ _=_;rw[hmf];show aG (bS ((s1.aR b).put b none) (Nat.add n m)) _=_;unfold bS;rw[dY,cw];rfl
    .have h7:=CK.kill (o:=none) (b:=b) (by simp[It.aS,mN]);have:=h7.new (o:=.cells (cs++new) e true) (x:=.aJ (.slice (some ⟨s1.next,0,none⟩) (n+m) eL) e sz (cs++new)) (.inr ⟨s1.next,n+m,eL,true,rfl,by simp,by rw[bR,h5,kW,mq],.inr ⟨rfl,rfl⟩⟩) (by simp[It.aS,mN]);exact this
def fI (E:dy)(X:dM)(f:FuncId)(args:aQ)(s:St)(Lm:bn)(A:List Nat)(Q:Value->bn->Prop):Prop:=
 (∀x∈Lm,x.ok s)->(∀x∈Lm,∀b∈x.aS,b<s.next)->(Lm.flatMap It.aS).Nodup->rW E X f args s λv s'=>∃L',Inv ⟨s,Lm.flatMap It.aS,A⟩ s' L'/\Q v L'
theorem fI.mono {f:FuncId}{args:aQ}{Lm:bn}{A:List Nat}{Q Q':Value->bn->Prop}(h:fI E X f args s Lm A Q)(k:∀v L,Q v L->Q' v L):fI E X f args s Lm A Q':=λh1 h2 h3=>(h h1 h2 h3).mono λv s' ⟨L',h4,h5⟩=>⟨L',h4,k _ _ h5⟩
inductive ky (l:Kn):List Operand->aQ->Prop
 |nil:ky l [] []
 |cons {x:Operand} {v:Value} {xs:List Operand} {vs:aQ} (h:Ev l x v) (k:ky l xs vs):ky l (x::xs) (v::vs)
theorem ky.eval {xs:List Operand}{vs:aQ}{tm:Tm}(h:ky l xs vs)(hl:mu l tm):xs.map (aI tm)=vs:=by
 induction h with
 |nil=>rfl
 |cons h _ ih=>rw[xC,ih,h.eval hl]
theorem WO.call {f:FuncId}{xs:List Operand}{ts:Array TypeId}{vs:aQ}{Lm:bn}{A:List Nat}{Q:Value->bn->Prop}(hx:ky l xs vs)(hp:L.Perm (Lm++R))(hA:∀s,Inv Γ s L->∀b∈A,b<s.next/\(b∈Γ.A\/b∈Γ.M\/Γ.s0.next<=b))(h:∀s,Inv Γ s L->fI E X f vs s Lm A Q)
  (k:∀v L' m m',kb L m->m<=m'->Q v L'->K v (L'++R) m m' (λi=>i∈A\/i∈Lm.flatMap It.aS\/(m<=i/\i<m')) (λi=>i∈Lm.flatMap It.aS\/(m<=i/\i<m'))):WO E X Γ l (.call ⟨.value (.func f),⟨xs⟩,ts⟩) L K:=λtm s h1 h2=>by
 have MZ:=h2.cR hp;obtain⟨v,s',hr,L',hI,hq⟩:=h s h2 (λx hx=>MZ.it x (di _ hx)) (λx hx b hb=>(MZ.lt x (di _ hx) b hb).1) (by have:=MZ.nd;rw[B3] at this;exact(qB.1 this).1);have hMl:∀b∈Lm.flatMap It.aS,b<s.next/\(Γ.s0.next<=b\/b∈Γ.M):=λb hb=>by
  obtain⟨x,hx,hb⟩:=oW.1 hb;exact MZ.lt x (di _ hx) b hb
 have hRne:∀x∈R,∀b∈x.aS,b∉Lm.flatMap It.aS:=λx hx b hb hm=>by
  have:=MZ.nd;rw[B3] at this;exact(qB.1 this).2.2 b hm b (oW.2 ⟨x,hx,hb⟩) rfl
 have hle:s.next<=s'.next:=hI.le
 have hle0:=h2.le;refine fS.call (first:=[]) (cap:=[]) (K:=_) (by rfl) ⟨v,s',?_,?_⟩
 .have:([]:aQ)++(wy (aI tm) xs++[])=vs:=by rw[qD,hx.eval h1];simp
  rw[this];exact hr
 .refine⟨L'++R,_,_,⟨λb hb hm=>?_,af,λx hx=>?_,λx hx b hb=>?_,?_,λb hb=>?_,λb hb=>?_,λb hb=>?_,λb hb=>?_⟩,⟨hle,λb hb=>?_,λb hb=>?_⟩,k v L' s.next s'.next h2.old hle hq⟩
  .rw[hI.fr b (by show b<s.next;omega) (λhm'=>?_)]
   .exact h2.fr b hb hm
   .rcases(hMl b hm').2 with h3|h3
    .omega
    .exact hm h3
  .rcases fJ.1 hx with hx|hx
   .exact hI.it x hx
   .exact It.yi (MZ.it x (dH _ hx)) λb hb=>hI.fr b ((MZ.lt x (dH _ hx) b hb).1) (hRne x hx b hb)
  .rcases fJ.1 hx with hx|hx
   .obtain⟨h3,h4⟩:=hI.lt x hx b hb;refine⟨h3,?_⟩;rcases h4 with h4|h4
    .exact .inl (by have h4:s.next<=b:=h4;omega)
    .exact(hMl b h4).2
   .obtain⟨h3,h4⟩:=MZ.lt x (dH _ hx) b hb;exact⟨af,h4⟩
  .rw[B3,qB];refine⟨hI.nd,by have:=MZ.nd;rw[B3] at this;exact(qB.1 this).2.1,λb hb c hc=>?_⟩;rintro rfl;obtain⟨x,hx,hb⟩:=oW.1 hb;obtain⟨y,hy,hc⟩:=oW.1 hc;rcases(hI.lt x hx b hb).2 with h4|h4
   .have:=(MZ.lt y (dH _ hy) b hc).1;have h4:s.next<=b:=h4
    omega
   .exact hRne y hy b hc h4
  .rcases hI.cM b hb with h3|h3|h3|h3
   .exact h2.cM b h3
   .exact .inr (hA s h2 b h3).2
   .exact .inr (.inr (hMl b h3).2.symm)
   .exact .inr (.inr (.inr (by have h3:s.next<=b:=h3;omega)))
  .rcases hI.wr b hb with h3|h3|h3
   .exact h2.wr b h3
   .exact .inr (hMl b h3).2.symm
   .exact .inr (.inr (by have h3:s.next<=b:=h3;omega))
  .rcases hI.top b hb with h3|h3
   .rcases h2.top b h3 with h3|h3
    .exact .inl h3
    .exact .inr af
   .exact .inr h3
  .rcases hI.CG b hb with h3|h3
   .rcases h2.CG b h3 with h3|h3
    .exact .inl h3
    .exact .inr af
   .exact .inr h3
  .rcases hI.cM b hb with h3|h3|h3|h3
   .exact .inl h3
   .exact .inr ⟨.inl h3,by have:=(hA s h2 b h3).1;omega⟩
   .exact .inr ⟨.inr (.inl h3),by have:=(hMl b h3).1;omega⟩
   .rcases hI.top b hb with h4|h4
    .exact .inl h4
    .exact .inr ⟨.inr (.inr ⟨h3,h4⟩),h4⟩
  .rcases hI.wr b hb with h3|h3|h3
   .exact .inl h3
   .exact .inr ⟨.inl h3,by have:=(hMl b h3).1;omega⟩
   .rcases hI.CG b hb with h4|h4
    .exact .inl h4
    .exact .inr ⟨.inr ⟨h3,h4⟩,h4⟩
end
section
variable {E:dy}{X:dM}{Γ:gY}{l:Kn}{L L' R:bn}{KO:KO}{x y:Operand}{v u:Value}{t:TypeId}{s s':St}{a:aH}{n sz:Nat}{cs:aQ}{ax aL:List Oper}{K:Kn->bn->Prop}
inductive pV (E:dy)(l:Kn)(L:bn):List ResultVar->aQ->Prop
 |nil:pV E l L [] []
 |tmp {t:Nat} {v:Value} {rs:List ResultVar} {vs:aQ} (h:lk l t=some v) (k:pV E l L rs vs):pV E l L (.tmp t::rs) (v::vs)
 |cell {c b off:Nat} {t:TypeId} {cs:aQ} {e:TypeId} {w:Bool} {v:Value} {rs:List ResultVar} {vs:aQ} (ht:ny E t) (h:lk l c=some (.pointer (some ⟨b,off,none⟩))) (hm:It.box b cs e w∈L) (hv:iR cs off=some v) (k:pV E l L rs vs):pV E l L (.cell c t::rs) (v::vs)
 |cellA {c b off m:Nat} {t:TypeId} {cs:aQ} {e:TypeId} {w:Bool} {r:aQ} {rs:List ResultVar} {vs:aQ} (ht:vG E t m) (h:lk l c=some (.pointer (some ⟨b,off,none⟩))) (hm:It.box b cs e w∈L) (hv:iD m (dX off cs)=some r) (k:pV E l L rs vs):pV E l L (.cell c t::rs) (.agg ⟨r⟩::vs)
theorem pV.eval {rs:List ResultVar}{vs:aQ}(h:pV E l L rs vs):∀{tm:Tm}{s:St},mu l tm->Inv Γ s L->∃s',Cf E tm rs s=some (vs,s')/\Inv Γ s' L:=by
 induction h with
 |nil=>exact λh1 h2=>⟨_,rfl,h2⟩
 |tmp h k ih=>
  intro tm s h1 h2;obtain⟨s',h3,h4⟩:=ih h1 h2;refine⟨s',?_,h4⟩;rw[vc];show ob (Cf E tm _ s) _=_;rw[h3];have:=h1 _ _ h;show some (lG (tm.get _)::_,_)=_;rw[show lG (tm.get _)=_ from this]
 |cell ht h hm hv k ih=>
  intro tm s h1 h2;obtain⟨s',h3,h4⟩:=ih h1 (h2.aR (h2.may hm (iN.2 rfl)));refine⟨s',?_,h4⟩;rw[vc];show Ez (lG (tm.get _)) _=_;rw[show lG (tm.get _)=_ from h1 _ _ h];show ob (l6 E s _ _ _) _=_;rw[sZ (h2.it _ hm) (by rw[<-dQ];exact hv)];simp only[cq];rw[h3];rfl
 |cellA ht h hm hv k ih=>
  intro tm s h1 h2;obtain⟨s',h3,h4⟩:=ih h1 (h2.aR (h2.may hm (iN.2 rfl)));refine⟨s',?_,h4⟩;rw[vc];show Ez (lG (tm.get _)) _=_;rw[show lG (tm.get _)=_ from h1 _ _ h];show ob (l6 E s _ _ _) _=_;rw[vd (h2.it _ hm) hv];simp only[cq];rw[h3];rfl
def Vk:Nat->aQ->Kn
 |_,[]=>[]
 |i,v::vs=>(i,v)::Vk (i+1) vs
theorem PS:∀(vs:aQ)(i t:Nat)(v:Value),lk (Vk i vs) t=some v->i<=t/\vs[t-i]?=some v
 |[],i,t,v,h=>by cases h
 |u::vs,i,t,v,h=>by
  unfold Vk lk at h;split at h
  .rename_i hb;have:i=t:=by simpa using hb
   subst this;simp at h;subst h;simp
  .rename_i hb;obtain⟨h1,h2⟩:=PS vs (i+1) t v h;refine⟨af,?_⟩;have:t-i=t-(i+1)+1:=by omega
   rw[this,YT];exact h2
def ux (E:dy)(rs:List ResultVar)(Q:Value->bn->Prop):zM:=λe l L=>(e= .normal\/e= .ret)/\∃vs L2,pV E l L rs vs/\cr L2 L/\Q (gF vs) L2
theorem fI.body {f:FuncId}{fn:Func}{c:Code}{args:aQ}{Lm:bn}{A:List Nat}{Q:Value->bn->Prop}(hf:E.fn.get f=some fn)(hb:fn.body=some c)(hx:(Nat.beq f X.look||Cg X f)=false)(hl:args.length<=fn.ntmps)
  (h:W E X ⟨s,Lm.flatMap It.aS,A⟩ c (Vk 0 args) Lm (ux E fn.results.toList Q)):fI E X f args s Lm A Q:=λh1 h2 h3=>by
 refine rW.body hf hb hx hl ((h (lL args 0 .nil) s (λt v ht=>?_) ⟨λ_ _ _=>rfl,cy _,h1,λx hx b hb=>⟨h2 x hx b hb,.inr (oW.2 ⟨x,hx,hb⟩)⟩,h3,λb hb=>.inl hb,λb hb=>.inl hb,λb hb=>.inl hb,λb hb=>.inl hb⟩).mono ?_)
 .obtain⟨h4,h5⟩:=PS args 0 t v ht;show lG (T.get _ _)=_;rw[uo];have h6:t<args.length:=by
   have:=(tL.1 h5).1;omega
  rw[if_pos ⟨h4,af⟩,h5];rfl
 .rintro e tm s1 ⟨l',L',h4,h5,he,vs,L2,hr,hle,hq⟩;obtain⟨s2,h6,h7⟩:=hr.eval h4 h5;exact⟨he,vs,s2,h6,L2,h7.sub hle,hq⟩
theorem WD.nil {j nx:Nat}{seen:List Sn}(h:K l L):WD E X Γ ax [] j seen nx l L K:=λtm s sn h1 h2 _ h3=>⟨0,tm,s,⟨l,L,h1,h2,h⟩,λ_ _ _ _=>rfl⟩
theorem Inv.clear {s:St}(h:Inv Γ s L):Inv Γ (eE s) L:=by
 cases s
 exact⟨h.fr,h.le,h.it,h.lt,h.nd,λb hb=>absurd hb (by simp[eE,In]),λb hb=>absurd hb (by simp[eE,In]),λb hb=>absurd hb (by simp[eE,In]),λb hb=>absurd hb (by simp[eE,In])⟩
theorem RR {n mask a r:Nat}{R Wr:Fp}{m:Nat}(hr:∀b,In a b->R b/\b<m)(hw:∀b,In r b->Wr b/\b<m):∀{seen:List Sn},kK n mask R Wr seen->∀{sn:List Seen},RN seen sn n->zC mask a r sn=true:=by
 intro seen ha sn;have bP:∀x∈seen,Nat.testBit mask x.i=true\/((∀b,b<n->x.W b->¬R b)/\(∀b,b<n->x.R b->¬Wr b)):=by
  induction seen with
  |nil=>intro x hx;cases hx
  |cons y l ih=>
   intro x hx;rcases bV.1 hx with rfl|hx
   .exact ha.1
   .exact ih ha.2 x hx
 intro hs;induction sn with
 |nil=>rfl
 |cons y sn ih=>
  show bo (bo (Nat.beq (Nat.land y.wr a) 0) (Nat.beq (Nat.land y.cM r) 0) false||Nat.testBit mask y.i) (zC mask a r sn) false=true;rw[ih λz hz=>hs z (lE _ hz)];obtain⟨x,hx,hi,kD,nG⟩:=hs y jr;have hz:∀p q:Nat,(∀b,In p b->¬In q b)->Nat.beq (Nat.land p q) 0=true:=λp q h=>by
   have:p&&& q=0:=by
    apply Nat.eq_of_testBit_eq;intro i;rw[Nat.testBit_and,Nat.zero_testBit];by_cases h1:p.testBit i=true
    .have:=h i h1;rw[h1,xE];simpa[In] using this
    .simp[h1]
   show Nat.beq (p&&& q) 0=true;rw[this];rfl
  rcases bP x hx with h|⟨h1,h2⟩
  .rw[hi] at h;rw[h,Bool.or_true];rfl
  .rw[hz y.wr a (λb hb kX=>h1 b (nG b hb).2 (nG b hb).1 (hr b kX).1),hz y.cM r (λb hb kX=>h2 b (kD b hb).2 (kD b hb).1 (hw b kX).1)];rfl
theorem RN.le {seen:List Sn}{sn:List Seen}{n m:Nat}(h:RN seen sn n)(hn:n<=m)(y:Sn):RN (y::seen) sn m:=λz hz=>by
 obtain⟨x,h1,h2,h3,h4⟩:=h z hz;exact⟨x,lE _ h1,h2,λb hb=>⟨(h3 b hb).1,by have:=(h3 b hb).2;omega⟩,λb hb=>⟨(h4 b hb).1,by have:=(h4 b hb).2;omega⟩⟩
theorem EZ.cons {tm:Tm}{s:St}{sn:List Seen}{o:Oper}{j:Nat}{K:Tm->St->Prop}(hw:gW ax tm o.guard=true)(h:fS E X (aI tm) (eE s) o.op λv s'=>∃s2 sn2,EZ E X ax aL (j+1) (tm.gT o.dst v) s2 sn2 K/\∀k:St->List Seen->R3,ua ax j s s' sn k=k s2 sn2):EZ E X ax (o::aL) j tm s sn K:=by
 obtain⟨N,v,s1,⟨s2,sn2,⟨M,tm3,s3,hk,nW⟩,hd⟩,hr⟩:=h;refine⟨max N M,tm3,s3,hk,λn hn lf hl=>?_⟩;rw[wH,hw,gw,hr n af lf af];show ua ax j s s1 sn (λs seen=>tm.put o.dst v λtm=>ub E _ ax aL (Nat.succ j) tm s seen)=_;rw[hd];rw[Tm.put_eq];exact nW n af lf af
theorem EZ.pass {tm:Tm}{s:St}{sn:List Seen}{o:Oper}{j:Nat}{K:Tm->St->Prop}(hw:gW ax tm o.guard=false)(h:EZ E X ax aL (j+1) (tm.gT o.dst (.tuple ⟨[]⟩)) s sn K):EZ E X ax (o::aL) j tm s sn K:=by
 obtain⟨M,tm3,s3,hk,nW⟩:=h;refine⟨M,tm3,s3,hk,λn hn lf hl=>?_⟩;rw[wH,hw,eG,Tm.put_eq];exact nW n hn lf hl
theorem WD.step {o:Oper}{j nx:Nat}{seen:List Sn}{l2:Value->Kn}(hl:∀v tm,mu l tm->mu (l2 v) (tm.gT o.dst v))(hw:Want ax l o.guard true)(h:WO E X Γ l o.op L λv L' n n' R Wr=>n=nx->kK nx ((Region.before ⟨ax⟩).getD j 0) R Wr seen/\WD E X Γ ax aL (j+1) (⟨j,R,Wr⟩::seen) n' (l2 v) L' K):WD E X Γ ax (o::aL) j seen nx l L K:=λtm s sn h1 h2 RS h3=>by
 obtain⟨N,v,s',⟨L',R,Wr,h4,h5,h67⟩,hr⟩:=h tm (eE s) h1 h2.clear;have hcn:(eE s).next=s.next:=by cases s;rfl
 obtain⟨h6,h7⟩:=h67 (by rw[hcn,RS]);subst RS;have kD:∀b,In s'.cM b->R b/\b<s'.next:=λb hb=>by
  rcases h5.cM b hb with h|h
  .cases s;simp[eE,In] at h
  .exact h
 have nG:∀b,In s'.wr b->Wr b/\b<s'.next:=λb hb=>by
  rcases h5.wr b hb with h|h
  .cases s;simp[eE,In] at h
  .exact h
 have Vl:s.next<=s'.next:=by rw[<-hcn];exact h5.nx
 refine EZ.cons (hw.eval h1) ⟨N,v,s',?_,hr⟩;obtain⟨hh,nn,a0,r0⟩:=s;obtain⟨hh',Vm,a,r⟩:=s';have PN:RN (⟨j,R,Wr⟩::seen) sn Vm:=h3.le Vl _;by_cases ha:a=0
 .refine⟨⟨hh',Vm,a0,r0⟩,sn,?_,λk=>?_⟩
  .refine h7 _ _ _ (hl v tm h1) ?_ rfl PN;exact⟨h4.fr,h4.le,h4.it,h4.lt,h4.nd,h2.cM,h2.wr,λb hb=>(h2.top b hb).imp id λ(hx:b<nn)=>by have Vl:nn<=Vm:=Vl;show b<Vm;omega,λb hb=>(h2.CG b hb).imp id λ(hx:b<nn)=>by have Vl:nn<=Vm:=Vl;show b<Vm;omega⟩
  .show bo (Nat.beq a 0) _ _=_;rw[ha];rfl
 .refine⟨⟨hh',Vm,a0||| a,r0||| r⟩,⟨j,a,r⟩::sn,?_,λk=>?_⟩
  .refine h7 _ _ _ (hl v tm h1) ?_ rfl ?_
   .refine⟨h4.fr,h4.le,h4.it,h4.lt,h4.nd,λb hb=>?_,λb hb=>?_,λb hb=>?_,λb hb=>?_⟩
    .rcases(rb _ _ _).1 hb with h|h
     .exact h2.cM b h
     .exact h4.cM b h
    .rcases(rb _ _ _).1 hb with h|h
     .exact h2.wr b h
     .exact h4.wr b h
    .rcases(rb _ _ _).1 hb with h|h
     .exact(h2.top b h).imp id λ(hx:b<nn)=>by have Vl:nn<=Vm:=Vl;show b<Vm;omega
     .exact h4.top b h
    .rcases(rb _ _ _).1 hb with h|h
     .exact(h2.CG b h).imp id λ(hx:b<nn)=>by have Vl:nn<=Vm:=Vl;show b<Vm;omega
     .exact h4.CG b h
   .intro z hz;rcases bV.1 hz with rfl|hz
    .exact⟨_,jr,rfl,kD,nG⟩
    .exact PN z hz
  .show bo (Nat.beq a 0) _ (bo (zC ((Region.before ⟨ax⟩).getD j 0) a r sn) _ none)=_;rw[show Nat.beq a 0=false from Vj af,RR kD nG h6 h3];simp only[eG,gw,PB];rfl
theorem WD.cons {d:Nat}{o:Oper}{j nx:Nat}{seen:List Sn}(hd:o.dst=some d)(hw:Want ax l o.guard true)(h:WO E X Γ l o.op L λv L' n n' R Wr=>n=nx->kK nx ((Region.before ⟨ax⟩).getD j 0) R Wr seen/\WD E X Γ ax aL (j+1) (⟨j,R,Wr⟩::seen) n' ((d,v)::l) L' K):WD E X Γ ax (o::aL) j seen nx l L K:=
 WD.step (l2:=λv=>(d,v)::l) (λv tm h1=>by rw[hd];exact h1.cons d v) hw h
theorem WD.Vf {o:Oper}{j nx:Nat}{seen:List Sn}(hd:o.dst=none)(hw:Want ax l o.guard true)(h:WO E X Γ l o.op L λv L' n n' R Wr=>n=nx->kK nx ((Region.before ⟨ax⟩).getD j 0) R Wr seen/\WD E X Γ ax aL (j+1) (⟨j,R,Wr⟩::seen) n' l L' K):WD E X Γ ax (o::aL) j seen nx l L K:=
 WD.step (l2:=λv=>l) (λv tm h1=>by rw[hd];exact h1) hw h
theorem WD.pass {d:Nat}{o:Oper}{j nx:Nat}{seen:List Sn}(hd:o.dst=some d)(hw:Want ax l o.guard false)(h:WD E X Γ ax aL (j+1) seen nx ((d,.tuple ⟨[]⟩)::l) L K):WD E X Γ ax (o::aL) j seen nx l L K:=λtm s sn h1 h2 RS h3=>by
 exact EZ.pass (hw.eval h1) (by rw[hd];exact h _ _ _ (h1.cons d _) h2 RS h3)
end
theorem aO {E:dy}{X:dM}(fn:Func){f:FuncId}{c:Code}{args:aQ}{s:St}{Lm:bn}{A:List Nat}{Q:Value->bn->Prop}(h:W E X ⟨s,Lm.flatMap It.aS,A⟩ c (Vk 0 args) Lm (ux E fn.results.toList Q))(hf:E.fn.get f=some fn:=by kernel_rfl)(hb:fn.body=some c:=by exact rfl)(hx:(Nat.beq f X.look||Cg X f)=false:=by decide)(hl:args.length<=fn.ntmps:=by exact qq rfl):fI E X f args s Lm A Q:=fI.body hf hb hx hl h
section
variable {k:Kn->bn->Prop}{Q:zM}{l:Kn}{L:bn}{i id:Nat}
theorem aj (h:k l L):Kr Q k .normal l L:=h
theorem NI (h:Q (.exit i) l L):Kr Q k (.exit i) l L:=h
theorem j3 (h:Q .ret l L):Kr Q k .ret l L:=h
theorem cP (h:Q .normal l L):oQ id Q .normal l L:=h
theorem iy (h:Q .ret l L):oQ id Q .ret l L:=h
theorem AH (h:Q .normal l L):oQ id Q (.exit id) l L:=by
 show if id=id then Q .normal l L else Q (.exit id) l L
 rw[if_pos rfl];exact h
end
section
variable {E:dy}{X:dM}{Γ:gY}{l:Kn}{L:bn}{ax aL:List Oper}{K:Kn->bn->Prop}{d j dj i nx:Nat}{op:Op}{ty:TypeId}{pos:String}{after:Array Edge}{w t:Bool}{seen:List Sn}
theorem ws (h:WO E X Γ l op L λv L' _ _ _ _=>WS E X Γ ax aL ((d,v)::l) L' K):WS E X Γ ax (⟨some d,op,ty,pos,after,none⟩::aL) l L K:=WS.cons rfl .none h
theorem ws0 (h:WO E X Γ l op L λv L' _ _ _ _=>WS E X Γ ax aL l L' K):WS E X Γ ax (⟨none,op,ty,pos,after,none⟩::aL) l L K:=WS.Vf rfl .none h
theorem BH {b:Bool}(hd:l7 ax j=some d)(h:lk l d=some (.bool t))(hb:(if t then w else !w)=b):Want ax l (some (j,w)) b:=by
 subst hb;exact Want.some hd h
theorem wsg (hd:l7 ax j=some dj)(hl:lk l dj=some (.bool t))(h1:t=w->WO E X Γ l op L λv L' _ _ _ _=>WS E X Γ ax aL ((d,v)::l) L' K)(h2:t= !w->WS E X Γ ax aL ((d,.tuple ⟨[]⟩)::l) L K):WS E X Γ ax (⟨some d,op,ty,pos,after,some (j,w)⟩::aL) l L K:=by
 by_cases h:t=w
 .exact WS.cons rfl (BH hd hl (by subst h;cases t<;>rfl)) (h1 h)
 .exact WS.pass rfl (BH hd hl (by cases t<;>cases w<;>simp_all)) (h2 (by cases t<;>cases w<;>simp_all))
theorem wd (h:WO E X Γ l op L λv L' n n' R Wr=>n=nx->kK nx ((Region.before ⟨ax⟩).getD i 0) R Wr seen/\WD E X Γ ax aL (i+1) (⟨i,R,Wr⟩::seen) n' ((d,v)::l) L' K):WD E X Γ ax (⟨some d,op,ty,pos,after,none⟩::aL) i seen nx l L K:=WD.cons rfl .none h
theorem wd0 (h:WO E X Γ l op L λv L' n n' R Wr=>n=nx->kK nx ((Region.before ⟨ax⟩).getD i 0) R Wr seen/\WD E X Γ ax aL (i+1) (⟨i,R,Wr⟩::seen) n' l L' K):WD E X Γ ax (⟨none,op,ty,pos,after,none⟩::aL) i seen nx l L K:=WD.Vf rfl .none h
theorem wdg (hd:l7 ax j=some dj)(hl:lk l dj=some (.bool t))(h1:t=w->WO E X Γ l op L λv L' n n' R Wr=>n=nx->kK nx ((Region.before ⟨ax⟩).getD i 0) R Wr seen/\WD E X Γ ax aL (i+1) (⟨i,R,Wr⟩::seen) n' ((d,v)::l) L' K)(h2:t= !w->WD E X Γ ax aL (i+1) seen nx ((d,.tuple ⟨[]⟩)::l) L K):WD E X Γ ax (⟨some d,op,ty,pos,after,some (j,w)⟩::aL) i seen nx l L K:=by
 by_cases h:t=w
 .exact WD.cons rfl (BH hd hl (by subst h;cases t<;>rfl)) (h1 h)
 .exact WD.pass rfl (BH hd hl (by cases t<;>cases w<;>simp_all)) (h2 (by cases t<;>cases w<;>simp_all))
end
section
variable {E:dy}{t:TypeId}
noncomputable def scalV (E:dy)(t:TypeId):Option Bool:=ob (iQ E t) λd=>some (zy d)
theorem mO (h:scalV E t=some false):ny E t:=by
 obtain⟨d,h1,h2⟩:=aw h;exact⟨d,h1,ir h2⟩
noncomputable def aggV (E:dy)(t:TypeId):Option (Bool×Nat):=ob (iQ E t) λd=>ob (size E t) λn=>some (zy d,n)
theorem rj {n:Nat}(h:aggV E t=some (true,n)):vG E t n:=by
 obtain⟨d,h1,h2⟩:=aw h;obtain⟨m,h3,h4⟩:=aw h2;have:=ir h4;simp only[cx] at this;exact⟨d,h1,this.1,by rw[h3,this.2]⟩
noncomputable def fldV (E:dy)(t:TypeId)(i:Nat):Option Nat:=ob (iQ E t) λd=>match d with
 |.struct ⟨fs⟩=>ob (iR fs i) λf=>ob (size E f.type) λsz=>eb (Nat.ble (nat_lit 1) sz) (some f.offset)
 |_=>none
theorem dL {i off:Nat}(h:fldV E t i=some off):ix E t i off:=by
 obtain⟨d,h1,h2⟩:=aw h;split at h2
 .rename_i fs;obtain⟨f,h3,h4⟩:=aw h2;obtain⟨sz,h5,h6⟩:=aw h4;obtain⟨h7,h8⟩:=bg h6;rw[dQ] at h3;exact⟨fs,f,sz,h1,h3,h5,qq h7,ir h8⟩
 .cases h2
noncomputable def rowV (E:dy)(t:TypeId):Option (Nat×Nat×aQ):=ob (iQ E t) λd=>match d with
 |.slice e=>ob (E.ty.get e) λi=>ob i.zero λv=>eb (Nat.beq (eh (bW v)) i.size&&Nat.ble (nat_lit 1) i.size&&Nat.ble i.bytes (nat_lit 1000000)) (some (e,i.size,bW v))
 |_=>none
theorem s7 {e sz:Nat}{z:aQ}(h:rowV E t=some (e,sz,z)):tQ E t e sz z:=by
 obtain⟨d,h1,h2⟩:=aw h;split at h2
 .rename_i e';obtain⟨i,h3,h4⟩:=aw h2;obtain⟨v,h5,h6⟩:=aw h4;obtain⟨h7,h8⟩:=bg h6;simp only[cv] at h7;have:=ir h8;simp only[cx] at this;obtain⟨rfl,rfl,rfl⟩:=this;exact⟨h1,i,v,h3,rfl,h5,rfl,by have:=oM h7.1.1;simpa using this,qq h7.1.2,qq h7.2⟩
 .cases h2
theorem n3 {e sz:Nat}{z:aQ}(h:tQ E t e sz z):o9 E t e sz:=by
 obtain⟨h1,i,v,h2,h3,h4,h5,h6,h7,h8⟩:=h.h;exact⟨h1,i,v,h2,h3,h4,by rw[h5,h6],h7,h8⟩
noncomputable def zeroCV (E:dy)(t:TypeId):Option (aQ):=ob (zero E t) λv=>some (bW v)
theorem kL {z:aQ}(h:zeroCV E t=some z):rX E t z:=by
 obtain⟨v,h1,h2⟩:=aw h;exact⟨v,h1,ir h2⟩
noncomputable def ZO (E:dy)(t:TypeId):Option (List (Nat×Nat)×aQ):=ob (iQ E t) λd=>match d with
 |.struct ⟨fs⟩=>ob (places E fs) λpl=>ob (zero E t) λv=>some (pl,bW v)
 |_=>none
theorem jT {pl:List (Nat×Nat)}{z:aQ}(h:ZO E t=some (pl,z)):lX E t pl z:=by
 obtain⟨d,h1,h2⟩:=aw h;split at h2
 .rename_i fs;obtain⟨p,h3,h4⟩:=aw h2;obtain⟨v,h5,h6⟩:=aw h4;have:=ir h6;simp only[cx] at this;exact⟨fs,v,h1,by rw[h3,this.1],h5,this.2⟩
 .cases h2
end
theorem cr.nil (L:bn):cr [] L:=⟨[],.refl _,List.nil_sublist _⟩
theorem cr.cons {x:It}{L R L2:bn}(h:NF x L R)(k:cr L2 R):cr (x::L2) L:=by
 obtain⟨l,hp,hs⟩:=k;induction h generalizing l L2 with
 |here=>exact⟨x::l,hp.cons _,hs.cons_cons _⟩
 |there h ih=>
  rename_i y L R;cases hs with
  |cons _ hs=>
   obtain⟨l',h1,h2⟩:=ih l hp hs;exact⟨l',h1,h2.cons _⟩
  |cons_cons _ hs=>
   rename_i l0;obtain⟨l',h1,h2⟩:=ih (L2:=l0) l0 (.refl _) hs;refine⟨y::l',?_,h2.cons_cons _⟩;exact((h1.cons _).trans (.swap _ _ _)).trans (hp.cons _)
theorem cr.refl (L:bn):cr L L:=⟨L,.refl _,.refl _⟩
class TT (E:dy)(t:TypeId)(e sz:outParam Nat)(α:outParam Type)(enc:outParam (c9 α sz)):Prop where
 h:∃z,tQ E t e sz z/\∃d:α,c9.cells (sz:=sz) d=z
theorem TT.elem {E:dy}{t e sz:Nat}{α:Type}{enc:c9 α sz}(h:TT E t e sz α enc):o9 E t e sz:=by
 obtain⟨z,h1,_⟩:=h.h;exact n3 h1
section
variable {E:dy}{X:dM}{Γ:gY}{l:Kn}{L L' R:bn}{K:KO}{x y:Operand}{v u:Value}{t t2:TypeId}{s s':St}{a a2:aH}{n sz:Nat}{α:Type}{enc:c9 α sz}
inductive EvE (l:Kn)(enc:c9 α sz):Nat->List (Nat×Operand)->List α->Prop
 |nil {i:Nat}:EvE l enc i [] []
 |cons {i:Nat} {x:Operand} {v:Value} {p:α} {ps:List (Nat×Operand)} {xs:List α} (h:Ev l x v) (hv:bW v=c9.cells (sz:=sz) p) (k:EvE l enc (i+1) ps xs):EvE l enc i ((i,x)::ps) (p::xs)
theorem EvE.vals {ps:List (Nat×Operand)}{xs:List α}{i:Nat}(h:EvE l enc i ps xs):∃vs:List (Nat×Value),RP l ps vs/\∀(done aL:aQ),done.length=i*sz->aL.length=xs.length*sz->rH (oh sz) vs (done++aL)=some (done++ah (sz:=sz) xs):=by
 induction h with
 |nil=>exact⟨[],.nil,λdone aL h1 h2=>by
   have:aL=[]:=mG (by simpa using h2);subst this;rfl⟩
 |cons h hv k ih=>
  rename_i i x v p ps xs;obtain⟨vs,h1,h2⟩:=ih;refine⟨(i,v)::vs,.cons h h1,λdone aL h3 h4=>?_⟩;show ob (some (Nat.mul i sz,sz)) (λq=>eb (Nat.beq (eh (bW v)) q.2)<| ob (fO q.1 (bW v) (done++aL)) λcs=>rH (oh sz) vs cs)=_;simp only[cq,dm,hv,c9.len,lz];rw[eA];have hr:aL.length=xs.length*sz+sz:=by rw[h4,dh,mq,Nat.one_mul]
  have dK:fO (Nat.mul i sz) (c9.cells (sz:=sz) p) (done++aL)=some (done++c9.cells (sz:=sz) p++aL.drop sz):=by
   have hl:Nat.mul i sz+(c9.cells (sz:=sz) p).length<=(done++aL).length:=by
    rw[c9.len,bR,h3];show i*sz+sz<=_;omega
   have:∀(k:Nat)(c d:aQ),c.length=k->d.length>=(c9.cells (sz:=sz) p).length->fO k (c9.cells (sz:=sz) p) (c++d)=some (c++c9.cells (sz:=sz) p++d.drop (c9.cells (sz:=sz) p).length):=by
    intro k;induction k with
    |zero=>
     intro c d hc hd;have:c=[]:=mG hc;subst this;show pc _ _=_;rw[PD,oa,if_pos hd];simp
    |succ k ih=>
     intro c d hc hd;cases c with
     |nil=>simp at hc
     |cons y c=>
      show ob (fO k _ (c++d)) (λr=>some (y::r))=_;rw[ih c d (by simpa using hc) hd];rfl
   have h5:=this (Nat.mul i sz) done aL h3 (by rw[c9.len];omega);rw[c9.len] at h5;exact h5
  rw[dK,cq,h2 (done++c9.cells (sz:=sz) p) (aL.drop sz) (by rw[bR,c9.len,h3,mq,Nat.one_mul]) (by rw[gp,hr];omega),dG,kA]
theorem WO.lit {m e:Nat}{ps:List (Nat×Operand)}{xs:List α}[ht:TT E t e sz α enc](hp:EvE l enc 0 ps xs)(hm:m=xs.length)(hb:Nat.ble (Nat.mul m sz) 16777216=true)
  (k:∀b,kb L b->K (.slice (some ⟨b,0,none⟩) xs.length m) (.aJ (.slice (some ⟨b,0,none⟩) xs.length m) e sz (ah (sz:=sz) xs)::L) b (b+1) (λi=>i=b) (λi=>i=b)):WO E X Γ l (.buildSlice t m ⟨ps⟩) L K:=by
 obtain⟨z,h1,d,h2⟩:=ht.h;obtain⟨vs,h3,h4⟩:=hp.vals;subst hm;refine WO.buildSlice (ht:=h1) hb h3 (cs:=ah (sz:=sz) xs) ?_ (bc _) k;have:=h4 [] (lF z xs.length) (by simp) (by rw[<-h2,CH,bc];simp);simpa using this
theorem WO.PT {e c c2:Nat}{p q:List α}[ht:TT E t e sz α enc][ht2:TT E t2 e sz α enc](hx:Ev l x (.slice a p.length c))(hy:Ev l y (.slice a2 q.length c2))(hr:NF (.aJ (.slice a p.length c) e sz (ah (sz:=sz) p)) L R)(hs:jR Γ L a2 q.length sz (ah (sz:=sz) q))(hn:p.length+q.length<=1000000)
  (k:∀b b' a' c',kb L b->b<=b'->(∀i∈ai a',i∈ai a\/i=b)->K (.slice a' (p++q).length c') (.aJ (.slice a' (p++q).length c') e sz (ah (sz:=sz) (p++q))::R) b b' (λi=>i∈ai a2\/i∈ai a\/i=b) (λi=>i∈ai a\/i=b)):WO E X Γ l (.call ⟨.builtin .append,⟨[x,y]⟩,⟨[t,t2]⟩⟩) L K:=by
 obtain⟨z,h1,d,h2⟩:=ht.h;obtain⟨z2,h3,d2,h4⟩:=ht2.h;have hz:z2=z:=by
  obtain⟨_,i,v,h5,_,h6,h7,_⟩:=h1.h;obtain⟨_,i',v',h5',_,h6',Nh,_⟩:=h3.h;rw[h5] at h5';cases h5';rw[h6] at h6';cases h6';rw[<-h7,<-Nh]
 subst hz;refine WO.append (ht:=h1) (ht2:=h3) hx hy hr hs (zN _) hn λb b' a' c' h5 h5' h6=>?_
 have:=k b b' a' c' h5 h5' h6;rw[qP,bR] at this;exact this
theorem WO.makeT {d:α}{m e:Nat}{k1 k2:IntKind}[ht:TT E t e sz α enc](hd:∀z,tQ E t e sz z->c9.cells (sz:=sz) d=z)(hx:Ev l x (.int k1 (m:Int)))(hy:Ev l y (.int k2 (m:Int)))(hm:m<=1000000)
  (k:∀b c,kb L b->K (.slice (some ⟨b,0,none⟩) (List.replicate m d).length c) (.aJ (.slice (some ⟨b,0,none⟩) (List.replicate m d).length c) e sz (ah (sz:=sz) (List.replicate m d))::L) b (b+1) (λi=>i=b) (λi=>i=b)):WO E X Γ l (.makeSlice t x y) L K:=by
 obtain⟨z,h1,_⟩:=ht.h;refine WO.makeSlice (ht:=h1) (hd z h1) hx hy hm λb h2=>?_
 have:=k b m h2;rw[rC] at this;exact this
end
section
variable {E:dy}{X:dM}{Γ:gY}{l:Kn}{L:bn}{ax aL:List Oper}{K:Kn->bn->Prop}{d j dj i n nx mask:Nat}{op:Op}{ty:TypeId}{pos:String}{after:Array Edge}{w t:Bool}{seen:List Sn}
theorem wsgT (hd:l7 ax j=some dj)(hl:lk l dj=some (.bool t))(ht:t=w)(h1:WO E X Γ l op L λv L' _ _ _ _=>WS E X Γ ax aL ((d,v)::l) L' K):WS E X Γ ax (⟨some d,op,ty,pos,after,some (j,w)⟩::aL) l L K:=wsg hd hl (λ_=>h1) (λh=>by subst ht;cases t<;>cases h)
theorem wsgF (hd:l7 ax j=some dj)(hl:lk l dj=some (.bool t))(ht:t= !w)(h2:WS E X Γ ax aL ((d,.tuple ⟨[]⟩)::l) L K):WS E X Γ ax (⟨some d,op,ty,pos,after,some (j,w)⟩::aL) l L K:=wsg hd hl (λh=>by subst ht;cases w<;>cases h) (λ_=>h2)
theorem wdgT (hd:l7 ax j=some dj)(hl:lk l dj=some (.bool t))(ht:t=w)(h1:WO E X Γ l op L λv L' n n' R Wr=>n=nx->kK nx ((Region.before ⟨ax⟩).getD i 0) R Wr seen/\WD E X Γ ax aL (i+1) (⟨i,R,Wr⟩::seen) n' ((d,v)::l) L' K):WD E X Γ ax (⟨some d,op,ty,pos,after,some (j,w)⟩::aL) i seen nx l L K:=wdg hd hl (λ_=>h1) (λh=>by subst ht;cases t<;>cases h)
theorem wdgF (hd:l7 ax j=some dj)(hl:lk l dj=some (.bool t))(ht:t= !w)(h2:WD E X Γ ax aL (i+1) seen nx ((d,.tuple ⟨[]⟩)::l) L K):WD E X Γ ax (⟨some d,op,ty,pos,after,some (j,w)⟩::aL) i seen nx l L K:=wdg hd hl (λh=>by subst ht;cases w<;>cases h) (λ_=>h2)
theorem ZP {P:Prop}(h:P):kK n mask Z Z seen/\P:=by
 refine⟨?_,h⟩;induction seen with
 |nil=>trivial
 |cons x l ih=>exact⟨.inr ⟨λ_ _ _ h=>h,λ_ _ _ h=>h⟩,ih⟩
theorem RT {R Wr:Fp}{P:Prop}(h:P):kK n mask R Wr []/\P:=⟨trivial,h⟩
theorem NJ {R Wr:Fp}{P:Prop}{k:Nat}(h:kK n mask R Wr seen/\P):kK n mask R Wr (⟨k,Z,Z⟩::seen)/\P:=⟨⟨.inr ⟨λ_ _ h=>h.elim,λ_ _ h=>h.elim⟩,h.1⟩,h.2⟩
theorem Kt {R R':Fp}{P:Prop}{k:Nat}(h:kK n mask R Z seen/\P):kK n mask R Z (⟨k,R',Z⟩::seen)/\P:=⟨⟨.inr ⟨λ_ _ h=>h.elim,λ_ _ _ h=>h⟩,h.1⟩,h.2⟩
theorem Iv {R Wr R' W':Fp}{P:Prop}{k:Nat}(hb:Nat.testBit mask k=true)(h:kK n mask R Wr seen/\P):kK n mask R Wr (⟨k,R',W'⟩::seen)/\P:=⟨⟨.inl hb,h.1⟩,h.2⟩
theorem Vn {R Wr R' W':Fp}{P:Prop}{k:Nat}(h1:∀b,b<n->W' b->¬R b)(h2:∀b,b<n->R' b->¬Wr b)(h:kK n mask R Wr seen/\P):kK n mask R Wr (⟨k,R',W'⟩::seen)/\P:=⟨⟨.inr ⟨h1,h2⟩,h.1⟩,h.2⟩
theorem RU {P:Prop}(h:P):kK n mask (λi=>i=n) (λi=>i=n) seen/\P:=by
 refine⟨?_,h⟩;induction seen with
 |nil=>trivial
 |cons x l ih=>exact⟨.inr ⟨λb h1 _ h2=>by omega,λb h1 _ h2=>by omega⟩,ih⟩
end
section
variable {E:dy}{X:dM}{Γ:gY}{l:Kn}{L:bn}{K:KO}{x y:Operand}{t:TypeId}
theorem WO.min {k:IntKind}{a b:Int}{t2:TypeId}(hx:Ev l x (.int k a))(hy:Ev l y (.int k b))(h:∀n,K (.int k (min a b)) L n n Z Z):WO E X Γ l (.call ⟨.builtin .min,⟨[x,y]⟩,⟨[t,t2]⟩⟩) L K:=WO.val (λtm s call hl=>by
 show YZ (aI tm x) (aI tm y) s=_;rw[hx.eval hl,hy.eval hl];show eb (pK k k) (aG (.int k (bo (TP b a) b a)) s)=_;rw[uv,eA,rh,ek];unfold aG
 congr 3
 by_cases h:b<a<;>simp[h]<;>omega) h
theorem WO.max {k:IntKind}{a b:Int}{t2:TypeId}(hx:Ev l x (.int k a))(hy:Ev l y (.int k b))(h:∀n,K (.int k (max a b)) L n n Z Z):WO E X Γ l (.call ⟨.builtin .max,⟨[x,y]⟩,⟨[t,t2]⟩⟩) L K:=WO.val (λtm s call hl=>by
 show Za (aI tm x) (aI tm y) s=_;rw[hx.eval hl,hy.eval hl];show eb (pK k k) (aG (.int k (bo (TP a b) b a)) s)=_;rw[uv,eA,rh,ek];unfold aG
 congr 3
 by_cases h:a<b<;>simp[h]<;>omega) h
theorem WO.conv {k1 k2:IntKind}{n m:Int}{t2:TypeId}[h1:wN E t k1][h2:wN E t2 k2]{k:IntKind}(hx:Ev l x (.int k n))(hm:k2.wrap n=m)(h:∀i,K (.int k2 m) L i i Z Z):WO E X Γ l (.convert t t2 x) L K:=WO.val (λtm s call hl=>by
 show vS E s t t2 (aI tm x)=_;rw[hx.eval hl];unfold vS;rw[h1.h,h2.h];show aG (.int k2 (pJ k2 n)) s=_;rw[jM,hm];rfl) h
theorem pg (z:List UInt8)[enc:c9 UInt8 1](he:∀c,c9.cells c=[bv c]):strCells z=ah z:=by
 induction z with
 |nil=>rfl
 |cons c z ih=>rw[dG,he,<-ih];rfl
theorem RV (z:List UInt8)[enc:c9 UInt8 1](he:∀c,c9.cells c=[bv c]):Aw (ah z)=some z:=by
 induction z with
 |nil=>rfl
 |cons c z ih=>
  rw[dG,he];show eb (Nat.ble (Nat.succ c.toNat) 256) (ob (Aw (ah z)) λr=>some (UInt8.ofNat c.toNat::r))=_;rw[ih,gR (show Nat.succ c.toNat<=256 from by have:=c.toNat_lt;omega)];simp[eA]
theorem WO.str {a:aH}{c e:Nat}{p:List UInt8}{t2:TypeId}{enc:c9 UInt8 1}[h1:TT E t e 1 UInt8 enc][h2:yj E t2][h3:wN E e .u8](he:∀c,c9.cells c=[bv c])(hx:Ev l x (.slice a p.length c))(hh:jR Γ L a p.length 1 (ah p))(k:∀n,K (sv p) L n n (λi=>i∈ai a) Z):WO E X Γ l (.convert t t2 x) L K:=λtm s hl hi=>by
 obtain⟨z,hr,_⟩:=h1.h;obtain⟨yl,lg⟩:=hh.row hi;refine fS.pure (v:=sv p) (s':=ko s a) (λcall=>?_) ⟨L,(λi=>i∈ai a),Z,hi.ko lg,wP (λb hb=>(lg b hb).1) (λb hb=>hb),by rw[wO];exact k _⟩;show vS E s t t2 (aI tm x)=_;rw[hx.eval hl];unfold vS;rw[hr.h.1,h2.h];show ob (iQ E e) (λd=>eb (isByte d)<| M8 s a p.length)=_;rw[h3.h];show eb true _=_;rw[eA];obtain⟨h4,h5⟩:=yl;rcases h5 with⟨h5,rfl|⟨b,o,q,rfl,h6⟩⟩|⟨b,o,c',e',w,rfl,h6,h7,h8⟩
 .have:p=[]:=mG h5;subst this;rfl
 .have:p=[]:=mG h5;subst this;rfl
 .show s.row b (λc _ _ s=>ob (iD p.length (dX o c)) λl=>ob (Aw l) λbs=>aG (.string ⟨⟨bs⟩⟩) s)=_;unfold St.row St.look;rw[h7];simp only[cq];rw[rZ (m:=p.length) (by simpa using h8) (by simpa using h4),cq,RV p he];rfl
theorem WO.bytes {e:Nat}{z:List UInt8}{t2:TypeId}{enc:c9 UInt8 1}[h1:yj E t][h2:TT E t2 e 1 UInt8 enc][h3:wN E e .u8](he:∀c,c9.cells c=[bv c])(hx:Ev l x (sv z))(hz:z.length<=1000000)(k:∀b,kb L b->K (.slice (some ⟨b,0,none⟩) z.length eL) (.box b (ah z) e false::L) b (b+1) (λi=>i=b) (λi=>i=b)):WO E X Γ l (.convert t t2 x) L K:=
 WO.news (mk:=λb=>.slice (some ⟨b,0,none⟩) z.length eL) (ob:=λ_=>.cells (ah z) e false) (it:=λb=>.box b (ah z) e false) (λtm s call hl _=>by
   obtain⟨zz,hr,_⟩:=h2.h;obtain⟨Vo,i,v,nW,hr3,_⟩:=hr.h;show vS E s t t2 (aI tm x)=_;rw[hx.eval hl];unfold vS;rw[Vo,h1.h];show ob (iQ E e) (λd=>eb (isByte d)<| ob (size E e) λsz=>eb (Nat.beq sz 1&&Nat.ble (eh z) 1000000)<| aG (bS s (eh z)) (s.new (.cells (strCells z) e false)))=_;rw[h3.h];show eb true _=_;rw[eA];have hs:size E e=some 1:=by unfold size;rw[nW];simp[hr3]
   rw[hs,cq,dm,gR hz];show eb true _=_;rw[eA,pg z he];rfl) (λs b h=>h) (λb=>rfl) k
theorem wrap_u8 (c:UInt8):IntKind.wrap .i64 (c.toNat:Int)=(c.toNat:Int):=pU ⟨by have:=c.toNat_lt;omega,by have:=c.toNat_lt;omega⟩
end
section
variable {E:dy}{X:dM}{Γ:gY}{l:Kn}{L:bn}{K:KO}{f:FuncId}{xs:List Operand}{ts:Array TypeId}{vs:aQ}{r:Value}{A:List Nat}
abbrev pW (E:dy)(X:dM)(f:FuncId)(vs:aQ)(s:St)(A:List Nat)(r:Value):Prop:=fI E X f vs s [] A λv L=>v=r/\L=[]
abbrev fa {α:Type}{sz:Nat}[c9 α sz](E:dy)(X:dM)(f:FuncId)(vs:aQ)(s:St)(A:List Nat)(e:TypeId)(p:List α):Prop:=fI E X f vs s [] A λv L=>∃a k,v= .slice a p.length k/\L=[.aJ v e sz (ah (sz:=sz) p)]
theorem WO.tH (hx:ky l xs vs)(h:∀s,Inv Γ s L->(∀b∈A,EF Γ s b)/\pW E X f vs s A r)(k:∀m m',kb L m->m<=m'->K r L m m' (λi=>i∈A\/i∈([]:bn).flatMap It.aS\/(m<=i/\i<m')) (λi=>i∈([]:bn).flatMap It.aS\/(m<=i/\i<m'))):WO E X Γ l (.call ⟨.value (.func f),⟨xs⟩,ts⟩) L K:=
 WO.call (Lm:=[]) (R:=L) hx (.refl _) (λs hi=>(h s hi).1) (λs hi=>(h s hi).2) (by rintro v L' m m' ho hm ⟨rfl,rfl⟩;exact k m m' ho hm)
theorem WO.bG (hx:ky l xs vs)(h:∀s,pW E X f vs s [] r)(k:∀m m',kb L m->m<=m'->K r L m m' (λi=>i∈([]:List Nat)\/i∈([]:bn).flatMap It.aS\/(m<=i/\i<m')) (λi=>i∈([]:bn).flatMap It.aS\/(m<=i/\i<m'))):WO E X Γ l (.call ⟨.value (.func f),⟨xs⟩,ts⟩) L K:=
 WO.tH hx (λs _=>⟨(λb hb=>by cases hb),h s⟩) k
theorem WO.Ku {α:Type}{sz:Nat}{enc:c9 α sz}{e:TypeId}{p:List α}(hx:ky l xs vs)(h:∀s,Inv Γ s L->(∀b∈A,EF Γ s b)/\fa E X f vs s A e p)(k:∀m m' a c,kb L m->m<=m'->K (.slice a p.length c) (.aJ (.slice a p.length c) e sz (ah (sz:=sz) p)::L) m m' (λi=>i∈A\/i∈([]:bn).flatMap It.aS\/(m<=i/\i<m')) (λi=>i∈([]:bn).flatMap It.aS\/(m<=i/\i<m'))):WO E X Γ l (.call ⟨.value (.func f),⟨xs⟩,ts⟩) L K:=
 WO.call (Lm:=[]) (R:=L) hx (.refl _) (λs hi=>(h s hi).1) (λs hi=>(h s hi).2) (by rintro v L' m m' ho hm ⟨a,c,rfl,rfl⟩;exact k m m' a c ho hm)
theorem WO.Iw {α:Type}{sz:Nat}{enc:c9 α sz}{e:TypeId}{p:List α}(hx:ky l xs vs)(h:∀s,fa E X f vs s [] e p)(k:∀m m' a c,kb L m->m<=m'->K (.slice a p.length c) (.aJ (.slice a p.length c) e sz (ah (sz:=sz) p)::L) m m' (λi=>i∈([]:List Nat)\/i∈([]:bn).flatMap It.aS\/(m<=i/\i<m')) (λi=>i∈([]:bn).flatMap It.aS\/(m<=i/\i<m'))):WO E X Γ l (.call ⟨.value (.func f),⟨xs⟩,ts⟩) L K:=
 WO.Ku hx (λs _=>⟨(λb hb=>by cases hb),h s⟩) k
theorem WO.callP1 {a:aH}{n sz:Nat}{cs:aQ}(hx:ky l xs vs)(hh:jR Γ L a n sz cs)(h:∀s,bM s a n sz cs->pW E X f vs s (ai a) r)(k:∀m m',kb L m->m<=m'->K r L m m' (λi=>i∈ai a\/i∈([]:bn).flatMap It.aS\/(m<=i/\i<m')) (λi=>i∈([]:bn).flatMap It.aS\/(m<=i/\i<m'))):WO E X Γ l (.call ⟨.value (.func f),⟨xs⟩,ts⟩) L K:=
 WO.tH hx (λs hi=>⟨(hh.row hi).2,h s (hh.row hi).1⟩) k
theorem WO.callR1 {a:aH}{n RO:Nat}{cs:aQ}{α:Type}{sz:Nat}{enc:c9 α sz}{e:TypeId}{p:List α}(hx:ky l xs vs)(hh:jR Γ L a n RO cs)(h:∀s,bM s a n RO cs->fa E X f vs s (ai a) e p)(k:∀m m' a' c,kb L m->m<=m'->K (.slice a' p.length c) (.aJ (.slice a' p.length c) e sz (ah (sz:=sz) p)::L) m m' (λi=>i∈ai a\/i∈([]:bn).flatMap It.aS\/(m<=i/\i<m')) (λi=>i∈([]:bn).flatMap It.aS\/(m<=i/\i<m'))):WO E X Γ l (.call ⟨.value (.func f),⟨xs⟩,ts⟩) L K:=
 WO.Ku hx (λs hi=>⟨(hh.row hi).2,h s (hh.row hi).1⟩) k
theorem Rd.of {s:St}{a:aH}{n sz:Nat}{cs:aQ}{A:List Nat}(h:bM s a n sz cs)(hA:∀b∈ai a,b∈A):Rd ⟨s,([]:bn).flatMap It.aS,A⟩ a n sz cs:=⟨h,hA,λ_ _ h=>by cases h⟩
theorem Kv {n n' mask:Nat}{seen:List Sn}{P:Prop}(h:P):kK n mask (λi=>i∈([]:List Nat)\/i∈([]:bn).flatMap It.aS\/(n<=i/\i<n')) (λi=>i∈([]:bn).flatMap It.aS\/(n<=i/\i<n')) seen/\P:=by
 refine⟨?_,h⟩;induction seen with
 |nil=>trivial
 |cons x l ih=>exact⟨.inr ⟨λb h1 _ h2=>by simp at h2;omega,λb h1 _ h2=>by simp at h2;omega⟩,ih⟩
end
section
variable {E:dy}{X:dM}{Γ:gY}{l:Kn}{L:bn}{Q:zM}{a b:Code}{x:Operand}{t:Bool}
theorem W.condT (hx:Ev l x (.bool t))(ht:t=true)(h:W E X Γ a l L Q):W E X Γ (.cond x a b) l L Q:=W.cond hx (λ_=>h) (λh'=>by rw[ht] at h';cases h')
theorem W.condF (hx:Ev l x (.bool t))(ht:t=false)(h:W E X Γ b l L Q):W E X Γ (.cond x a b) l L Q:=W.cond hx (λh'=>by rw[ht] at h';cases h') (λ_=>h)
theorem WO.beql {y:Operand}{t t2:TypeId}{K:KO}{a b:Bool}[h:Vg E t](hx:Ev l x (.bool a))(hy:Ev l y (.bool b))(k:∀n,K (.bool (a== b)) L n n Z Z):WO E X Γ l (.binOp .eql t x y t2) L K:=WO.bin hx hy (λcc=>by
 show ob (iQ E t) (λd=>Cb .eql (YW E d (.bool a) (.bool b)))=_;rw[h.h];rfl) k
theorem WO.bneq {y:Operand}{t t2:TypeId}{K:KO}{a b:Bool}[h:Vg E t](hx:Ev l x (.bool a))(hy:Ev l y (.bool b))(k:∀n,K (.bool (a != b)) L n n Z Z):WO E X Γ l (.binOp .neq t x y t2) L K:=WO.bin hx hy (λcc=>by
 show ob (iQ E t) (λd=>Cb .neq (YW E d (.bool a) (.bool b)))=_;rw[h.h];rfl) k
theorem Ix {t:TypeId}{xs:aQ}{ks:List Nat}:∀{l:List (TypeId×List Nat)},(t,ks)∈l->ij xs ks=true->xO t xs l=true
 |p::l,h,hk=>by
  show bo (bo (Nat.beq t p.1) (ij xs p.2) false) true (xO t xs l)=true;rcases bV.1 h with h|h
  .subst h;rw[lz,hk];rfl
  .rw[Ix h hk];cases bo (Nat.beq t p.1) (ij xs p.2) false<;>rfl
theorem WO.aeql {y:Operand}{t t2:TypeId}{K:KO}{xs ys:aQ}{ks:List Nat}[h:TEq E t ks]{r:Bool}(hx:Ev l x (.agg ⟨xs⟩))(hy:Ev l y (.agg ⟨ys⟩))(hk:ij xs ks=true)(hr:gL xs ys=some r)(k:∀n,K (.bool r) L n n Z Z):WO E X Γ l (.binOp .eql t x y t2) L K:=WO.bin hx hy (λcc=>by
 show eb (xO t xs E.eqs) (Cb .eql (gL xs ys))=_;rw[Ix h.h hk,eA,hr];rfl) k
theorem WO.aneq {y:Operand}{t t2:TypeId}{K:KO}{xs ys:aQ}{ks:List Nat}[h:TEq E t ks]{r:Bool}(hx:Ev l x (.agg ⟨xs⟩))(hy:Ev l y (.agg ⟨ys⟩))(hk:ij xs ks=true)(hr:gL xs ys=some r)(k:∀n,K (.bool !r) L n n Z Z):WO E X Γ l (.binOp .neq t x y t2) L K:=WO.bin hx hy (λcc=>by
 show eb (xO t xs E.eqs) (Cb .neq (gL xs ys))=_;rw[Ix h.h hk,eA,hr];rfl) k
end
theorem zP {n:Int}(h:0<=n/\n<=255):IntKind.wrap .u8 n=n:=by
 refine' zaL
section
variable {E:dy}{X:dM}{Γ:gY}{l:Kn}{L:bn}{K:KO}{x y:Operand}{t t2:TypeId}{a b:Int}
theorem WO.sub8 (hx:Ev l x (.int .u8 a))(hy:Ev l y (.int .u8 b))(hf:0<=a-b/\a-b<=255)(h:∀n,K (.int .u8 (a-b)) L n n Z Z):WO E X Γ l (.binOp .sub t x y t2) L K:=WO.bin hx hy (λcc=>by
 show some (Value.int .u8 (pJ .u8 (a-b)))=_;rw[jM,zP hf]) h
end
section
variable {E:dy}{X:dM}{Γ:gY}{l:Kn}{L:bn}{Q:zM}{a:Code}{id:Nat}
def PU (id:Nat)(Q:zM)(I Vp:Kn->bn->Prop):zM
 |.normal,l,L=>I l L
 |.exit i,l,L=>if i=id then Vp l L else oQ id Q (.exit i) l L
 |.ret,l,L=>oQ id Q .ret l L
variable {I Vp:Kn->bn->Prop}
theorem dC (h:I l L):PU id Q I Vp .normal l L:=h
theorem j4 (h:oQ id Q .ret l L):PU id Q I Vp .ret l L:=h
theorem NK (h:Vp l L):PU id Q I Vp (.exit id) l L:=by
 show if id=id then Vp l L else oQ id Q (.exit id) l L
 rw[if_pos rfl];exact h
theorem W.bH (I:Nat->Kn->bn->Prop)(Vp:Kn->bn->Prop)(k:Nat)(h0:I k l L)(step:∀k l L,I k l L->W E X Γ a l L (PU id Q (λl L=>∃j,j<k/\I j l L) Vp))(h:∀l L,Vp l L->Q .normal l L):W E X Γ (.loop a) l L (oQ id Q):=
 W.loop I k h0 λk l L hI=>(step k l L hI).mono λe l L hq=>by
   cases e with
   |normal=>exact hq
   |ret=>exact hq
   |exit i=>
    show oQ id Q (.exit i) l L;have hq:if i=id then Vp l L else oQ id Q (.exit i) l L:=hq
    by_cases hi:i=id
    .subst hi;rw[if_pos rfl] at hq;exact AH (h l L hq)
    .rw[if_neg hi] at hq;exact hq
end
theorem WO.conv8 {E:dy}{X:dM}{Γ:gY}{l:Kn}{L:bn}{K:KO}{x:Operand}{t t2:TypeId}{n:Int}[h1:wN E t .i64][h2:wN E t2 .u8](hx:Ev l x (iv n))(hn:0<=n/\n<=255)(h:∀i,K (bv (UInt8.ofNat n.toNat)) L i i Z Z):WO E X Γ l (.convert t t2 x) L K:=by
 refine WO.conv (h1:=h1) (h2:=h2) (k:=.i64) hx (zP hn) λi=>?_
 have:=h i;unfold bv at this;have h3:(((UInt8.ofNat n.toNat).toNat:Nat):Int)=n:=by
  rw[UInt8.toNat_ofNat_of_lt' (by show _<256;omega)];omega
 rw[h3] at this;exact this
noncomputable def PV (bL:Nat->Option (Nat×Nat)):List (Nat×Value)->aQ->Option (aQ)
 |[],cells=>some cells
 |(i,v)::l,cells=>match bL i with
  |none=>none
  |some (o,n)=>match Nat.beq (eh (bW v)) n with
   |false=>none
   |true=>match fO o (bW v) cells with
    |none=>none
    |some cs=>PV bL l cs
termination_by structural l=>l
theorem Kw (bL:Nat->Option (Nat×Nat)):∀(l:List (Nat×Value))(cells:aQ),rH bL l cells=PV bL l cells
 |[],cells=>rfl
 |(i,v)::l,cells=>by
  show ob (bL i) (λq=>eb (Nat.beq (eh (bW v)) q.2)<| ob (fO q.1 (bW v) cells) λcs=>rH bL l cs)=_;unfold PV;cases bL i with
  |none=>rfl
  |some q=>
   obtain⟨o,n⟩:=q;simp only[cq];cases Nat.beq (eh (bW v)) n with
   |false=>rfl
   |true=>
    rw[eA];cases fO o (bW v) cells with
    |none=>rfl
    |some cs=>exact Kw bL l cs
theorem WO.buildW {E:dy}{X:dM}{Γ:gY}{l:Kn}{L:bn}{K:KO}{t:TypeId}{cs:aQ}{ps:List (Nat×Operand)}{vs:List (Nat×Value)}{pl:List (Nat×Nat)}{z:aQ}[ht:lX E t pl z](hp:RP l ps vs)(hf:PV (iR pl) vs z=some cs)(k:∀n,K (.agg ⟨cs⟩) L n n Z Z):WO E X Γ l (.build t ⟨ps⟩) L K:=WO.build hp (by rw[Kw];exact hf) k
section
variable {E:dy}{X:dM}{Γ:gY}{l:Kn}{L:bn}{K:KO}{f:FuncId}{xs:List Operand}{ts:Array TypeId}{vs:aQ}{A:List Nat}
abbrev ke {α:Type}{sz:Nat}[c9 α sz](E:dy)(X:dM)(f:FuncId)(vs:aQ)(s:St)(A:List Nat)(e:TypeId)(p:List α)(b:Bool):Prop:=fI E X f vs s [] A λv L=>∃a k,v= .tuple ⟨[.slice a p.length k,.bool b]⟩/\L=[.aJ (.slice a p.length k) e sz (ah (sz:=sz) p)]
theorem WO.Vq {α:Type}{sz:Nat}{enc:c9 α sz}{e:TypeId}{p:List α}{b:Bool}(hx:ky l xs vs)(h:∀s,Inv Γ s L->(∀b∈A,EF Γ s b)/\ke E X f vs s A e p b)(k:∀m m' a c,kb L m->m<=m'->K (.tuple ⟨[.slice a p.length c,.bool b]⟩) (.aJ (.slice a p.length c) e sz (ah (sz:=sz) p)::L) m m' (λi=>i∈A\/i∈([]:bn).flatMap It.aS\/(m<=i/\i<m')) (λi=>i∈([]:bn).flatMap It.aS\/(m<=i/\i<m'))):WO E X Γ l (.call ⟨.value (.func f),⟨xs⟩,ts⟩) L K:=
 WO.call (Lm:=[]) (R:=L) hx (.refl _) (λs hi=>(h s hi).1) (λs hi=>(h s hi).2) (by rintro v L' m m' ho hm ⟨a,c,rfl,rfl⟩;exact k m m' a c ho hm)
theorem WO.ym {α:Type}{sz:Nat}{enc:c9 α sz}{e:TypeId}{p:List α}{b:Bool}(hx:ky l xs vs)(h:∀s,ke E X f vs s [] e p b)(k:∀m m' a c,kb L m->m<=m'->K (.tuple ⟨[.slice a p.length c,.bool b]⟩) (.aJ (.slice a p.length c) e sz (ah (sz:=sz) p)::L) m m' (λi=>i∈([]:List Nat)\/i∈([]:bn).flatMap It.aS\/(m<=i/\i<m')) (λi=>i∈([]:bn).flatMap It.aS\/(m<=i/\i<m'))):WO E X Γ l (.call ⟨.value (.func f),⟨xs⟩,ts⟩) L K:=
 WO.Vq hx (λs _=>⟨(λb hb=>by cases hb),h s⟩) k
end
section
variable {E:dy}{l:Kn}{L:bn}{rs:List ResultVar}{x:Ex}{a:aH}{k e sz:Nat}{α:Type}{enc:c9 α sz}{p q:List α}{b b':Bool}{v r:Value}
theorem retR (hx:x= .normal\/x= .ret)(hr:pV E l L rs [.slice a q.length k])(hL:cr [.aJ (.slice a q.length k) e sz (ah (sz:=sz) q)] L)(h:p=q):ux E rs (λv L=>∃a k,v= .slice a p.length k/\L=[.aJ v e sz (ah (sz:=sz) p)]) x l L:=by
 subst h;exact⟨hx,_,_,hr,hL,a,k,rfl,rfl⟩
theorem Gn (hx:x= .normal\/x= .ret)(hr:pV E l L rs [.slice a q.length k,.bool b'])(hL:cr [.aJ (.slice a q.length k) e sz (ah (sz:=sz) q)] L)(h:p=q)(hb:b=b'):ux E rs (λv L=>∃a k,v= .tuple ⟨[.slice a p.length k,.bool b]⟩/\L=[.aJ (.slice a p.length k) e sz (ah (sz:=sz) p)]) x l L:=by
 subst h;subst hb;exact⟨hx,_,_,hr,hL,a,k,rfl,rfl⟩
end
theorem Rd.lt {Γ:gY}{a:aH}{n sz:Nat}{cs:aQ}(h:Rd Γ a n sz cs):∀b∈ai a,b<Γ.s0.next:=λb hb=>by
 rcases h.row.2 with⟨_,rfl|⟨b',o,q,rfl,h1⟩⟩|⟨b',o,c,e,w,rfl,h1,_⟩
 .cases hb
 .have:b=b':=by simpa[ai] using hb
  subst this;exact h1
 .have:b=b':=by simpa[ai] using hb
  subst this;exact h1
theorem s8 (a:aH)(n c:Nat):mN (.slice a n c)=ai a:=by cases a<;>rfl
section
variable {E:dy}{X:dM}{Γ:gY}{l:Kn}{L:bn}{K:KO}{x o:Operand}{t:TypeId}{p:List UInt8}{i j:Nat}{k:IntKind}
theorem WO.Vr [ht:yj E t](hx:Ev l x (sv p))(ho:Ev l o (.int k (i:Int)))(hi:i<=p.length)(h:∀n,K (sv (p.drop i)) L n n Z Z):WO E X Γ l (.slice t x (some o) none none) L K:=
 WO.Iu hx (.inr ⟨o,k,rfl,ho⟩) (.inl ⟨rfl,rfl⟩) hi (cy _) (by rw[q9 (by simp)];exact h)
theorem WO.Vs [ht:yj E t](hx:Ev l x (sv p))(ho:Ev l o (.int k (j:Int)))(hj:j<=p.length)(h:∀n,K (sv (p.take j)) L n n Z Z):WO E X Γ l (.slice t x none (some o) none) L K:=
 WO.Iu (i:=0) hx (.inl ⟨rfl,rfl⟩) (.inr ⟨o,k,rfl,ho⟩) (jG _) hj (by rw[B1,Nat.sub_zero];exact h)
end
section
variable {E:dy}{X:dM}{Γ:gY}{l:Kn}{L:bn}{ax aL:List Oper}{K:Kn->bn->Prop}{d j dj i nx:Nat}{op:Op}{ty:TypeId}{pos:String}{after:Array Edge}{w:Bool}{seen:List Sn}
theorem wsgU (hd:l7 ax j=some dj)(hl:lk l dj=some (.tuple ⟨[]⟩))(h2:WS E X Γ ax aL ((d,.tuple ⟨[]⟩)::l) L K):WS E X Γ ax (⟨some d,op,ty,pos,after,some (j,w)⟩::aL) l L K:=WS.pass rfl (.undef hd hl) h2
theorem wdgU (hd:l7 ax j=some dj)(hl:lk l dj=some (.tuple ⟨[]⟩))(h2:WD E X Γ ax aL (i+1) seen nx ((d,.tuple ⟨[]⟩)::l) L K):WD E X Γ ax (⟨some d,op,ty,pos,after,some (j,w)⟩::aL) i seen nx l L K:=WD.pass rfl (.undef hd hl) h2
end
theorem WO.wQ {E:dy}{X:dM}{Γ:gY}{l:Kn}{L:bn}{K:KO}{x:Operand}{t:TypeId}{a:aH}{n sz:Nat}{α:Type}{enc:c9 α sz}{p:List α}{i c e:Nat}{k:IntKind}{j:Int}[ht:o9 E t e sz](hx:Ev l x (.slice a n c))(hj:j=(i:Int))(hh:jR Γ L a n sz (ah (sz:=sz) p))(hi:i<p.length)(hk:∀n,K (da a i sz 0) L n n Z Z):WO E X Γ l (.indexAddr t x (.const (.int k j))) L K:=by
 subst hj;exact WO.indexAddr hx .const hh hi hk
section
variable {E:dy}{X:dM}{Γ:gY}{l:Kn}{L:bn}{K:KO}{x y o o':Operand}{t:TypeId}{p:List UInt8}{j j':Int}{k k':IntKind}
theorem nM (h:Ev l y (.int k j))(hj:0<=j):Ev l y (.int k ((j.toNat:Nat):Int)):=by rw[xG hj];exact h
theorem WO.indexI [ht:yj E t](hx:Ev l x (sv p))(hy:Ev l y (.int k j))(hj:0<=j/\j<p.length)(h:∀n,K (bv (p.getD j.toNat 0)) L n n Z Z):WO E X Γ l (.index t x y) L K:=WO.index hx (nM hy hj.1) af h
theorem WO.ZQ [ht:yj E t](hx:Ev l x (sv p))(ho:Ev l o (.int k j))(hj:0<=j/\j<=p.length)(h:∀n,K (sv (p.drop j.toNat)) L n n Z Z):WO E X Γ l (.slice t x (some o) none none) L K:=WO.Vr hx (nM ho hj.1) af h
theorem WO.ZR [ht:yj E t](hx:Ev l x (sv p))(ho:Ev l o (.int k j))(hj:0<=j/\j<=p.length)(h:∀n,K (sv (p.take j.toNat)) L n n Z Z):WO E X Γ l (.slice t x none (some o) none) L K:=WO.Vs hx (nM ho hj.1) af h
theorem WO.ZS [ht:yj E t](hx:Ev l x (sv p))(ho:Ev l o (.int k j))(Ay:Ev l o' (.int k' j'))(hj:0<=j/\j<=j'/\j'<=p.length)(h:∀n,K (sv ((p.drop j.toNat).take (j'.toNat-j.toNat))) L n n Z Z):WO E X Γ l (.slice t x (some o) (some o') none) L K:=WO.Iu hx (.inr ⟨o,k,rfl,nM ho hj.1⟩) (.inr ⟨o',k',rfl,nM Ay af⟩) af af h
theorem WO.NL {a:aH}{n sz:Nat}{α:Type}{enc:c9 α sz}{q:List α}{c e:Nat}[ht:o9 E t e sz](hx:Ev l x (.slice a n c))(hy:Ev l y (.int k j))(hh:jR Γ L a n sz (ah (sz:=sz) q))(hi:0<=j/\j<q.length)(hk:∀n,K (da a j.toNat sz 0) L n n Z Z):WO E X Γ l (.indexAddr t x y) L K:=WO.indexAddr hx (nM hy hi.1) hh af hk
end
class TD (E:dy)(t:TypeId)(sz:Nat)(α:Type)(enc:c9 α sz)(d:outParam α):Prop where
 h:∃e z,tQ E t e sz z/\c9.cells (sz:=sz) d=z
section
variable {E:dy}{X:dM}{Γ:gY}{l:Kn}{L:bn}{K:KO}{x y:Operand}{t:TypeId}{sz:Nat}{α:Type}{enc:c9 α sz}
theorem WO.make {d:α}{j:Int}{e:Nat}{k1 k2:IntKind}[ht:TT E t e sz α enc][hd:TD E t sz α enc d](hx:Ev l x (.int k1 j))(hy:Ev l y (.int k2 j))(hm:0<=j/\j<=1000000)
  (k:∀b c,kb L b->K (.slice (some ⟨b,0,none⟩) (List.replicate j.toNat d).length c) (.aJ (.slice (some ⟨b,0,none⟩) (List.replicate j.toNat d).length c) e sz (ah (sz:=sz) (List.replicate j.toNat d))::L) b (b+1) (λi=>i=b) (λi=>i=b)):WO E X Γ l (.makeSlice t x y) L K:=by
 refine WO.makeT (m:=j.toNat) (d:=d) (λz hz=>?_) (nM hx hm.1) (nM hy hm.1) af k;obtain⟨e',z',h1,h2⟩:=hd.h;obtain⟨h3,i,v,h4,_,h5,h6,_⟩:=h1.h;obtain⟨RW,i',v',h4',_,h5',h6',_⟩:=hz.h;have he:e'=e:=by
  have:=h3.symm.trans RW
  injection this with this
  injection this
 subst he;rw[h4] at h4';cases h4';rw[h5] at h5';cases h5';rw[h2,<-h6,h6']
end
theorem px (a b:UInt8):(a<b)↔a.toNat<b.toNat:=Q5
theorem pX:∀p q:List UInt8,(!(Op.bytesLess p q||decide (p=q)))=Op.bytesLess q p
 |[],[]=>by simp[Op.bytesLess]
 |[],_::_=>by simp[Op.bytesLess]
 |_::_,[]=>by simp[Op.bytesLess]
 |a::p,b::q=>by
  have ih:=pX p q;have hd:decide (a::p=b::q)=(decide (a=b)&&decide (p=q)):=by
   by_cases h1:a=b<;>by_cases h2:p=q<;>simp[h1,h2]
  rw[hd];show(!((decide (a<b)||(a== b&&Op.bytesLess p q))||(decide (a=b)&&decide (p=q))))=(decide (b<a)||(b== a&&Op.bytesLess q p));rw[<-ih];by_cases h:a=b
  .subst h;have:¬(a<a):=by rw[px];omega
   simp[this]
  .have h':¬b=a:=λe=>h e.symm
   have gx:a.toNat≠b.toNat:=λe=>h (wu.1 e)
   have h1:(a== b)=false:=by simpa using h
   have h2:(b== a)=false:=by simpa using h'
   by_cases h3:a<b
   .have:¬b<a:=by rw[px] at *;omega
    simp[h,h1,h2,h3,this]
   .have:b<a:=by rw[px] at *;omega
    simp[h,h1,h2,h3,this]
section
variable {E:dy}{X:dM}{Γ:gY}{l:Kn}{L L' R:bn}{K:KO}{x y:Operand}{v u:Value}{t t2:TypeId}{s s':St}{a:aH}{n sz:Nat}{cs:aQ}{p q:List UInt8}
theorem WO.sgtr (hx:Ev l x (sv p))(hy:Ev l y (sv q))(h:∀n,K (.bool (Op.bytesLess q p)) L n n Z Z):WO E X Γ l (.binOp .gtr t x y t2) L K:=WO.bin hx hy (λcc=>by
 show some (Value.bool (!(bo (nV p q) true (gv p q))))=_;rw[sK,eQ,<-pX p q];have:∀a b:Bool,bo a true b=(a||b):=by intro a b;cases a<;>rfl
 rw[this]
 congr 4
 rw[oL];simp) h
end
def PW (a:aH)(k:Nat):aH:=match a with
 |some ⟨b,o,none⟩=>some ⟨b,o+k,none⟩
 |a=>a
structure CL (sz:Nat)(a:aH)(i n:Nat)(a':aH):Prop where
 h:a'=PW a (i*sz)\/(n=0/\(a'=a\/∃b o o' r,a=some ⟨b,o,none⟩/\a'=some ⟨b,o',some r⟩))
structure Sub {α:Type}(sz:Nat)(a:aH)(p:List α)(a':aH)(q:List α):Prop where
 h:∃i n,q=(p.drop i).take n/\i+n<=p.length/\CL sz a i n a'
theorem ZT {a:aH}{k:Nat}:ai (PW a k)=ai a:=by
 unfold PW;split<;>rfl
theorem CL.aS {sz i n:Nat}{a a':aH}(h:CL sz a i n a'):ai a'=ai a:=by
 rcases h.h with rfl|⟨_,rfl|⟨b,o,o',r,rfl,rfl⟩⟩
 .exact ZT
 .rfl
 .rfl
section
variable {α:Type}{sz:Nat}{enc:c9 α sz}{p q:List α}{a a':aH}{s:St}
theorem Sub.aS (h:Sub sz a p a' q):ai a'=ai a:=by
 obtain⟨_,_,_,_,h⟩:=h.h;exact h.aS
theorem bM.sub (h:bM s a p.length sz (ah (sz:=sz) p))(hs:Sub sz a p a' q):bM s a' q.length sz (ah (sz:=sz) q):=by
 obtain⟨i,n,rfl,YB,hs⟩:=hs.h;refine⟨bc _,?_⟩;have cX:((p.drop i).take n).length=n:=by rw[dg,gp];omega
 rcases hs.h with rfl|⟨rfl,rfl|⟨b,o,o',r,rfl,rfl⟩⟩
 .rcases h.2 with⟨h0,rfl|⟨b,o,r,rfl,hb⟩⟩|⟨b,o,c,e,w,rfl,h1,h2,h3⟩
  .exact .inl ⟨af,.inl rfl⟩
  .exact .inl ⟨af,.inr ⟨b,o,r,rfl,hb⟩⟩
  .refine .inr ⟨b,o+i*sz,c,e,w,rfl,h1,h2,?_⟩;rw[cX,<-pw,<-rY,<-h3,List.drop_take,M5,lZ]
   congr 1
   have:n*sz<=p.length*sz-i*sz:=by rw[<-Nat.sub_mul];exact JB _ af
   omega
 .rcases h.2 with⟨h0,h1⟩|⟨b,o,c,e,w,rfl,h1,h2,h3⟩
  .exact .inl ⟨by simp,h1⟩
  .exact .inr ⟨b,o,c,e,w,rfl,h1,h2,by simp[ah]⟩
 .refine .inl ⟨by simp,.inr ⟨b,o',r,rfl,?_⟩⟩;rcases h.2 with⟨h0,h1|⟨b,o,r,h1,hb⟩⟩|⟨b,o,c,e,w,h1,h2,h3,h4⟩
  .cases h1
  .cases h1
  .cases h1;exact h2
end
def E0 (s:St)(a:aH)(n c e sz:Nat):Prop:=(a=none/\n=0/\c=0)\/∃b o cs w,a=some ⟨b,o,none⟩/\b<s.next/\s.heap.get b=some (.cells cs e w)/\((n<=c/\c<eL)\/(w=true/\eL<=c/\o=(c-eL)*sz/\o+n*sz<=cs.length))
theorem yh.slv {s:St}{a:aH}{n c e sz:Nat}{cs:aQ}(h:yh s (.slice a n c) e sz cs)(hb:∀b∈ai a,b<s.next):E0 s a n c e sz:=by
 rcases h with⟨h1,rfl⟩|⟨b,m,k,w,h1,h2,h3,h4⟩
 .cases h1;exact .inl ⟨rfl,rfl,rfl⟩
 .cases h1
  refine .inr ⟨b,0,cs,w,rfl,hb b (by simp[ai]),h2,?_⟩;rcases h4 with⟨rfl,h4⟩|⟨rfl,h4⟩
  .exact .inl ⟨cy _,h4⟩
  .exact .inr ⟨h4,cy _,by simp,by rw[h3];omega⟩
section
variable {E:dy}{X:dM}{Γ:gY}{l:Kn}{L L' R:bn}{K:KO}{x y o o':Operand}{t:TypeId}{s s':St}{a:aH}{n c sz e:Nat}{α:Type}{enc:c9 α sz}{p:List α}
structure Vt (l:Kn)(len:Nat)(lo hi:Option Operand)(i j:Nat):Prop where
 lo:(lo=none/\i=0)\/∃o k,lo=some o/\Ev l o (.int k (i:Int))
 hi:(hi=none/\j=len)\/∃o k,hi=some o/\Ev l o (.int k (j:Int))
 h:i<=j/\j<=len
theorem py {β:Type}{tm:Tm}{lo hi:Option Operand}{i j len cap:Nat}(h:Vt l len lo hi i j)(hl:mu l tm)(hc:len<=cap)(k:Nat->Nat->Nat->Option β):bounds len cap (dz (aI tm) lo) (dz (aI tm) hi) none k=k i j cap:=by
 have h1:hiV len cap (dz (aI tm) hi) none=some j:=by
  rcases h.hi with⟨rfl,rfl⟩|⟨o,k,rfl,ho⟩
  .rfl
  .show pd (aI tm o) cap=_;rw[ho.eval hl];show bo (Nat.ble j cap) (some j) none=_;rw[gR (by have:=h.h;omega)];rfl
 have h2:Q8 (dz (aI tm) lo) j 0=some i:=by
  rcases h.lo with⟨rfl,rfl⟩|⟨o,k,rfl,ho⟩
  .rfl
  .show pd (aI tm o) j=_;rw[ho.eval hl];show bo (Nat.ble i j) (some i) none=_;rw[gR h.h.1];rfl
 show ob (some cap) (λm=>ob (hiV len m (dz (aI tm) hi) none) λh=>ob (Q8 (dz (aI tm) lo) h 0) λl=>k l h m)=_;simp only[cq,h1,h2]
theorem Kx {tm:Tm}{lo hi:Option Operand}{i j len:Nat}(h:Vt l len lo hi i j)(hl:mu l tm)(hz:nA (dz (aI tm) lo) (dz (aI tm) hi) none=true):i=0/\j=0:=by
 obtain⟨h1,h2,h3,_⟩:=h;rcases h1 with⟨rfl,rfl⟩|⟨o,k,rfl,ho⟩
 .rcases h2 with⟨rfl,rfl⟩|⟨o,k,rfl,ho⟩
  .cases hz
  .simp only[dz,ho.eval hl] at hz;cases j with
   |zero=>exact⟨rfl,rfl⟩
   |succ j=>cases hz
 .exact absurd hz (by show ¬(nA (some _) _ _=true);simp[nA])
theorem BI [ht:TT E t e sz α enc]{tm:Tm}{lo hi:Option Operand}{i j:Nat}(h:Vt l n lo hi i j)(hl:mu l tm)(hv:E0 s a n c e sz):
  ∃a' c' s',j7 E s t (.slice a n c) (dz (aI tm) lo) (dz (aI tm) hi) none=some (.slice a' (j-i) c',s')/\(s'=s\/∃b∈ai a,s'=s.aR b)/\CL sz a i (j-i) a'/\(0<j-i->a'=PW a (i*sz)/\((c<eL/\c'=c-i)\/(eL<=c/\c'=c+i))):=by
 obtain⟨z,hr,_⟩:=ht.h;obtain⟨hu,ii,z1,Jq,tG,YM,Js,ZM,ZN,hi7⟩:=hr.h;have iI:size E e=some sz:=by unfold size;rw[Jq];simp[tG]
 have sC:=h.h;have CM:∀a,n<=c->ej sz a n c (dz (aI tm) lo) (dz (aI tm) hi) none=some (.slice (bo (Nat.beq c i) a (rG a (Nat.mul i sz))) (j-i) (c-i)):=λa hc=>by
  unfold ej;rw[py h hl hc];rfl
 have Il:∀a,(a=none\/∃b o,a=some ⟨b,o,none⟩)->n<=c->CL sz a i (j-i) (bo (Nat.beq c i) a (rG a (Nat.mul i sz))):=λa ha hc=>by
  cases hci:Nat.beq c i with
  |true=>
   have:c=i:=oM hci;exact⟨.inr ⟨af,.inl rfl⟩⟩
  |false=>
   refine⟨.inl ?_⟩;show rG a (Nat.mul i sz)=_;rcases ha with rfl|⟨b,o,rfl⟩
   .rfl
   .show bo (Nat.beq (i*sz) 0) (some (⟨b,o,none⟩:Addr)) (some (⟨b,o+i*sz,none⟩:Addr))=some (⟨b,o+i*sz,none⟩:Addr);cases hb:Nat.beq (i*sz) 0 with
    |true=>have:i*sz=0:=oM hb
           rw[this];rfl
    |false=>rfl
 have hnz:∀a,(a=none\/∃b o,a=some ⟨b,o,none⟩)->n<=c->0<j-i->bo (Nat.beq c i) a (rG a (Nat.mul i sz))=PW a (i*sz):=λa ha hc h0=>by
  cases hci:Nat.beq c i with
  |true=>
   have:c=i:=oM hci;omega
  |false=>
   show rG a (Nat.mul i sz)=_;rcases ha with rfl|⟨b,o,rfl⟩
   .rfl
   .show bo (Nat.beq (i*sz) 0) (some (⟨b,o,none⟩:Addr)) (some (⟨b,o+i*sz,none⟩:Addr))=some (⟨b,o+i*sz,none⟩:Addr);cases hb:Nat.beq (i*sz) 0 with
    |true=>have:i*sz=0:=oM hb
           rw[this];rfl
    |false=>rfl
 unfold j7;rw[hu];show ∃a' c' s',eb (HP a) (ob (size E e) λsz=>bo (Nat.ble eL c) (bo (nA (dz (aI tm) lo) (dz (aI tm) hi) none) (nB a c s) (ik e sz a n c (dz (aI tm) lo) (dz (aI tm) hi) none s)) (ob (ej sz a n c (dz (aI tm) lo) (dz (aI tm) hi) none) λv=>aG v s))=_/\_;rw[iI];rcases hv with⟨rfl,rfl,rfl⟩|⟨b,o,cs,w,rfl,hb,hg,⟨hc,hu⟩|⟨rfl,hu,ho,cX⟩⟩
 .refine⟨bo (Nat.beq 0 i) none (rG none (Nat.mul i sz)),0-i,s,?_,.inl rfl,Il none (.inl rfl) (cy _),λh0=>by omega⟩;show(ob (ej sz none 0 0 _ _ none) λv=>aG v s)=_;rw[CM none (cy _)];rfl
 .refine⟨bo (Nat.beq c i) (some ⟨b,o,none⟩) (rG (some ⟨b,o,none⟩) (Nat.mul i sz)),c-i,s,?_,.inl rfl,Il _ (.inr ⟨b,o,rfl⟩) hc,λh0=>⟨hnz _ (.inr ⟨b,o,rfl⟩) hc h0,.inl ⟨hu,rfl⟩⟩⟩;rw[show Nat.ble eL c=false from by rw[<-jJ,oc];omega];show(ob (ej sz (some ⟨b,o,none⟩) n c _ _ none) λv=>aG v s)=_;rw[CM _ hc];rfl
 .rw[gR hu];show ∃a' c' s',bo (nA (dz (aI tm) lo) (dz (aI tm) hi) none) (nB (some ⟨b,o,none⟩) c s) (ik e sz (some ⟨b,o,none⟩) n c (dz (aI tm) lo) (dz (aI tm) hi) none s)=_/\_;cases hz:nA (dz (aI tm) lo) (dz (aI tm) hi) none with
  |true=>
   obtain⟨rfl,rfl⟩:=Kx h hl hz;exact⟨some ⟨b,o,none⟩,c,s,rfl,.inl rfl,CL.mk (.inr ⟨rfl,.inl rfl⟩),λh0=>absurd h0 af⟩
  |false=>
   show ∃a' c' s',ik e sz (some ⟨b,o,none⟩) n c (dz (aI tm) lo) (dz (aI tm) hi) none s=_/\_;have nH:ik e sz (some ⟨b,o,none⟩) n c (dz (aI tm) lo) (dz (aI tm) hi) none s=bo (Nat.beq i 0||Nat.ble (Nat.succ i) j) (aG (.slice (some ⟨b,o+i*sz,none⟩) (j-i) (c+i)) (s.aR b)) (aG (.slice (some ⟨b,o+i*sz,some o⟩) 0 (c+i)) (s.aR b)):=by
    unfold ik;show s.row b (λc' e' w s=>eb (bo w true (Nat.beq sz 1)&&Nat.beq e' e&&Nat.beq o (Nat.mul (Nat.sub c eL) sz)&&Nat.ble (Nat.add o (Nat.mul n sz)) (eh c')) (bounds n n (dz (aI tm) lo) (dz (aI tm) hi) none λl h _=>_))=_;unfold St.row St.look;rw[hg];simp only[cq];rw[show Nat.mul (Nat.sub c eL) sz=o from ho.symm,lz,lz,dm,gR (show Nat.add o (Nat.mul n sz)<=cs.length from cX)];show bounds n n _ _ none _=_;rw[py h hl (cy _)];rfl
   rw[nH];cases qp:(Nat.beq i 0||Nat.ble (Nat.succ i) j) with
   |true=>exact⟨some ⟨b,o+i*sz,none⟩,c+i,s.aR b,rfl,.inr ⟨b,by simp[ai],rfl⟩,CL.mk (.inl rfl),λ_=>⟨rfl,.inr ⟨hu,rfl⟩⟩⟩
   |false=>
    have h0:j-i=0:=by
     have h1:Nat.ble (Nat.succ i) j=false:=by
      cases hh:Nat.ble (Nat.succ i) j with
      |true=>rw[hh,Bool.or_true] at qp;cases qp
      |false=>rfl
     have h2:¬i+1<=j:=λh=>by rw[gR (show Nat.succ i<=j from h)] at h1;cases h1
     omega
    rw[h0];exact⟨some ⟨b,o+i*sz,some o⟩,c+i,s.aR b,rfl,.inr ⟨b,by simp[ai],rfl⟩,CL.mk (.inr ⟨rfl,.inr ⟨b,o,_,_,rfl,rfl⟩⟩),λh0=>absurd h0 af⟩
end
structure Part (e sz:Nat)(a:aH)(n c:Nat)(a':aH)(n' c':Nat):Prop where
 h:0<n'->∀s,E0 s a n c e sz->E0 s a' n' c' e sz
theorem Part.refl {e sz:Nat}{a:aH}{n c:Nat}:Part e sz a n c a n c:=⟨λ_ _ h=>h⟩
theorem Part.of {e sz n c c' i j:Nat}{a a':aH}(qp:i<=j/\j<=n)(h:0<j-i->a'=PW a (i*sz)/\((c<eL/\c'=c-i)\/(eL<=c/\c'=c+i))):Part e sz a n c a' (j-i) c':=⟨λh0 s hv=>by
 obtain⟨rfl,hc⟩:=h h0;rcases hv with⟨rfl,rfl,rfl⟩|⟨b,o,cs,w,rfl,hb,hg,hr⟩
 .omega
 .refine .inr ⟨b,o+i*sz,cs,w,rfl,hb,hg,?_⟩;rcases hr with⟨h1,h2⟩|⟨h1,h2,h3,h4⟩
  .rcases hc with⟨_,rfl⟩|⟨h3,_⟩
   .exact .inl ⟨af,af⟩
   .omega
  .rcases hc with⟨h5,_⟩|⟨_,rfl⟩
   .omega
   .refine .inr ⟨h1,af,?_,?_⟩
    .rw[h3,show c+i-eL=(c-eL)+i by omega,mq]
    .have:i*sz+(j-i)*sz=j*sz:=by rw[<-mq];congr 1;omega
     have:j*sz<=n*sz:=JB _ qp.2;omega⟩
theorem ZU {a:aH}{i j:Nat}:PW (PW a i) j=PW a (i+j):=by
 rcases a with _|⟨b,o,_|q⟩<;>simp[PW,Nat.add_assoc]
theorem Sub.trans {α:Type}{sz:Nat}{p0 p q:List α}{a0 a a':aH}{i n:Nat}(h0:0<p.length)(h:Sub sz a0 p0 a p)(hq:(p.drop i).take n=q)(hn:i+n<=p.length)(h':CL sz a i n a'):Sub sz a0 p0 a' q:=by
 obtain⟨i0,n0,rfl,YB,hs⟩:=h.h;have cX:((p0.drop i0).take n0).length=n0:=by rw[dg,gp];omega
 rw[cX] at h0 hn;have ha:a=PW a0 (i0*sz):=by
  rcases hs.h with h|⟨h,_⟩
  .exact h
  .omega
 subst ha;have hq':q=(p0.drop (i0+i)).take n:=by
  rw[<-hq,List.drop_take,M5,lZ]
  congr 1;omega
 rcases h'.h with rfl|⟨rfl,rfl|⟨b,o,o',r,h1,rfl⟩⟩
 .exact⟨⟨i0+i,n,hq',af,⟨.inl (by rw[ZU,mq])⟩⟩⟩
 .exact⟨⟨i0,0,by rw[hq'];simp,af,⟨.inl rfl⟩⟩⟩
 .refine⟨⟨i0,0,by rw[hq'];simp,af,⟨.inr ⟨rfl,.inr ?_⟩⟩⟩⟩;rcases a0 with _|⟨b0,o0,_|q0⟩
  .cases h1
  .cases h1;exact⟨_,_,_,_,rfl,rfl⟩
  .cases h1
section
variable {E:dy}{X:dM}{Γ:gY}{l:Kn}{L L' R:bn}{K:KO}{x y o o':Operand}{t:TypeId}{s s':St}{a a' a0:aH}{c0:Nat}{n c sz e:Nat}{α:Type}{enc:c9 α sz}{p q p0:List α}{lo hi:Option Operand}{i j:Nat}{k k':IntKind}{u v:Int}
theorem jR.subT (hs:Sub sz a p a' q)(h:It.aJ (.slice a p.length c) e sz (ah (sz:=sz) p)∈L):jR Γ L a' q.length sz (ah (sz:=sz) q):=
 .sub h (λs hr=>hr.sub hs) (by rw[hs.aS];exact λb hb=>hb)
theorem CN (h:i<=j/\j<=p.length):((p.drop i).take (j-i)).length=j-i:=by rw[dg,gp];omega
theorem WO.cutO [ht:TT E t e sz α enc](hx:Ev l x (.slice a p.length c))(hm:It.aJ (.slice a p.length c) e sz (ah (sz:=sz) p)∈L)(hb:Vt l p.length lo hi i j)(hq:(p.drop i).take (j-i)=q)
  (h:∀m a' c',Sub sz a p a' q->Part e sz a p.length c a' q.length c'->K (.slice a' q.length c') L m m (λb=>b∈ai a) Z):WO E X Γ l (.slice t x lo hi none) L K:=λtm s hl hi=>by
 have h1:∀b∈ai a,EF Γ s b:=λb hb=>hi.may hm (by
  cases a with
  |none=>simp[ai] at hb
  |some a=>simpa[It.aS,mN,ai] using hb)
 have hv:=yh.slv (hi.it _ hm) λb hb=>(h1 b hb).1
 obtain⟨a',c',s',h2,h3,h4,h5⟩:=BI (ht:=ht) hb hl hv;have hs:Sub sz a p a' q:=⟨⟨i,j-i,hq.symm,by have:=hb.h;omega,h4⟩⟩;have cX:q.length=j-i:=by rw[<-hq];exact CN hb.h
 have tV:Part e sz a p.length c a' q.length c':=by rw[cX];exact Part.of hb.h h5
 refine' zaD
 .exact fS.pure mg ⟨L,_,Z,hi,kx.id,h _ _ _ hs tV⟩
 .exact fS.pure mg ⟨L,_,Z,hi.aR (h1 b kX),cW (h1 b kX).1 kX,by rw[cw];exact h _ _ _ hs tV⟩
theorem WO.cutU [ht:TT E t e sz α enc](hx:Ev l x (.slice a p.length c))(Vu:0<p.length)(hs0:Sub sz a0 p0 a p)(ZV:Part e sz a0 p0.length c0 a p.length c)(hm:It.aJ (.slice a0 p0.length c0) e sz (ah (sz:=sz) p0)∈L)(hb:Vt l p.length lo hi i j)(hq:(p.drop i).take (j-i)=q)
  (h:∀m a' c',Sub sz a0 p0 a' q->Part e sz a0 p0.length c0 a' q.length c'->K (.slice a' q.length c') L m m (λb=>b∈ai a0) Z):WO E X Γ l (.slice t x lo hi none) L K:=λtm s hl hi=>by
 have h1:∀b∈ai a0,EF Γ s b:=λb hb=>hi.may hm (by
  cases a0 with
  |none=>simp[ai] at hb
  |some a=>simpa[It.aS,mN,ai] using hb)
 have hv:=ZV.h Vu s (yh.slv (hi.it _ hm) λb hb=>(h1 b hb).1);obtain⟨a',c',s',h2,h3,h4,h5⟩:=BI (ht:=ht) hb hl hv;have hs:Sub sz a0 p0 a' q:=Sub.trans Vu hs0 hq (by have:=hb.h;omega) h4;have cX:q.length=j-i:=by rw[<-hq];exact CN hb.h
 have tV:Part e sz a0 p0.length c0 a' q.length c':=⟨λh0 s hv=>by rw[cX] at h0⊢;exact(Part.of hb.h h5).h h0 s (ZV.h Vu s hv)⟩;have mg:∀call:dJ,EA E call (aI tm) s (.slice t x lo ‹Option Operand› none)=some (.slice a' q.length c',s'):=λcall=>by
  show j7 E s t (aI tm x) _ _ none=_;rw[hx.eval hl,h2,cX]
 rw[hs0.aS] at h3;rcases h3 with rfl|⟨b,kX,rfl⟩
 .exact fS.pure mg ⟨L,_,Z,hi,kx.id,h _ _ _ hs tV⟩
 .exact fS.pure mg ⟨L,_,Z,hi.aR (h1 b kX),cW (h1 b kX).1 kX,by rw[cw];exact h _ _ _ hs tV⟩
theorem Rd.may {cs:aQ}(h:Rd Γ a n sz cs)(hi:Inv Γ s L):∀b∈ai a,EF Γ s b:=(jR.row (.rd h) hi).2
theorem E0.inv (h:E0 Γ.s0 a n c e sz)(hi:Inv Γ s L)(hM:∀b∈ai a,b∉Γ.M):E0 s a n c e sz:=by
 rcases h with h|⟨b,o,cs,w,rfl,h1,h2,h3⟩
 .exact .inl h
 .have:=hi.le;exact .inr ⟨b,o,cs,w,rfl,af,by rw[hi.fr b h1 (hM b (by simp[ai]))];exact h2,h3⟩
theorem Rd.sub (h:Rd Γ a p.length sz (ah (sz:=sz) p))(hs:Sub sz a p a' q):Rd Γ a' q.length sz (ah (sz:=sz) q):=
 ⟨h.row.sub hs,by rw[hs.aS];exact h.A,by rw[hs.aS];exact h.M⟩
theorem WO.cutF [ht:TT E t e sz α enc](hx:Ev l x (.slice a p.length c))(hm:Rd Γ a p.length sz (ah (sz:=sz) p))(hv:E0 Γ.s0 a p.length c e sz)(hb:Vt l p.length lo hi i j)(hq:(p.drop i).take (j-i)=q)
  (h:∀m a' c',Rd Γ a' q.length sz (ah (sz:=sz) q)->K (.slice a' q.length c') L m m (λb=>b∈ai a) Z):WO E X Γ l (.slice t x lo hi none) L K:=λtm s hl hi=>by
 have h1:=hm.may hi;obtain⟨a',c',s',h2,h3,h4,_⟩:=BI (ht:=ht) hb hl (hv.inv hi hm.M);have hs:Sub sz a p a' q:=⟨⟨i,j-i,hq.symm,by have:=hb.h;omega,h4⟩⟩;have cX:q.length=j-i:=by rw[<-hq];exact CN hb.h
 refine' zaD
 .exact fS.pure mg ⟨L,_,Z,hi,kx.id,h _ _ _ (hm.sub hs)⟩
 .exact fS.pure mg ⟨L,_,Z,hi.aR (h1 b kX),cW (h1 b kX).1 kX,by rw[cw];exact h _ _ _ (hm.sub hs)⟩
theorem lim_e (ho:Ev l o (.int k u))(hj:0<=u/\u<=(n:Int)):Vt l n (some o) none u.toNat n:=⟨.inr ⟨o,k,rfl,nM ho hj.1⟩,.inl ⟨rfl,rfl⟩,af⟩
theorem PX (ho:Ev l o (.int k u))(hj:0<=u/\u<=(n:Int)):Vt l n none (some o) 0 u.toNat:=⟨.inl ⟨rfl,rfl⟩,.inr ⟨o,k,rfl,nM ho hj.1⟩,af⟩
theorem lim_s (ho:Ev l o (.int k u))(Ay:Ev l o' (.int k' v))(hj:0<=u/\u<=v/\v<=(n:Int)):Vt l n (some o) (some o') u.toNat v.toNat:=⟨.inr ⟨o,k,rfl,nM ho hj.1⟩,.inr ⟨o',k',rfl,nM Ay af⟩,af⟩
theorem Vv:(p.drop i).take (p.length-i)=p.drop i:=q9 (by rw[gp];omega)
theorem NM:(p.drop 0).take (j-0)=p.take j:=by simp
theorem WO.cutOE [ht:TT E t e sz α enc](hx:Ev l x (.slice a p.length c))(ho:Ev l o (.int k u))(hm:It.aJ (.slice a p.length c) e sz (ah (sz:=sz) p)∈L)(hj:0<=u/\u<=(p.length:Int))
  (h:∀m a' c',Sub sz a p a' (p.drop u.toNat)->Part e sz a p.length c a' (p.drop u.toNat).length c'->K (.slice a' (p.drop u.toNat).length c') L m m (λb=>b∈ai a) Z):WO E X Γ l (.slice t x (some o) none none) L K:=WO.cutO hx hm (lim_e ho hj) Vv h
theorem WO.cutO0 [ht:TT E t e sz α enc](hx:Ev l x (.slice a p.length c))(ho:Ev l o (.int k u))(hm:It.aJ (.slice a p.length c) e sz (ah (sz:=sz) p)∈L)(hj:0<=u/\u<=(p.length:Int))
  (h:∀m a' c',Sub sz a p a' (p.take u.toNat)->Part e sz a p.length c a' (p.take u.toNat).length c'->K (.slice a' (p.take u.toNat).length c') L m m (λb=>b∈ai a) Z):WO E X Γ l (.slice t x none (some o) none) L K:=WO.cutO hx hm (PX ho hj) NM h
theorem WO.cutOS [ht:TT E t e sz α enc](hx:Ev l x (.slice a p.length c))(ho:Ev l o (.int k u))(Ay:Ev l o' (.int k' v))(hm:It.aJ (.slice a p.length c) e sz (ah (sz:=sz) p)∈L)(hj:0<=u/\u<=v/\v<=(p.length:Int))
  (h:∀m a' c',Sub sz a p a' ((p.drop u.toNat).take (v.toNat-u.toNat))->Part e sz a p.length c a' ((p.drop u.toNat).take (v.toNat-u.toNat)).length c'->K (.slice a' ((p.drop u.toNat).take (v.toNat-u.toNat)).length c') L m m (λb=>b∈ai a) Z):WO E X Γ l (.slice t x (some o) (some o') none) L K:=WO.cutO hx hm (lim_s ho Ay hj) rfl h
theorem WO.cutU0 [ht:TT E t e sz α enc](hx:Ev l x (.slice a p.length c))(ho:Ev l o (.int k u))(hs0:Sub sz a0 p0 a p)(ZV:Part e sz a0 p0.length c0 a p.length c)(hm:It.aJ (.slice a0 p0.length c0) e sz (ah (sz:=sz) p0)∈L)(Vu:0<p.length)(hj:0<=u/\u<=(p.length:Int))
  (h:∀m a' c',Sub sz a0 p0 a' (p.take u.toNat)->Part e sz a0 p0.length c0 a' (p.take u.toNat).length c'->K (.slice a' (p.take u.toNat).length c') L m m (λb=>b∈ai a0) Z):WO E X Γ l (.slice t x none (some o) none) L K:=WO.cutU hx Vu hs0 ZV hm (PX ho hj) NM h
theorem WO.cutFE [ht:TT E t e sz α enc](hx:Ev l x (.slice a p.length c))(ho:Ev l o (.int k u))(hm:Rd Γ a p.length sz (ah (sz:=sz) p))(hv:E0 Γ.s0 a p.length c e sz)(hj:0<=u/\u<=(p.length:Int))
  (h:∀m a' c',Rd Γ a' (p.drop u.toNat).length sz (ah (sz:=sz) (p.drop u.toNat))->K (.slice a' (p.drop u.toNat).length c') L m m (λb=>b∈ai a) Z):WO E X Γ l (.slice t x (some o) none none) L K:=WO.cutF hx hm hv (lim_e ho hj) Vv h
theorem WO.cutF0 [ht:TT E t e sz α enc](hx:Ev l x (.slice a p.length c))(ho:Ev l o (.int k u))(hm:Rd Γ a p.length sz (ah (sz:=sz) p))(hv:E0 Γ.s0 a p.length c e sz)(hj:0<=u/\u<=(p.length:Int))
  (h:∀m a' c',Rd Γ a' (p.take u.toNat).length sz (ah (sz:=sz) (p.take u.toNat))->K (.slice a' (p.take u.toNat).length c') L m m (λb=>b∈ai a) Z):WO E X Γ l (.slice t x none (some o) none) L K:=WO.cutF hx hm hv (PX ho hj) NM h
end
section
variable {E:dy}{X:dM}{Γ:gY}{l:Kn}{L:bn}{K:KO}{f:FuncId}{xs:List Operand}{ts:Array TypeId}{vs:aQ}{r:Value}{A:List Nat}
abbrev CallU {α:Type}{sz:Nat}[c9 α sz](E:dy)(X:dM)(f:FuncId)(vs:aQ)(s:St)(A:List Nat)(e:TypeId)(p:List α):Prop:=fI E X f vs s [] A λv L=>∃a k a0,∃p0:List α,∃k0,v= .slice a p.length k/\L=[.aJ (.slice a0 p0.length k0) e sz (ah (sz:=sz) p0)]/\Sub sz a0 p0 a p/\Part e sz a0 p0.length k0 a p.length k
theorem WO.callU0 {α:Type}{sz:Nat}{enc:c9 α sz}{e:TypeId}{p:List α}(hx:ky l xs vs)(h:∀s,CallU E X f vs s [] e p)(k:∀m m' a c a0 (p0:List α) c0,Sub sz a0 p0 a p->Part e sz a0 p0.length c0 a p.length c->kb L m->m<=m'->K (.slice a p.length c) (.aJ (.slice a0 p0.length c0) e sz (ah (sz:=sz) p0)::L) m m' (λi=>i∈([]:List Nat)\/i∈([]:bn).flatMap It.aS\/(m<=i/\i<m')) (λi=>i∈([]:bn).flatMap It.aS\/(m<=i/\i<m'))):WO E X Γ l (.call ⟨.value (.func f),⟨xs⟩,ts⟩) L K:=
 WO.call (Lm:=[]) (R:=L) hx (.refl _) (λs hi b hb=>by cases hb) (λs hi=>h s) (by rintro v L' m m' ho hm ⟨a,c,a0,p0,c0,rfl,rfl,hs,hp⟩;exact k m m' a c a0 p0 c0 hs hp ho hm)
theorem ZW (a:aH):PW a 0=a:=by
 rcases a with _|⟨b,o,_|q⟩<;>rfl
theorem Sub.all {α:Type}{sz:Nat}{a:aH}{p:List α}:Sub sz a p a p:=⟨⟨0,p.length,by simp,af,⟨.inl (by rw[HO,ZW])⟩⟩⟩
theorem retU {α:Type}{sz e:Nat}{enc:c9 α sz}{p q p0:List α}{a a0:aH}{k k0:Nat}{rs:List ResultVar}{x:Ex}(hx:x= .normal\/x= .ret)(hr:pV E l L rs [.slice a q.length k])(hs:Sub sz a0 p0 a q)(tV:Part e sz a0 p0.length k0 a q.length k)(hL:cr [.aJ (.slice a0 p0.length k0) e sz (ah (sz:=sz) p0)] L)(h:p=q):
  ux E rs (λv L=>∃a k a0,∃p0:List α,∃k0,v= .slice a p.length k/\L=[.aJ (.slice a0 p0.length k0) e sz (ah (sz:=sz) p0)]/\Sub sz a0 p0 a p/\Part e sz a0 p0.length k0 a p.length k) x l L:=by
 subst h;exact⟨hx,_,_,hr,hL,a,k,a0,p0,k0,rfl,rfl,hs,tV⟩
end
section
variable {E:dy}{X:dM}{Γ:gY}{l:Kn}{L:bn}{K:KO}{f:FuncId}{xs:List Operand}{ts:Array TypeId}{vs:aQ}{r:Value}{A:List Nat}
theorem WO.lN {a:aH}{n sz:Nat}{cs:aQ}(hx:ky l xs vs)(h:∀s,bM s a n sz cs->pW E X f vs s (ai a) r)(hh:jR Γ L a n sz cs)(k:∀m m',kb L m->m<=m'->K r L m m' (λi=>i∈ai a\/i∈([]:bn).flatMap It.aS\/(m<=i/\i<m')) (λi=>i∈([]:bn).flatMap It.aS\/(m<=i/\i<m'))):WO E X Γ l (.call ⟨.value (.func f),⟨xs⟩,ts⟩) L K:=WO.callP1 hx hh h k
theorem WO.Iy {a:aH}{n RO:Nat}{cs:aQ}{α:Type}{sz:Nat}{enc:c9 α sz}{e:TypeId}{p:List α}(hx:ky l xs vs)(h:∀s,bM s a n RO cs->fa E X f vs s (ai a) e p)(hh:jR Γ L a n RO cs)(k:∀m m' a' c,kb L m->m<=m'->K (.slice a' p.length c) (.aJ (.slice a' p.length c) e sz (ah (sz:=sz) p)::L) m m' (λi=>i∈ai a\/i∈([]:bn).flatMap It.aS\/(m<=i/\i<m')) (λi=>i∈([]:bn).flatMap It.aS\/(m<=i/\i<m'))):WO E X Γ l (.call ⟨.value (.func f),⟨xs⟩,ts⟩) L K:=WO.callR1 hx hh h k
end
theorem wR (vs:aQ):∀(n:Nat)(l:aQ),n+vs.length<=l.length->fO n vs l=some (l.take n++vs++l.drop (n+vs.length))
 |n,l,h=>by
  cases hp:fO n vs l with
  |some r=>rw[(nE n vs hp).2]
  |none=>
   exfalso
   revert hp h
   induction n generalizing l with
   |zero=>
    intro h hp;induction vs generalizing l with
    |nil=>cases hp
    |cons v vs ih=>
     cases l with
     |nil=>simp at h
     |cons x l=>
      refine ih l (by simpa using h) ?_;cases hq:fO 0 vs l with
      |none=>rfl
      |some r=>
       have:fO 0 (v::vs) (x::l)=ob (fO 0 vs l) λr=>some (v::r):=rfl
       rw[this,hq] at hp;cases hp
   |succ n ih=>
    intro h hp;cases l with
    |nil=>simp at h
    |cons x l=>
     refine ih l (by simp at h;omega) ?_;cases hq:fO n vs l with
     |none=>rfl
     |some r=>
      have:fO (n+1) vs (x::l)=ob (fO n vs l) λr=>some (x::r):=rfl
      rw[this,hq] at hp;cases hp
section
variable {E:dy}{X:dM}{Γ:gY}{l:Kn}{L L' R:bn}{K:KO}{x y o:Operand}{t t2:TypeId}{s:St}{a a2:aH}{n c sz e:Nat}{α:Type}{enc:c9 α sz}{p q:List α}{k:IntKind}{i j:Nat}
theorem Ky [ht:TT E t e sz α enc]{tm:Tm}(h:Vt l n none (some o) 0 j)(hl:mu l tm)(hv:E0 s a n c e sz):
  ∃s',j7 E s t (.slice a n c) (dz (aI tm) none) (dz (aI tm) (some o)) none=some (.slice a j c,s')/\(s'=s\/∃b∈ai a,s'=s.aR b):=by
 obtain⟨z,hr,_⟩:=ht.h;obtain⟨hu,ii,z1,Jq,tG,YM,Js,ZM,ZN,hi7⟩:=hr.h;have iI:size E e=some sz:=by unfold size;rw[Jq];simp[tG]
 have sC:=h.h;have TZ:∀a:aH,(a=none\/∃b o,a=some ⟨b,o,none⟩)->rG a (Nat.mul 0 sz)=a:=λa ha=>by
  rw[show Nat.mul 0 sz=0 from HO _];rcases ha with rfl|⟨b,o,rfl⟩<;>rfl
 have CM:∀a:aH,(a=none\/∃b o,a=some ⟨b,o,none⟩)->n<=c->ej sz a n c (dz (aI tm) none) (dz (aI tm) (some o)) none=some (.slice a j c):=λa ha hc=>by
  unfold ej;rw[py h hl hc];show some (Value.slice (bo (Nat.beq c 0) a (rG a (Nat.mul 0 sz))) (j-0) (c-0))=_;rw[TZ a ha];cases Nat.beq c 0<;>rfl
 unfold j7;rw[hu];show ∃s',eb (HP a) (ob (size E e) λsz=>bo (Nat.ble eL c) (bo (nA (dz (aI tm) none) (dz (aI tm) (some o)) none) (nB a c s) (ik e sz a n c (dz (aI tm) none) (dz (aI tm) (some o)) none s)) (ob (ej sz a n c (dz (aI tm) none) (dz (aI tm) (some o)) none) λv=>aG v s))=_/\_;rw[iI];rcases hv with⟨rfl,rfl,rfl⟩|⟨b,o',cs,w,rfl,hb,hg,⟨hc,hu⟩|⟨rfl,hu,ho,cX⟩⟩
 .refine⟨s,?_,.inl rfl⟩;show(ob (ej sz none 0 0 _ _ none) λv=>aG v s)=_;rw[CM none (.inl rfl) (cy _)];rfl
 .refine⟨s,?_,.inl rfl⟩;rw[show Nat.ble eL c=false from by rw[<-jJ,oc];omega];show(ob (ej sz (some ⟨b,o',none⟩) n c _ _ none) λv=>aG v s)=_;rw[CM _ (.inr ⟨b,o',rfl⟩) hc];rfl
 .rw[gR hu];show ∃s',bo (nA (dz (aI tm) none) (dz (aI tm) (some o)) none) (nB (some ⟨b,o',none⟩) c s) (ik e sz (some ⟨b,o',none⟩) n c (dz (aI tm) none) (dz (aI tm) (some o)) none s)=_/\_;cases hz:nA (dz (aI tm) none) (dz (aI tm) (some o)) none with
  |true=>
   obtain⟨_,rfl⟩:=Kx h hl hz;exact⟨s,rfl,.inl rfl⟩
  |false=>
   refine⟨s.aR b,?_,.inr ⟨b,by simp[ai],rfl⟩⟩;show ik e sz (some ⟨b,o',none⟩) n c (dz (aI tm) none) (dz (aI tm) (some o)) none s=_;unfold ik;show s.row b (λc' e' w s=>eb (bo w true (Nat.beq sz 1)&&Nat.beq e' e&&Nat.beq o' (Nat.mul (Nat.sub c eL) sz)&&Nat.ble (Nat.add o' (Nat.mul n sz)) (eh c')) (bounds n n (dz (aI tm) none) (dz (aI tm) (some o)) none λl h _=>_))=_;unfold St.row St.look;rw[hg];simp only[cq];rw[show Nat.mul (Nat.sub c eL) sz=o' from ho.symm,lz,lz,dm,gR (show Nat.add o' (Nat.mul n sz)<=cs.length from cX)];show bounds n n _ _ none _=_;rw[py h hl (cy _)];show aG (Value.slice (some ⟨b,o'+0*sz,none⟩) (j-0) (c+0)) (s.aR b)=_;rw[HO];rfl
theorem WO.cutO0x [ht:TT E t e sz α enc](hx:Ev l x (.slice a p.length c))(ho:Ev l o (.int k (i:Int)))(hm:It.aJ (.slice a p.length c) e sz (ah (sz:=sz) p)∈L)(hj:i<=p.length)
  (h:∀m,K (.slice a i c) L m m (λb=>b∈ai a) Z):WO E X Γ l (.slice t x none (some o) none) L K:=λtm s hl hi=>by
 have h1:∀b∈ai a,EF Γ s b:=λb hb=>hi.may hm (by
  cases a with
  |none=>simp[ai] at hb
  |some a=>simpa[It.aS,mN,ai] using hb)
 refine' zaq
 .exact fS.pure mg ⟨L,_,Z,hi,kx.id,h _⟩
 .exact fS.pure mg ⟨L,_,Z,hi.aR (h1 b kX),cW (h1 b kX).1 kX,by rw[cw];exact h _⟩
theorem mP:∀p q:List α,ah (sz:=sz) (p++q)=ah (sz:=sz) p++ah (sz:=sz) q
 |[],q=>rfl
 |x::p,q=>by rw[xB,dG,dG,mP p q,kA]
theorem WO.RX {c2:Nat}[ht:TT E t e sz α enc][ht2:TT E t2 e sz α enc](hx:Ev l x (.slice a i c))(hy:Ev l y (.slice a2 q.length c2))(hr:NF (.aJ (.slice a p.length c) e sz (ah (sz:=sz) p)) L R)(hs:jR Γ L a2 q.length sz (ah (sz:=sz) q))(hn:i<p.length/\i+q.length<=p.length/\p.length<=1000000)
  (k:∀b b' a' c' a0 (p0:List α) c0,kb L b->b<=b'->(∀i∈ai a0,i∈ai a\/i=b)->Sub sz a0 p0 a' (p.take i++q)->K (.slice a' (p.take i++q).length c') (.aJ (.slice a0 p0.length c0) e sz (ah (sz:=sz) p0)::R) b b' (λi=>i∈ai a2\/i∈ai a\/i=b) (λi=>i∈ai a\/i=b)):WO E X Γ l (.call ⟨.builtin .append,⟨[x,y]⟩,⟨[t,t2]⟩⟩) L K:=λtm s h1 h2=>by
 obtain⟨z,CO,d,_⟩:=ht.h;obtain⟨z2,htr2,d2,_⟩:=ht2.h;obtain⟨TY,ii,z1,hi,tG,YM,Js,ZM,ZN,hi7⟩:=CO.h;obtain⟨UE,_⟩:=htr2.h;have hm:It.aJ (.slice a p.length c) e sz (ah (sz:=sz) p)∈L:=hr.cR.mem_iff.2 (by simp);obtain⟨yl,lg⟩:=hs.row h2;have hinv:Inv Γ (ko s a2) L:=h2.ko lg;have sa:=hinv.cR hr.cR;have PQ:kx s (ko s a2) (λi=>i∈ai a2\/i∈ai a\/i=s.next) (λi=>i∈ai a\/i=s.next):=wP (λb hb=>(lg b hb).1) (λb hb=>.inl hb);have hh1:(ko s a2).heap=s.heap:=CI;have NG:(ko s a2).next=s.next:=wO
 generalize tP:ko s a2=s1 at hinv sa PQ hh1 NG;have kW:(ah (sz:=sz) q).length=q.length*sz:=yl.1;have htk:(p.take i).length=i:=by rw[dg];omega
 have cX:(p.take i++q).length=i+q.length:=by rw[bR,htk]
 have mg:∀(r:Value×St),og e sz a i c q.length (ah (sz:=sz) q) s1=some r->∀call:dJ,EA E call (aI tm) s (.call ⟨.builtin .append,⟨[x,y]⟩,⟨[t,t2]⟩⟩)=some r:=by
  intro r hr call;show uZ E s [t,t2] (aI tm x) (aI tm y)=_;rw[hx.eval h1,hy.eval h1];unfold uZ;show ob (some t) (λt=>ob (iQ E t) λd=>match d with
   |.slice elem=>ob (some t2) λxt=>ob (iQ E xt) λxd=>eb (!isInt xd)<| ob (E.ty.get elem) λii=>ob ii.zero λz=>eb (Nat.ble (nat_lit 1) ii.size&&Nat.ble ii.bytes (nat_lit 1000000)&&Nat.beq (eh (bW z)) ii.size)<| JS s ii.size (.slice a2 q.length c2) λn' new s=>eb (Nat.beq (eh new) (Nat.mul n' ii.size))<| eb (jj new)<| match Value.slice a i c with
    |.slice base len cap=>eb (Nat.ble (Nat.add len n') (nat_lit 1000000))<| og elem ii.size base len cap n' new s
    |_=>none
   |_=>none)=_
  have hff:jj (ah (sz:=sz) q)=true:=(l9 _).2 (zN _);simp only[cq,TY,UE,hi,tG,YM,Js,dm,ZM];show eb true _=_;simp only[gR ZN,gR hi7,lz,Fv];rw[eA,eA,Ks yl];simp only[hff];rw[show Nat.mul q.length sz=q.length*sz from rfl,kW,lz];rw[gR (show Nat.add i q.length<=1000000 by show i+q.length<=_;omega),tP];exact hr
 have hbb:∀{b:Nat}{o:Nat}{L:bn}{s:St},Inv Γ s (.aJ (.slice (some ⟨b,o,none⟩) p.length c) e sz (ah (sz:=sz) p)::L)->b<s.next:=λh=>(h.lt _ jr _ (by simp[It.aS,mN])).1
 have htake:(ah (sz:=sz) p).take (Nat.mul i sz)=ah (sz:=sz) (p.take i):=pw p i;have ri:=bc (sz:=sz) p;have YL:i*sz+q.length*sz<=p.length*sz:=by rw[<-mq];exact JB _ hn.2.1
 rcases sa.it _ jr with⟨h3,h4⟩|⟨b,n',k',w,h3,h4,h5,h6⟩
 .exfalso;have:=(Value.slice.inj h3).2.1;omega
 .cases h3
  have RQ:=hbb sa;have CJ:∀{β:Type}(k:aQ->TypeId->Bool->St->Option β),s1.row b k=k (ah (sz:=sz) p) e w (s1.aR b):=λk=>by unfold St.row St.look;rw[h4];rfl
  have CK:Inv Γ (s1.aR b) (.aJ (.slice (some ⟨b,0,none⟩) p.length c) e sz (ah (sz:=sz) p)::R):=sa.aR (sa.may jr (by simp[It.aS,mN]));have NH:kx s (s1.aR b) (λi=>i∈ai a2\/i∈ai (some ⟨b,0,none⟩)\/i=s.next) (λi=>i∈ai (some ⟨b,0,none⟩)\/i=s.next):=PQ.trans (cW RQ (.inr (.inl (by simp[ai]))));rcases h6 with⟨rfl,h6⟩|⟨rfl,rfl⟩
  .have hcu:Nat.ble eL p.length=false:=by rw[<-jJ,oc];omega
   have hfit:Nat.ble (Nat.add i q.length) p.length=true:=gR (show i+q.length<=_ from hn.2.1);rcases vC q.length with H2|H2
   .have hq0:q=[]:=mG H2;subst hq0;refine fS.pure (mg (.slice (some ⟨b,0,none⟩) i p.length,s1.aR b) ?_) ⟨_,_,_,CK,NH,?_⟩
    .rw[j2,CJ,hcu];show bo (Nat.ble (Nat.add i ([]:List α).length) p.length) _ _=_;rw[hfit];rfl
    .have:=k s.next (s1.aR b).next (some ⟨b,0,none⟩) p.length (some ⟨b,0,none⟩) p p.length h2.old (by rw[cw];omega) (λi hi=>.inl hi) ⟨⟨0,i,by simp,af,⟨.inl (by simp[PW])⟩⟩⟩
     rw[cX] at this;exact this
   .have RY:(p.take i++q++p.drop (i+q.length)).length=p.length:=by rw[bR,cX,gp];omega
    have tN:ah (sz:=sz) (p.take i++q++p.drop (i+q.length))=(ah (sz:=sz) p).take (i*sz)++ah (sz:=sz) q++(ah (sz:=sz) p).drop (i*sz+(ah (sz:=sz) q).length):=by
     rw[mP,mP,<-pw,<-rY,kW,mq]
    refine fS.pure (mg (.slice (some ⟨b,0,none⟩) (i+q.length) p.length,(s1.aR b).put b (some (.cells (ah (sz:=sz) (p.take i++q++p.drop (i+q.length))) e w))) ?_) ⟨.aJ (.slice (some ⟨b,0,none⟩) (p.take i++q++p.drop (i+q.length)).length p.length) e sz (ah (sz:=sz) (p.take i++q++p.drop (i+q.length)))::R,_,_,?_,NH.trans (jS (by simpa using RQ) (.inr (.inl (by simp[ai]))) (.inl (by simp[ai]))),?_⟩
    .rw[j2,CJ,hcu];show bo (Nat.ble (Nat.add i q.length) p.length) (bo (Nat.beq q.length 0) _ (ob (fO (0+i*sz) (ah (sz:=sz) q) (ah (sz:=sz) p)) _)) _=_;rw[hfit,Vj H2,ni,wR _ _ _ (by rw[kW,ri];exact YL),tN];rfl
    .refine CK.put yk.here (by simp[It.aS,mN]) (by simp[It.aS,mN]) ?_;exact .inr ⟨b,_,_,w,rfl,by simp,by rw[bc],.inl ⟨RY.symm,by rw[RY];exact h6⟩⟩
    .have:=k s.next ((s1.aR b).put b (some (.cells (ah (sz:=sz) (p.take i++q++p.drop (i+q.length))) e w))).next (some ⟨b,0,none⟩) p.length (some ⟨b,0,none⟩) (p.take i++q++p.drop (i+q.length)) p.length h2.old (by rw[dY,cw];omega) (λi hi=>.inl hi) ⟨⟨0,i+q.length,by rw[B1,<-cX,List.take_left],by rw[RY];omega,⟨.inl (by simp[PW])⟩⟩⟩
     rw[cX] at this;exact this
  .refine fS.pure (mg (.slice (some ⟨s1.next,0,none⟩) (i+q.length) eL,((s1.aR b).put b none).new (.cells (ah (sz:=sz) (p.take i++q)) e true)) ?_) ⟨.aJ (.slice (some ⟨s1.next,0,none⟩) (p.take i++q).length eL) e sz (ah (sz:=sz) (p.take i++q))::R,_,_,?_,(NH.trans (jS (by simpa using RQ) (.inr (.inl (by simp[ai]))) (.inl (by simp[ai])))).trans (uw (.inr (.inr (by simpa using NG))) (.inr (by simpa using NG))),?_⟩
   .rw[j2,CJ];show eb (true&&Nat.beq e e&&Nat.beq eL eL&&Nat.beq 0 0) (bo (Nat.beq (eh (ah (sz:=sz) p)) (Nat.mul i sz)) _ _)=_;have gx:Nat.beq (p.length*sz) (i*sz)=false:=by
     cases hb:Nat.beq (p.length*sz) (i*sz) with
     |false=>rfl
     |true=>
      have:=Nat.eq_of_mul_eq_mul_right enc.pos (oM hb);omega
    have htn:iD (i*sz) (ah (sz:=sz) p)=some (ah (sz:=sz) (p.take i)):=rZ (cs:=ah (sz:=sz) (p.take i)) (o:=0) (m:=i*sz) (by rw[B1];exact htake) (by rw[bc,htk]);rw[dm,ri,show Nat.mul i sz=i*sz from rfl,gx];simp only[lz];show eb (Nat.ble (i*sz+eh (ah (sz:=sz) q)) (p.length*sz)) (ob (iD (i*sz) (ah (sz:=sz) p)) _)=_;rw[dm,kW,gR YL,htn];show aG (bS ((s1.aR b).put b none) (Nat.add i q.length)) _=_;rw[mP];unfold bS;rw[dY,cw];rfl
   .have h7:=CK.kill (o:=none) (b:=b) (by simp[It.aS,mN]);have:=h7.new (o:=.cells (ah (sz:=sz) (p.take i++q)) e true) (x:=.aJ (.slice (some ⟨s1.next,0,none⟩) (p.take i++q).length eL) e sz (ah (sz:=sz) (p.take i++q))) (.inr ⟨s1.next,_,eL,true,rfl,by simp,by rw[bc],.inr ⟨rfl,rfl⟩⟩) (by simp[It.aS,mN]);exact this
   .have:=k s.next (((s1.aR b).put b none).new (.cells (ah (sz:=sz) (p.take i++q)) e true)).next (some ⟨s1.next,0,none⟩) eL (some ⟨s1.next,0,none⟩) (p.take i++q) eL h2.old (by simp;omega) (λi hi=>by right;simpa[ai,NG] using hi) Sub.all
    rw[cX] at this;rw[cX];exact this
end
class Gp (E:dy)(t:TypeId)(z:outParam Value):Prop where
 h:∃kt e,iQ E t=some (.map kt e)/\iQ E kt=some .string/\zero E e=some z
class PY (E:dy)(t:TypeId)(z:outParam Value):Prop where
 h:∃kt e k,iQ E t=some (.map kt e)/\iQ E kt=some (.int k)/\zero E e=some z
class PZ (E:dy)(t:TypeId):Prop where
 h:∃d,iQ E t=some d/\isIface d=false
class TPtr (E:dy)(t:TypeId):Prop where
 h:∃u,iQ E t=some (.pointer u)
section
variable {κ ν:Type}[DecidableEq κ]
def bN:List (κ×ν)->κ->Option ν
 |[],_=>none
 |p::m,k=>if k=p.1 then some p.2 else bN m k
def db:List (κ×ν)->κ->ν->List (κ×ν)
 |[],k,v=>[(k,v)]
 |p::m,k,v=>if k=p.1 then(k,v)::m else p::db m k v
def nN (kf:κ->Value)(vf:ν->Value)(m:List (κ×ν)):List (Value×Value):=m.map λp=>(kf p.1,vf p.2)
theorem nO:∀(m:List (κ×ν))(k k':κ)(v:ν),bN (db m k v) k'=if k'=k then some v else bN m k'
 |[],k,k',v=>by
  unfold db bN;split<;>rfl
 |p::m,k,k',v=>by
  unfold db;by_cases h:k=p.1
  .rw[if_pos h];unfold bN;by_cases h':k'=k
   .rw[if_pos h',if_pos h']
   .rw[if_neg h',if_neg h',if_neg (by rw[<-h];exact h')]
  .rw[if_neg h];unfold bN;by_cases h2:k'=p.1
   .rw[if_pos h2,if_pos h2,if_neg (λe=>h (e.symm.trans h2))]
   .rw[if_neg h2,if_neg h2,nO m k k' v]
variable {kf:κ->Value}{vf:ν->Value}
theorem zQ (hk:∀a b,ki (kf a) (kf b)=some (decide (a=b)))(k:κ):∀m:List (κ×ν),rI (kf k) (nN kf vf m)=some ((bN m k).map vf)
 |[]=>rfl
 |p::m=>by
  show ob (ki (kf k) (kf p.1)) (λb=>bo b (some (some (vf p.2))) (rI (kf k) (nN kf vf m)))=_;rw[hk,zQ hk k m];show _=some ((if k=p.1 then some p.2 else bN m k).map vf);by_cases h:k=p.1
  .rw[if_pos h,dO h];rfl
  .rw[if_neg h,iO h];rfl
theorem Kz (hk:∀a b,ki (kf a) (kf b)=some (decide (a=b)))(k:κ)(v:ν):∀m:List (κ×ν),(bN m k).isSome=true->M9 (kf k) (vf v) (nN kf vf m)=some (nN kf vf (db m k v))
 |[],h=>by cases h
 |p::m,h=>by
  show ob (ki (kf k) (kf p.1)) (λb=>bo b (some ((kf k,vf v)::nN kf vf m)) (ob (M9 (kf k) (vf v) (nN kf vf m)) λr=>some ((kf p.1,vf p.2)::r)))=_;rw[hk];unfold bN at h;unfold db;by_cases h':k=p.1
  .rw[if_pos h'];simp only[h',decide_true];rfl
  .rw[if_neg h'] at h;rw[if_neg h',Kz hk k v m h];simp only[h',decide_false];rfl
theorem KA (k:κ)(v:ν):∀m:List (κ×ν),bN m k=none->nN kf vf m++[(kf k,vf v)]=nN kf vf (db m k v)
 |[],h=>rfl
 |p::m,h=>by
  unfold bN at h;unfold db;by_cases h':k=p.1
  .rw[if_pos h'] at h;cases h
  .rw[if_neg h'] at h;rw[if_neg h'];show(kf p.1,vf p.2)::(nN kf vf m++[(kf k,vf v)])=_;rw[KA k v m h];rfl
theorem KB (a b:List UInt8):ki (sv a) (sv b)=some (decide (a=b)):=by
 show some (gv a b)=_;rw[eQ];by_cases h:a=b<;>simp[h]
theorem RZ (a b:Int):ki (iv a) (iv b)=some (decide (a=b)):=by
 show eb (pK .i64 .i64) (some (xM a b))=_;rw[jv];by_cases h:a=b
 .subst h;simp;rfl
 .rw[show(a== b)=false by simpa using h,iO h];rfl
end
section
variable {E:dy}{X:dM}{Γ:gY}{l:Kn}{L L' R:bn}{K:KO}{x y o fv:Operand}{t:TypeId}{ts:Array TypeId}{s:St}{b:Nat}{κ ν:Type}[DecidableEq κ]{kf:κ->Value}{vf:ν->Value}{m:List (κ×ν)}{k:κ}{v d:ν}{z:Value}{g:FuncId}{fi ca vs ws:aQ}{xs ys:List Operand}
theorem WO.makeMap (h:∀b,kb L b->K (.map (some b)) (.fy b (.map [])::L) b (b+1) (λi=>i=b) (λi=>i=b)):WO E X Γ l (.makeMap t none) L K:=
 WO.news (mk:=λb=>.map (some b)) (ob:=λ_=>.map []) (it:=λb=>.fy b (.map [])) (λtm s call hl _=>rfl) (λs b h=>h) (λb=>rfl) h
theorem NN {kt e:TypeId}{kd:TypeDesc}(h1:iQ E t=some (.map kt e))(h2:iQ E kt=some kd)(h3:xP E kt kd (kf k)=true)(h4:zero E e=some z)(hk:∀a b,ki (kf a) (kf b)=some (decide (a=b)))(hz:vf d=z){o:gh}(ho:o= .map (nN kf vf m))(hg:s.heap.get b=some o)(ok:Bool):
  xR E s t (.map (some b)) (kf k) ok=some (bo ok (.tuple ⟨[vf ((bN m k).getD d),.bool (bN m k).isSome]⟩) (vf ((bN m k).getD d)),s.aR b):=by
 subst ho;unfold xR;rw[h1];show ob (iQ E kt) _=_;rw[h2];show eb (xP E kt kd (kf k)) _=_;rw[h3,eA,h4];show ob (s.look b) _=_;unfold St.look;rw[hg];show ob (rI (kf k) (nN kf vf m)) _=_;rw[zQ hk];cases bN m k with
 |none=>rw[<-hz];rfl
 |some v=>rfl
theorem WO.Vw {kt e:TypeId}{kd:TypeDesc}(h1:iQ E t=some (.map kt e))(h2:iQ E kt=some kd)(h3:xP E kt kd (kf k)=true)(h4:zero E e=some z)(hk:∀a b,ki (kf a) (kf b)=some (decide (a=b)))(hz:vf d=z)(hx:Ev l x (.map (some b)))(hy:Ev l y (kf k))(hm:It.fy b (.map (nN kf vf m))∈L)(ok:Bool)
  (h:∀n,K (bo ok (.tuple ⟨[vf ((bN m k).getD d),.bool (bN m k).isSome]⟩) (vf ((bN m k).getD d))) L n n (λi=>i=b) Z):WO E X Γ l (.lookup t x y ok) L K:=λtm s hl hi=>by
 have lg:=hi.may hm (b:=b) (by simp[It.aS]);refine fS.pure (v:=bo ok (.tuple ⟨[vf ((bN m k).getD d),.bool (bN m k).isSome]⟩) (vf ((bN m k).getD d))) (s':=s.aR b) (λcall=>?_) ⟨L,(λi=>i=b),Z,hi.aR lg,cW lg.1 rfl,by rw[cw];exact h _⟩;show xR E s t (aI tm x) (aI tm y) ok=_;rw[hx.eval hl,hy.eval hl];exact NN h1 h2 h3 h4 hk hz rfl (hi.it _ hm) ok
theorem WO.updG {kt e:TypeId}{kd:TypeDesc}(h1:iQ E t=some (.map kt e))(h2:iQ E kt=some kd)(h3:xP E kt kd (kf k)=true)(hk:∀a b,ki (kf a) (kf b)=some (decide (a=b)))(hx:Ev l x (.map (some b)))(hy:Ev l y (kf k))(hw:Ev l o (vf v))(hu:yk (.fy b (.map (nN kf vf m))) (.fy b (.map (nN kf vf (db m k v)))) L L')
  (h:∀n,K (.tuple ⟨[]⟩) L' n n (λi=>i=b) (λi=>i=b)):WO E X Γ l (.mapUpdate t x y o) L K:=λtm s hl hi=>by
 obtain⟨R,p1,p2⟩:=hu.cR;have hm:It.fy b (.map (nN kf vf m))∈L:=p1.mem_iff.2 (by simp);have lg:=hi.may hm (b:=b) (by simp[It.aS]);refine fS.pure (v:=.tuple ⟨[]⟩) (s':=s.put b (some (.map (nN kf vf (db m k v))))) (λcall=>?_) ⟨L',(λi=>i=b),(λi=>i=b),hi.put hu rfl rfl (by show T.get (St.heap _) b=_;simp),jS lg.1 rfl rfl,by rw[dY];exact h _⟩;show sE E s t (aI tm x) (aI tm y) (aI tm o)=_;rw[hx.eval hl,hy.eval hl,hw.eval hl];unfold sE;rw[h1];show ob (iQ E kt) _=_;rw[h2];show eb (xP E kt kd (kf k)) _=_;rw[h3,eA];show ob (s.look b) _=_;have hg:s.heap.get b=some (.map (nN kf vf m)):=hi.it _ hm;unfold St.look;rw[hg];show ob (rI (kf k) (nN kf vf m)) _=_;rw[zQ hk];cases ha:bN m k with
 |none=>
  show aG (Value.tuple ⟨[]⟩) (s.put b (some (.map (nN kf vf m++[(kf k,vf v)]))))=_;rw[KA k v m ha];rfl
 |some w=>
  show ob (M9 (kf k) (vf v) (nN kf vf m)) _=_;rw[Kz hk k v m (by rw[ha];rfl)];rfl
omit [DecidableEq κ] in
theorem WO.lenMap {kt e:TypeId}(h1:iQ E t=some (.map kt e))(hx:Ev l x (.map (some b)))(hm:It.fy b (.map (nN kf vf m))∈L)
  (h:∀n,K (iv (m.length:Int)) L n n (λi=>i=b) Z):WO E X Γ l (.call ⟨.builtin .len,⟨[x]⟩,⟨[t]⟩⟩) L K:=λtm s hl hi=>by
 have lg:=hi.may hm (b:=b) (by simp[It.aS]);refine fS.pure (v:=iv (m.length:Int)) (s':=s.aR b) (λcall=>?_) ⟨L,(λi=>i=b),Z,hi.aR lg,cW lg.1 rfl,by rw[cw];exact h _⟩;show rJ E s .len [t] (aI tm x)=_;rw[hx.eval hl];show Bt E s t b=_;have hg:s.heap.get b=some (.map (nN kf vf m)):=hi.it _ hm;unfold Bt;rw[h1];show ob (s.look b) _=_;unfold St.look;rw[hg];show aG (Value.int .i64 (.ofNat (eh (nN kf vf m)))) (s.aR b)=_;rw[dm];unfold nN;rw[vL];rfl
end
section
variable {E:dy}{X:dM}{Γ:gY}{l:Kn}{L L' R:bn}{K:KO}{x y o fv:Operand}{t:TypeId}{ts:Array TypeId}{s:St}{b:Nat}{g:FuncId}{fi ca vs ws:aQ}{xs ys:List Operand}
abbrev CP (m:List (Int×Int)):gh:=.map (nN iv iv m)
abbrev E1 (m:List (List UInt8×Int)):gh:=.map (nN sv iv m)
abbrev E2 (m:List (List UInt8×Bool)):gh:=.map (nN sv Value.bool m)
theorem WO.lookII [ht:PY E t (iv 0)]{m:List (Int×Int)}{k:Int}(hx:Ev l x (.map (some b)))(hy:Ev l y (iv k))(hm:It.fy b (CP m)∈L)(h:∀n,K (iv ((bN m k).getD 0)) L n n (λi=>i=b) Z):WO E X Γ l (.lookup t x y false) L K:=by
 obtain⟨kt,e,kd,h1,h2,h3⟩:=ht.h;exact WO.Vw h1 h2 rfl h3 RZ rfl hx hy hm false h
theorem WO.lookSI [ht:Gp E t (iv 0)]{m:List (List UInt8×Int)}{k:List UInt8}(hx:Ev l x (.map (some b)))(hy:Ev l y (sv k))(hm:It.fy b (E1 m)∈L)(h:∀n,K (iv ((bN m k).getD 0)) L n n (λi=>i=b) Z):WO E X Γ l (.lookup t x y false) L K:=by
 obtain⟨kt,e,h1,h2,h3⟩:=ht.h;exact WO.Vw h1 h2 rfl h3 KB rfl hx hy hm false h
theorem WO.lookSB [ht:Gp E t (.bool false)]{m:List (List UInt8×Bool)}{k:List UInt8}(hx:Ev l x (.map (some b)))(hy:Ev l y (sv k))(hm:It.fy b (E2 m)∈L)(h:∀n,K (.bool ((bN m k).getD false)) L n n (λi=>i=b) Z):WO E X Γ l (.lookup t x y false) L K:=by
 obtain⟨kt,e,h1,h2,h3⟩:=ht.h;exact WO.Vw h1 h2 rfl h3 KB rfl hx hy hm false h
theorem WO.updII {z:Value}[ht:PY E t z]{m:List (Int×Int)}{k v:Int}(hx:Ev l x (.map (some b)))(hy:Ev l y (iv k))(hw:Ev l o (iv v))(hu:yk (.fy b (CP m)) (.fy b (CP (db m k v))) L L')(h:∀n,K (.tuple ⟨[]⟩) L' n n (λi=>i=b) (λi=>i=b)):WO E X Γ l (.mapUpdate t x y o) L K:=by
 obtain⟨kt,e,kd,h1,h2,h3⟩:=ht.h;exact WO.updG h1 h2 rfl RZ hx hy hw hu h
theorem WO.updSI {z:Value}[ht:Gp E t z]{m:List (List UInt8×Int)}{k:List UInt8}{v:Int}(hx:Ev l x (.map (some b)))(hy:Ev l y (sv k))(hw:Ev l o (iv v))(hu:yk (.fy b (E1 m)) (.fy b (E1 (db m k v))) L L')(h:∀n,K (.tuple ⟨[]⟩) L' n n (λi=>i=b) (λi=>i=b)):WO E X Γ l (.mapUpdate t x y o) L K:=by
 obtain⟨kt,e,h1,h2,h3⟩:=ht.h;exact WO.updG h1 h2 rfl KB hx hy hw hu h
theorem WO.updSB {z:Value}[ht:Gp E t z]{m:List (List UInt8×Bool)}{k:List UInt8}{v:Bool}(hx:Ev l x (.map (some b)))(hy:Ev l y (sv k))(hw:Ev l o (.bool v))(hu:yk (.fy b (E2 m)) (.fy b (E2 (db m k v))) L L')(h:∀n,K (.tuple ⟨[]⟩) L' n n (λi=>i=b) (λi=>i=b)):WO E X Γ l (.mapUpdate t x y o) L K:=by
 obtain⟨kt,e,h1,h2,h3⟩:=ht.h;exact WO.updG h1 h2 rfl KB hx hy hw hu h
theorem WO.lenII {z:Value}[ht:PY E t z]{m:List (Int×Int)}(hx:Ev l x (.map (some b)))(hm:It.fy b (CP m)∈L)(h:∀n,K (iv (m.length:Int)) L n n (λi=>i=b) Z):WO E X Γ l (.call ⟨.builtin .len,⟨[x]⟩,⟨[t]⟩⟩) L K:=by
 obtain⟨kt,e,kd,h1,h2,h3⟩:=ht.h;exact WO.lenMap h1 hx hm h
theorem zR:∀vs:aQ,ky l (vs.map Operand.const) vs
 |[]=>.nil
 |v::vs=>.cons .const (zR vs)
theorem WO.viaF (hf:Ev l fv (.func (.func g) ⟨fi⟩ ⟨ca⟩))(hx:ky l xs vs)(k:WO E X Γ l (.call ⟨.value (.func g),⟨(fi++(vs++ca)).map Operand.const⟩,ts⟩) L K):WO E X Γ l (.call ⟨.value fv,⟨xs⟩,ts⟩) L K:=λtm s hl hi=>by
 obtain⟨N,v,s',hk,hr⟩:=k tm s hl hi;refine⟨N,v,s',hk,λn hn lf BG=>(?_:_=_).trans (hr n hn lf BG)⟩;generalize qN E X lf [] n=call;show wA call (aI tm fv) (wy (aI tm) xs) s=wA call (.func (.func g) #[] #[]) (wy (aI tm) ((fi++(vs++ca)).map Operand.const)) s;rw[hf.eval hl,qD,qD,hx.eval hl,(zR _).eval hl];show call g _ s=call g _ s;simp
theorem WO.invoke {mn:String}{it:TypeId}{a:Addr}(hr:Ev l fv (.iface it (.pointer (some a))))(hm:lQ it mn E.rF=some g)(hx:ky l xs vs)(k:WO E X Γ l (.call ⟨.value (.func g),⟨(Value.pointer (some a)::vs).map Operand.const⟩,ts⟩) L K):WO E X Γ l (.call ⟨.invoke fv mn,⟨xs⟩,ts⟩) L K:=λtm s hl hi=>by
 obtain⟨N,v,s',hk,Rp⟩:=k tm s hl hi;refine⟨N,v,s',hk,λn hn lf BG=>(?_:_=_).trans (Rp n hn lf BG)⟩;generalize qN E X lf [] n=call;show Bu E call (aI tm fv) mn (wy (aI tm) xs) s=wA call (.func (.func g) #[] #[]) (wy (aI tm) ((Value.pointer (some a)::vs).map Operand.const)) s;rw[hr.eval hl,qD,qD,hx.eval hl,(zR _).eval hl];unfold Bu;show ob (lQ it mn E.rF) _=_;rw[hm];show call g _ s=call g _ s;simp
theorem WO.makeFunc {fn:Fn}(hx:ky l xs vs)(hy:ky l ys ws)(k:∀n,K (.func fn ⟨vs⟩ ⟨ws⟩) L n n Z Z):WO E X Γ l (.makeFunc fn ⟨xs⟩ ⟨ys⟩) L K:=WO.val (λtm s call hl=>by
 show aG (Value.func fn ⟨wy (aI tm) xs⟩ ⟨wy (aI tm) ys⟩) s=_;rw[qD,qD,hx.eval hl,hy.eval hl];rfl) k
theorem WO.Gq [ht:PZ E t]{v:Value}(hx:Ev l x v)(k:∀n,K (.iface t v) L n n Z Z):WO E X Γ l (.makeInterface t x) L K:=WO.val (λtm s call hl=>by
 show Nb E t (aI tm x) s=_;rw[hx.eval hl];obtain⟨d,h1,h2⟩:=ht.h;unfold Nb;rw[h1];show eb (!isIface d) _=_;rw[h2];rfl) k
theorem WO.nilFunc {f:FuncId}{a b:Array Value}(hx:Ev l x (.func (.func f) a b))(k:∀n,K (.func (.func f) a b) L n n Z Z):WO E X Γ l (.nilCheck x) L K:=WO.val (λtm s call hl=>by
 show FL E (aI tm x) s=_;rw[hx.eval hl];rfl) k
theorem WO.Vx [ht:TPtr E t]{t2:TypeId}{p:aH}(hx:Ev l x (.pointer p))(hy:Ev l y (.pointer none))(k:∀n,K (.bool p.isNone) L n n Z Z):WO E X Γ l (.binOp .eql t x y t2) L K:=WO.bin hx hy (λcc=>by
 obtain⟨u,h1⟩:=ht.h;show ob (iQ E t) (λd=>Cb .eql (YW E d (.pointer p) (.pointer none)))=_;rw[h1];cases p<;>rfl) k
end
end Go.Lg
namespace Go.Proofs
open Go Go.Ev Go.Lg
instance:iG aU 3 1:=⟨by kernel_rfl⟩
instance:ny aU 3:=mO cU
instance:rX aU 3 [.int .i64 0]:=kL cU
instance:wN aU 3 .i64:=⟨by kernel_rfl⟩
instance:iG aU 4 1:=⟨by kernel_rfl⟩
instance:ny aU 4:=mO cU
instance:Vg aU 4:=⟨by kernel_rfl⟩
instance:ny aU 5:=mO cU
instance:wN aU 5 .u8:=⟨by kernel_rfl⟩
instance:iG aU 9 1:=⟨by kernel_rfl⟩
instance:ny aU 9:=mO cU
instance:yj aU 9:=⟨by kernel_rfl⟩
instance:ny aU 22:=mO cU
instance Vy:tQ aU 22 5 1 [.int .u8 0]:=s7 cU
instance:o9 aU 22 5 1:=n3 Vy
instance:iG aU 23 1:=⟨by kernel_rfl⟩
instance:ny aU 23:=mO cU
instance Vz:tQ aU 23 70 2 [.string ⟨⟨[]⟩⟩,.int .i64 0]:=s7 cU
instance:o9 aU 23 70 2:=n3 Vz
instance:iG aU 24 1:=⟨by kernel_rfl⟩
instance:ny aU 24:=mO cU
instance VA:tQ aU 24 37 3 [.int .i64 0,.bool false,.string ⟨⟨[]⟩⟩]:=s7 cU
instance:o9 aU 24 37 3:=n3 VA
instance:iG aU 26 2:=⟨by kernel_rfl⟩
instance:vG aU 26 2:=rj cU
instance:rX aU 26 [.slice none 0 0,.slice none 0 0]:=kL cU
instance:lX aU 26 [(0,1),(1,1)] [.slice none 0 0,.slice none 0 0]:=jT cU
instance:ix aU 26 0 0:=dL cU
instance:ix aU 26 1 1:=dL cU
instance:iG aU 28 5:=⟨by kernel_rfl⟩
instance:vG aU 28 5:=rj cU
instance:rX aU 28 [.int .i64 0,.string ⟨⟨[]⟩⟩,.string ⟨⟨[]⟩⟩,.int .i64 0,.string ⟨⟨[]⟩⟩]:=kL cU
instance:lX aU 28 [(0,1),(1,1),(2,1),(3,1),(4,1)] [.int .i64 0,.string ⟨⟨[]⟩⟩,.string ⟨⟨[]⟩⟩,.int .i64 0,.string ⟨⟨[]⟩⟩]:=jT cU
instance:ix aU 28 0 0:=dL cU
instance:ix aU 28 1 1:=dL cU
instance:ix aU 28 2 2:=dL cU
instance:ix aU 28 3 3:=dL cU
instance:ix aU 28 4 4:=dL cU
instance:iG aU 37 3:=⟨by kernel_rfl⟩
instance:vG aU 37 3:=rj cU
instance:rX aU 37 [.int .i64 0,.bool false,.string ⟨⟨[]⟩⟩]:=kL cU
instance:lX aU 37 [(0,1),(1,1),(2,1)] [.int .i64 0,.bool false,.string ⟨⟨[]⟩⟩]:=jT cU
instance:ix aU 37 0 0:=dL cU
instance:ix aU 37 1 1:=dL cU
instance:ix aU 37 2 2:=dL cU
instance:lX aU 51 [(0,1),(1,1)] [.slice none 0 0,.int .i64 0]:=jT cU
instance:ix aU 51 0 0:=dL cU
instance:ix aU 51 1 1:=dL cU
instance:iG aU 52 1:=⟨by kernel_rfl⟩
instance:ny aU 52:=mO cU
instance VB:tQ aU 52 9 1 [.string ⟨⟨[]⟩⟩]:=s7 cU
instance:o9 aU 52 9 1:=n3 VB
instance:ny aU 53:=mO cU
instance VC:tQ aU 53 3 1 [.int .i64 0]:=s7 cU
instance:o9 aU 53 3 1:=n3 VC
instance:iG aU 55 2:=⟨by kernel_rfl⟩
instance:vG aU 55 2:=rj cU
instance:rX aU 55 [.slice none 0 0,.slice none 0 0]:=kL cU
instance:lX aU 55 [(0,1),(1,1)] [.slice none 0 0,.slice none 0 0]:=jT cU
instance:ix aU 55 0 0:=dL cU
instance:ix aU 55 1 1:=dL cU
instance:iG aU 56 1:=⟨by kernel_rfl⟩
instance:ny aU 56:=mO cU
instance VD:tQ aU 56 60 5 [.int .i64 0,.int .i64 0,.int .i64 0,.int .i64 0,.int .i64 0]:=s7 cU
instance:o9 aU 56 60 5:=n3 VD
instance:iG aU 58 8:=⟨by kernel_rfl⟩
instance:vG aU 58 8:=rj cU
instance:rX aU 58 [.slice none 0 0,.slice none 0 0,.slice none 0 0,.int .i64 0,.slice none 0 0,.int .i64 0,.slice none 0 0,.bool false]:=kL cU
instance:lX aU 58 [(0,1),(1,2),(3,1),(4,1),(5,1),(6,1),(7,1)] [.slice none 0 0,.slice none 0 0,.slice none 0 0,.int .i64 0,.slice none 0 0,.int .i64 0,.slice none 0 0,.bool false]:=jT cU
instance:ix aU 58 0 0:=dL cU
instance:ix aU 58 1 1:=dL cU
instance:ix aU 58 2 3:=dL cU
instance:ix aU 58 3 4:=dL cU
instance:ix aU 58 4 5:=dL cU
instance:ix aU 58 5 6:=dL cU
instance:ix aU 58 6 7:=dL cU
instance:iG aU 60 5:=⟨by kernel_rfl⟩
instance:vG aU 60 5:=rj cU
instance:rX aU 60 [.int .i64 0,.int .i64 0,.int .i64 0,.int .i64 0,.int .i64 0]:=kL cU
instance:lX aU 60 [(0,1),(1,1),(2,1),(3,1),(4,1)] [.int .i64 0,.int .i64 0,.int .i64 0,.int .i64 0,.int .i64 0]:=jT cU
instance:ix aU 60 0 0:=dL cU
instance:ix aU 60 1 1:=dL cU
instance:ix aU 60 2 2:=dL cU
instance:ix aU 60 3 3:=dL cU
instance:ix aU 60 4 4:=dL cU
instance:iG aU 62 7:=⟨by kernel_rfl⟩
instance:vG aU 62 7:=rj cU
instance:rX aU 62 [.int .i64 0,.int .i64 0,.int .i64 0,.int .i64 0,.int .i64 0,.int .i64 0,.int .i64 0]:=kL cU
instance:lX aU 62 [(0,5),(5,1),(6,1)] [.int .i64 0,.int .i64 0,.int .i64 0,.int .i64 0,.int .i64 0,.int .i64 0,.int .i64 0]:=jT cU
instance:ix aU 62 0 0:=dL cU
instance:ix aU 62 1 5:=dL cU
instance:ix aU 62 2 6:=dL cU
instance:iG aU 70 2:=⟨by kernel_rfl⟩
instance:vG aU 70 2:=rj cU
instance:rX aU 70 [.string ⟨⟨[]⟩⟩,.int .i64 0]:=kL cU
instance:lX aU 70 [(0,1),(1,1)] [.string ⟨⟨[]⟩⟩,.int .i64 0]:=jT cU
instance:ix aU 70 0 0:=dL cU
instance:ix aU 70 1 1:=dL cU
instance row99:tQ aU 99 28 5 [.int .i64 0,.string ⟨⟨[]⟩⟩,.string ⟨⟨[]⟩⟩,.int .i64 0,.string ⟨⟨[]⟩⟩]:=s7 cU
instance:o9 aU 99 28 5:=n3 row99
instance VE:tQ aU 106 109 10 [.int .i64 0,.int .i64 0,.int .i64 0,.int .i64 0,.int .i64 0,.int .i64 0,.int .i64 0,.int .i64 0,.int .i64 0,.int .i64 0]:=s7 cU
instance:o9 aU 106 109 10:=n3 VE
instance:iG aU 109 10:=⟨by kernel_rfl⟩
instance:vG aU 109 10:=rj cU
instance:rX aU 109 [.int .i64 0,.int .i64 0,.int .i64 0,.int .i64 0,.int .i64 0,.int .i64 0,.int .i64 0,.int .i64 0,.int .i64 0,.int .i64 0]:=kL cU
instance:lX aU 109 [(0,1),(1,1),(2,1),(3,7)] [.int .i64 0,.int .i64 0,.int .i64 0,.int .i64 0,.int .i64 0,.int .i64 0,.int .i64 0,.int .i64 0,.int .i64 0,.int .i64 0]:=jT cU
instance:ix aU 109 0 0:=dL cU
instance:ix aU 109 1 1:=dL cU
instance:ix aU 109 2 2:=dL cU
instance:ix aU 109 3 3:=dL cU
instance:ny aU 118:=mO cU
instance:wN aU 134 .u64:=⟨by kernel_rfl⟩
instance:lX aU 140 [(0,8),(8,7),(15,1)] [.slice none 0 0,.slice none 0 0,.slice none 0 0,.int .i64 0,.slice none 0 0,.int .i64 0,.slice none 0 0,.bool false,.int .i64 0,.int .i64 0,.int .i64 0,.int .i64 0,.int .i64 0,.int .i64 0,.int .i64 0,.bool false]:=jT cU
instance:ix aU 140 0 0:=dL cU
instance:ix aU 140 1 8:=dL cU
instance:ix aU 140 2 15:=dL cU
instance VF:tQ aU 180 186 2 [.string ⟨⟨[]⟩⟩,.int .i64 0]:=s7 cU
instance:o9 aU 180 186 2:=n3 VF
instance:iG aU 186 2:=⟨by kernel_rfl⟩
instance:vG aU 186 2:=rj cU
instance:rX aU 186 [.string ⟨⟨[]⟩⟩,.int .i64 0]:=kL cU
instance:lX aU 186 [(0,1),(1,1)] [.string ⟨⟨[]⟩⟩,.int .i64 0]:=jT cU
instance:ix aU 186 0 0:=dL cU
instance:ix aU 186 1 1:=dL cU
instance:PY aU 74 (iv 0):=⟨3,3,.i64,by kernel_rfl,by kernel_rfl,by kernel_rfl⟩
instance:Gp aU 75 (iv 0):=⟨9,3,by kernel_rfl,by kernel_rfl,by kernel_rfl⟩
instance:Gp aU 76 (.bool false):=⟨9,4,by kernel_rfl,by kernel_rfl,by kernel_rfl⟩
instance:TPtr aU 77:=⟨37,by kernel_rfl⟩
instance:PZ aU 84:=⟨.pointer 26,by kernel_rfl,rfl⟩
instance:TEq aU 37 [0,2,1]:=⟨by decide⟩
instance:TEq aU 60 [0,0,0,0,0]:=⟨by decide⟩
instance:TEq aU 70 [1,0]:=⟨by decide⟩
end Go.Proofs
