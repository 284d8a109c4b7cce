/- Lemmas of the proof. No conditions. -/
import Derived.Test.YtajgfdfbnhchcaaGreatDoorProg
import Derived.Test.YtajgfdfbnhchcaaGreatDoorAa
set_option maxRecDepth 100000
set_option maxHeartbeats 4000000
set_option linter.unusedVariables false
set_option linter.unusedSimpArgs false
open Go.Proofs.Tryz
namespace Go
theorem zar{P:Prop}(h:P:=by
 have hv:=yN.slv (hi.it _ hm) λb hb=>(h1 b hb).1
 obtain⟨s',h2,h3⟩:=K5 (ht:=ht) (j:=i) ⟨.inl ⟨rfl,rfl⟩,.inr ⟨o,k,rfl,ho⟩,ag⟩ hl hv;have mD:∀call:dJ,Fb E call (aM tm) s (.slice t x none (some o) none)=some (.slice a i c,s'):=λcall=>by
  show kj E s t (aM tm x) _ _ none=_;rw[hx.eval hl];exact h2
 rcases h3 with rfl|⟨b,lB,rfl⟩
 all_goals(rcases(_:_)with h;exact h)):P:=h
theorem zaF{P:Prop}(h:P:=by
 have mD:∀call:dJ,Fb E call (aM tm) s (.slice t x lo ‹Option Operand› none)=some (.slice a' q.length c',s'):=λcall=>by
  show kj E s t (aM tm x) _ _ none=_;rw[hx.eval hl,h2,c8]
 rcases h3 with rfl|⟨b,lB,rfl⟩
 all_goals(rcases(_:_)with h;exact h)):P:=h
theorem zaO{P:Prop}(h:P:=by
 have h1:=h.1;have h2:=h.2;unfold IntKind.wrap;simp[IntKind.signed,IntKind.bits];omega
 all_goals(rcases(_:_)with h;exact h)):P:=h
theorem zaR{P:Prop}(h:P:=by
 have:=j6 h2;simp only[cx] at this;obtain⟨rfl,rfl,rfl⟩:=this;exact⟨hc.1,λX A ρ w a Q hp gL ht hQ=>wp_block (hc.2 X A ρ w a _ hp gL ht hQ)⟩
 all_goals(rcases(_:_)with h;exact h)):P:=h
theorem zaS{P:Prop}(h:P:=by
 have:=j6 h2;simp only[cx] at this;obtain⟨rfl,rfl,rfl⟩:=this;exact⟨hx.1,λX A ρ w a Q hp gL ht hQ=>wp_seq (hx.2 X A ρ w a _ hp gL ht hQ)⟩
 all_goals(rcases(_:_)with h;exact h)):P:=h
theorem zaU{P:Prop}(h:P:=by
 have:=j6 h2;simp only[cx] at this;obtain⟨rfl,rfl,rfl⟩:=this;exact⟨BQ.1,λX A ρ w a Q hp gL ht hQ=>xk (BQ.2 X A ρ w a _ hp gL ht hQ)⟩
 all_goals(rcases(_:_)with h;exact h)):P:=h
end Go
namespace Go.Ev
open Go
section
variable {E:dA}{P:Program}{call:dJ}{aB:List Oper}{TM:Nat->Tm}{S S':Nat->St}{V:Nat->Value}{X A0:Nat->Prop}{UG:fB}{w0:World}{W:Nat}
def VA (S:Nat->St)(k i:Nat):Prop:=(S k).next<=i/\i<(S (k+1)).next
def Dp (aB:List Oper)(S:Nat->St)(A0:Nat->Prop)(j:Nat):Nat->Prop:=λi=>A0 i\/∃k,anc aB j k/\VA S k i
def DA (aB:List Oper)(S:Nat->St)(A0:Nat->Prop)(j:Nat):Nat->Prop:=λi=>Dp aB S A0 j i\/VA S j i
def Sh (aB:List Oper)(S S':Nat->St)(A0:Nat->Prop)(L:Nat->Bool)(b:Nat)(o:gF)(D:Nat->Prop):Prop:=
 ((∀k,L k=true->¬In (S' k).wr b)/\(S 0).heap.get b=some o/\D=A0)\/
 ∃k,L k=true/\In (S' k).wr b/\(∀k',L k'=true->In (S' k').wr b->k'<=k)/\(S' k).heap.get b=some o/\D=DA aB S A0 k
structure Inv (P:Program)(aB:List Oper)(S S':Nat->St)(V:Nat->Value)(X A0:Nat->Prop)(UG:fB)(w0:World)(W:Nat)(L:Nat->Bool)(vals:Nat->Value)(w:World)(ρ:fB):Prop where
 same:∀i,(∀k,L k=true->¬VA S k i)->ρ i=UG i
 lp:∀b o D,X b->Sh aB S S' A0 L b o D->D b/\∃x,w.heap[(ρ b).1]?=some x/\Ft P D ρ (ρ b) o x
 inj:∀b b' o o' D D',X b->X b'->Sh aB S S' A0 L b o D->Sh aB S S' A0 L b' o' D'->(ρ b).1=(ρ b').1->b=b'
 vals:∀k,L k=true->VR (DA aB S A0 k) ρ (V k) (vals k)
 fQ:Fr w0 w λr=>∃c o,In W c/\X c/\(S 0).heap.get c=some o/\(UG c).1=r
 old:∀b o D,X b->Sh aB S S' A0 L b o D->b<(S 0).next->(S 0).heap.get b≠none
 bD:∀b o D,X b->Sh aB S S' A0 L b o D->(S 0).next<=b->w0.heap.size<=(ρ b).1\/∃c o,In W c/\X c/\(S 0).heap.get c=some o/\(ρ b).1=(UG c).1
theorem di.agp {j:Nat}(hS:(S (j+1)).next=(S' j).next):di (Dp aB S A0 j) (S j).next (S' j).next=DA aB S A0 j:=by
 funext i
 unfold di DA VA;rw[hS]
section chain
theorem kR (hE:cS E P)(hC:dP P call)(dS:pn E call aB 0 aB.length TM S V S'){j:Nat}(hj:j<aB.length):aF (S j) (S' j):=by
 obtain⟨o,ho⟩:∃o,aB[j]?=some o:=⟨aB[j],bd hj⟩;rcases(dS.step j o (iJ _) hj ho).2.2 with⟨_,h⟩|⟨_,_,h⟩
 .exact(IH hE hC h).1
 .rw[h];exact aF.refl _
theorem sh (hE:cS E P)(hC:dP P call)(dS:pn E call aB 0 aB.length TM S V S'){j:Nat}(hj:j<aB.length){b:Nat}(h:In (S' j).wr b):In (S' j).cO b:=
 (kR hE hC dS hj).sub (λc hc=>by rw[(dS.clear j (iJ _) (rU hj)).2] at hc;exact absurd hc (qZ c)) b h
theorem nY (hE:cS E P)(hC:dP P call)(dS:pn E call aB 0 aB.length TM S V S'){j:Nat}(hj:j<aB.length):(S (j+1)).next=(S' j).next/\(S (j+1)).heap=(S' j).heap:=by
 have _h1:=hE;have _h2:=hC;obtain⟨o,ho⟩:∃o,aB[j]?=some o:=⟨aB[j],bd hj⟩;rw[(dS.step j o (iJ _) hj ho).2.1,jI];exact⟨rfl,rfl⟩
theorem ff (hE:cS E P)(hC:dP P call)(dS:pn E call aB 0 aB.length TM S V S'){i j:Nat}(mR:i<=j)(hj:j<=aB.length):(S i).next<=(S j).next:=by
 induction j with
 |zero=>have:i=0:=by omega
        subst this;exact cA _
 |succ j ih=>
  rcases lq i (j+1) with h|h
  .refine ik (ih ag ag) ?_;rw[(nY hE hC dS ag).1];exact(kR hE hC dS ag).next
  .have:i=j+1:=by omega
   subst this;exact cA _
theorem q8 (hE:cS E P)(hC:dP P call)(dS:pn E call aB 0 aB.length TM S V S')(kK:∀b,(S 0).next<=b->(S 0).heap.get b=none){j:Nat}(hj:j<=aB.length):∀b,(S j).next<=b->(S j).heap.get b=none:=by
 induction j with
 |zero=>exact kK
 |succ j ih=>
  obtain⟨h1,h2⟩:=nY hE hC dS (j:=j) ag;rw[h1,h2];exact(kR hE hC dS ag).eh (ih ag)
theorem C6 (hE:cS E P)(hC:dP P call)(dS:pn E call aB 0 aB.length TM S V S')(kK:∀b,(S 0).next<=b->(S 0).heap.get b=none){j:Nat}(hj:j<=aB.length){b:Nat}{o:gF}(h:(S j).heap.get b=some o):((∀k,k<j->¬In (S' k).wr b)/\(S 0).heap.get b=some o)\/∃k,k<j/\In (S' k).wr b/\(∀k',k'<j->In (S' k').wr b->k'<=k)/\(S' k).heap.get b=some o:=by
 induction j with
 |zero=>exact .inl ⟨λk hk=>by omega,h⟩
 |succ j ih=>
  obtain⟨h1,h2⟩:=nY hE hC dS (j:=j) ag;rw[h2] at h;by_cases hw:In (S' j).wr b
  .exact .inr ⟨j,ag,hw,λk' Fg _=>by omega,h⟩
  .have hg:=kR hE hC dS (j:=j) ag;have hb:b<(S j).next:=by
    rcases lq b (S j).next with h3|h3
    .exact h3
    .rcases lq b (S' j).next with h4|h4
     .exact absurd (hg.made b h3 h4) hw
     .rw[hg.eh (q8 hE hC dS kK ag) b h4] at h;cases h
   rw[hg.kept b hb hw] at h;rcases ih ag h with⟨h3,h4⟩|⟨k,h3,h4,h5,h6⟩
   .refine .inl ⟨λk hk=>?_,h4⟩;rcases lq k j with h5|h5
    .exact h3 k h5
    .have:k=j:=by omega
     subst this;exact hw
   .refine .inr ⟨k,ag,h4,λk' Fg C7=>?_,h6⟩;rcases lq k' j with h7|h7
    .exact h5 k' h7 C7
    .have:k'=j:=by omega
     subst this;exact absurd C7 hw
theorem vB (hE:cS E P)(hC:dP P call)(du:∀j oj,aB[j]?=some oj->∀e∈oj.after,Region.binds .any e=true->e.on<j)(dS:pn E call aB 0 aB.length TM S V S')(kK:∀b,(S 0).next<=b->(S 0).heap.get b=none){L:Nat->Bool}{j:Nat}{oj:Oper}(yG:aB[j]?=some oj)(VB:L j=false)(UH:∀e∈oj.after,Region.binds .any e=true->L e.on=true)(hL:tk ⟨aB⟩ L)(NF:∀k,L k=true->k<aB.length)
  {b:Nat}{o:gF}(kQ:In (S' j).cO b)(h:(S j).heap.get b=some o):∃D,Sh aB S S' A0 L b o D/\∀i,D i->Dp aB S A0 j i:=by
 have hj:j<aB.length:=(ug.1 yG).1;have uP:∀NC,aB[j]?=some NC->∀e∈NC.after,Region.binds .any e=true->L e.on=true:=λNC h'=>by rw[yG] at h';cases h';exact UH
 have later:∀k',L k'=true->In (S' k').wr b->k'<j:=λk' Fg C7=>by
  rcases CC k' j with h1|h1|h1
  .exact h1
  .subst h1;rw[VB] at Fg;cases Fg
  .exfalso;have hkn:=NF k' Fg;rcases dS.apart j k' (iJ _) h1 hkn with h2|h2
   .obtain⟨ok,fF⟩:∃o,aB[k']?=some o:=⟨aB[k'],bd hkn⟩;have h3:=xi du fF h2 L hL (λNC h' e he hb=>hL k' NC (by simpa using h') Fg e he hb);rw[VB] at h3;cases h3
   .exact h2.2 b ⟨kQ,C7⟩
 rcases C6 hE hC dS kK (rU hj) h with⟨h1,h2⟩|⟨k,h1,h2,h3,h4⟩
 .exact⟨A0,.inl ⟨λk hk hw=>h1 k (later k hk hw) hw,h2,rfl⟩,λi hi=>.inl hi⟩
 .have adK:anc aB j k:=by
   rcases dS.apart k j (iJ _) h1 hj with h5|h5
   .exact xi du yG h5
   .exact absurd ⟨h2,kQ⟩ (h5.1 b)
  refine⟨DA aB S A0 k,.inr ⟨k,adK L hL uP,h2,λk' Fg C7=>h3 k' (later k' Fg C7) C7,h4,rfl⟩,?_⟩;rintro i ((hi|⟨k2,hi,hr⟩)|hi)
  .exact .inl hi
  .exact .inr ⟨k2,GM adK hi,hr⟩
  .exact .inr ⟨k,adK,hi⟩
end chain
end
section
variable {E:dA}{P:Program}{call:dJ}{aB:List Oper}{TM:Nat->Tm}{S S':Nat->St}{V:Nat->Value}{X A0:Nat->Prop}{UG:fB}{w0:World}{W:Nat}
theorem GP (hE:cS E P)(hC:dP P call)(dS:pn E call aB 0 aB.length TM S V S'){k j:Nat}(Sg:k≠j)(hk:k<aB.length)(hj:j<aB.length){i:Nat}(h:VA S k i):¬VA S j i:=by
 rintro⟨h1,h2⟩;obtain⟨h3,h4⟩:=h;rcases lq k j with h5|h5
 .have:=ff hE hC dS (i:=k+1) (j:=j) ag ag;omega
 .have:=ff hE hC dS (i:=j+1) (j:=k) ag ag;omega
theorem agq (hE:cS E P)(hC:dP P call)(du:∀j oj,aB[j]?=some oj->∀e∈oj.after,Region.binds .any e=true->e.on<j)(dS:pn E call aB 0 aB.length TM S V S')(hA:∀i,A0 i->i<(S 0).next){j:Nat}(hj:j<aB.length):∀i,Dp aB S A0 j i->i<(S j).next:=by
 rintro i (h|⟨k,hk,hr⟩)
 .have:=hA i h;have:=ff hE hC dS (i:=0) (j:=j) ag ag;omega
 .have Sg:=Vz du hk;have:=ff hE hC dS (i:=k+1) (j:=j) ag ag;have:=hr.2;omega
variable {L:Nat->Bool}{vals:Nat->Value}{w:World}{ρ:fB}{j:Nat}{oj:Oper}
theorem Si (hE:cS E P)(hC:dP P call)(du:∀j oj,aB[j]?=some oj->∀e∈oj.after,Region.binds .any e=true->e.on<j)(dS:pn E call aB 0 aB.length TM S V S')(kK:∀b,(S 0).next<=b->(S 0).heap.get b=none)(hX:∀k,k<aB.length->∀b,In (S' k).cO b->X b)(yG:aB[j]?=some oj)(VB:L j=false)(UH:∀e∈oj.after,Region.binds .any e=true->L e.on=true)(hL:tk ⟨aB⟩ L)(NF:∀k,L k=true->k<aB.length)(hI:Inv P aB S S' V X A0 UG w0 W L vals w ρ):fb P (In (S' j).cO) (Dp aB S A0 j) ρ (S j).heap.get w:=by
 have hj:j<aB.length:=(ug.1 yG).1;refine⟨λb o kQ h=>?_,λb b' o o' kQ ab9 h h' e=>?_⟩
 .obtain⟨D,hc,jg⟩:=vB (A0:=A0) hE hC du dS kK yG VB UH hL NF kQ h;obtain⟨h1,x,h2,h3⟩:=hI.lp b o D (hX j hj b kQ) hc;exact⟨jg b h1,x,h2,h3.mono jg (λ_ _=>rfl)⟩
 .obtain⟨D,hc,_⟩:=vB (A0:=A0) hE hC du dS kK yG VB UH hL NF kQ h;obtain⟨D',ui,_⟩:=vB (A0:=A0) hE hC du dS kK yG VB UH hL NF ab9 h';exact hI.inj b b' o o' D D' (hX j hj b kQ) (hX j hj b' ab9) hc ui e
theorem KQ (hE:cS E P)(hC:dP P call)(du:∀j oj,aB[j]?=some oj->∀e∈oj.after,Region.binds .any e=true->e.on<j)(dS:pn E call aB 0 aB.length TM S V S')(kK:∀b,(S 0).next<=b->(S 0).heap.get b=none)(hA:∀i,A0 i->i<(S 0).next)(hX:∀k,k<aB.length->∀b,In (S' k).cO b->X b)(hW:∀k,k<aB.length->∀b,In (S' k).wr b->In W b)(yG:aB[j]?=some oj)(VB:L j=false)(UH:∀e∈oj.after,Region.binds .any e=true->L e.on=true)(hL:tk ⟨aB⟩ L)(NF:∀k,L k=true->k<aB.length)(hI:Inv P aB S S' V X A0 UG w0 W L vals w ρ){w':World}{eI:fB}{v':Value}(hv:VR (di (Dp aB S A0 j) (S j).next (S' j).next) eI (V j) v')(hG:Good P (In (S' j).cO) (Dp aB S A0 j) ρ (S j) (S' j) w w' eI):
  Inv P aB S S' V X A0 UG w0 W (gI L j true) (gI vals j v') w' eI:=by
 have hj:j<aB.length:=(ug.1 yG).1;obtain⟨Qr,GC⟩:=nY hE hC dS hj;have Zt:=kR hE hC dS hj;have uP:∀k NC,aB[k]?=some NC->L k=true->∀e∈NC.after,Region.binds .any e=true->L e.on=true:=λk NC h' hk=>hL k NC (by simpa using h') hk
 have jg:=λb=>sh hE hC dS hj (b:=b)
 have FF:=λb o kQ h=>vB (A0:=A0) (b:=b) (o:=o) hE hC du dS kK yG VB UH hL NF kQ h
 have aj6:(S 0).next<=(S j).next:=ff hE hC dS (iJ _) (rU hj)
 have Ao:∀b o D,Sh aB S S' A0 (gI L j true) b o D->(In (S' j).wr b/\(S' j).heap.get b=some o/\D=DA aB S A0 j)\/(¬In (S' j).wr b/\Sh aB S S' A0 L b o D):=by
  intro b o D hc;have hup:∀k,L k=true->gI L j true k=true:=λk hk=>by unfold gI;split<;>first|rfl|exact hk
  have Sj:gI L j true j=true:=by simp[gI]
  rcases hc with⟨h1,h2,h3⟩|⟨k,h1,h2,h3,h4,h5⟩
  .exact .inr ⟨h1 j Sj,.inl ⟨λk hk=>h1 k (hup k hk),h2,h3⟩⟩
  .by_cases hw:In (S' j).wr b
   .have Sg:k=j:=by
     rcases CC k j with h6|h6|h6
     .have:=h3 j Sj hw;omega
     .exact h6
     .exfalso;have hk:L k=true:=by unfold gI at h1;rw[if_neg ag] at h1;exact h1
      have hkn:=NF k hk;obtain⟨ok,fF⟩:∃o,aB[k]?=some o:=⟨aB[k],bd hkn⟩;rcases dS.apart j k (iJ _) h6 hkn with h7|h7
      .have:=xi du fF h7 L hL (λNC h' e he hb=>uP k NC h' hk e he hb);rw[VB] at this;cases this
      .exact h7.1 b ⟨hw,sh hE hC dS hkn h2⟩
    subst Sg;exact .inl ⟨hw,h4,h5⟩
   .have Sg:k≠j:=by rintro rfl;exact hw h2
    have hk:L k=true:=by unfold gI at h1;rw[if_neg Sg] at h1;exact h1
    exact .inr ⟨hw,.inr ⟨k,hk,h2,λk' Fg C7=>h3 k' (hup k' Fg) C7,h4,h5⟩⟩
 have hDA:∀k,L k=true->∀i,DA aB S A0 k i->eI i=ρ i:=λk hk i hi=>hG.same i λhr=>by
  rw[<-Qr] at hr;have hkn:=NF k hk;rcases hi with(hi|⟨k2,hi,nG⟩)|hi
  .have:=hA i hi;omega
  .have yH:L k2=true:=hi L hL (λNC h' e he hb=>uP k NC h' hk e he hb);exact GP hE hC dS (by rintro rfl;rw[VB] at yH;cases yH) (NF k2 yH) hj nG hr
  .exact GP hE hC dS (by rintro rfl;rw[VB] at hk;cases hk) hkn hj hi hr
 have KR:∀b o D,Sh aB S S' A0 L b o D->∀i,D i->eI i=ρ i:=by
  rintro b o D (⟨_,_,rfl⟩|⟨k,hk,_,_,_,rfl⟩) i hi
  .exact hG.same i λhr=>by have:=hA i hi;omega
  .exact hDA k hk i hi
 have agr:∀b,b<(S j).next->eI b=ρ b:=λb hb=>hG.same b λhr=>by omega
 have Od:∀b o,In (S' j).wr b->(S' j).heap.get b=some o->b<(S j).next->∃o2,(S j).heap.get b=some o2:=λb o hw h hb=>
  J8.1 (hG.old b hb (by rw[h];simp))
 have VC:∀b o,(S' j).heap.get b=some o->b<(S' j).next:=λb o h=>by
  rcases lq b (S' j).next with h1|h1
  .exact h1
  .rw[hG.eh b h1] at h;cases h
 have hXj:=hX j hj;have ags:∀b b' o o' D',In (S' j).wr b->(S' j).heap.get b=some o->¬In (S' j).wr b'->X b'->Sh aB S S' A0 L b' o' D'->(eI b).1=(eI b').1->False:=by
  intro b b' o o' D' hw h C7 rN ui e;obtain⟨hD',x',Sk,_⟩:=hI.lp b' o' D' rN ui;rw[KR b' o' D' ui b' hD'] at e;rcases lq b (S j).next with hb|hb
  .obtain⟨o2,Oa⟩:=Od b o hw h hb;obtain⟨D2,qH,_⟩:=FF b o2 (jg b hw) Oa;rw[agr b hb] at e;have:=hI.inj b b' o2 o' D2 D' (hXj b (jg b hw)) rN qH ui e;subst this;exact C7 hw
  .rcases hG.bD b hb (VC b o h) (by rw[h];simp) with h1|⟨c,o3,vy,qH,Ix,h1⟩
   .have:=(yc.1 Sk).1;omega
   .obtain⟨D3,UC,_⟩:=FF c o3 qH Ix;rw[h1] at e;have:=hI.inj c b' o3 o' D3 D' (hXj c qH) rN UC ui e;subst this;exact C7 vy
 refine⟨λi hi=>?_,λb o D hx hc=>?_,λb b' o o' D D' hx rN hc ui e=>?_,λk hk=>?_,?_,λb o D hx hc hb=>?_,λb o D hx hc hb=>?_⟩
 .rw[hG.same i λhr=>hi j (by simp[gI]) (by unfold VA;rw[Qr];exact hr)];exact hI.same i λk hk=>hi k (by unfold gI;split<;>first|rfl|exact hk)
 .rcases Ao b o D hc with⟨hw,h,rfl⟩|⟨hw,qH⟩
  .have:=hG.state.lp b o (jg b hw) h;rw[di.agp Qr] at this;exact this
  .obtain⟨h1,x,h2,h3⟩:=hI.lp b o D hx qH;have Vv:=KR b o D qH;refine⟨h1,x,?_,?_⟩
   .rw[Vv b h1,hG.fQ.block _ (yc.1 h2).1 ?_]
    .exact h2
    .rintro⟨c,o2,Ix,UC,hc5,e⟩;obtain⟨D2,hc6,_⟩:=FF c o2 UC hc5;have:=hI.inj c b o2 o D2 D (hXj c UC) hx hc6 qH e;subst this;exact hw Ix
   .rw[Vv b h1];exact h3.mono (λ_ h=>h) Vv
 .rcases Ao b o D hc with⟨hw,h,rfl⟩|⟨hw,qH⟩
  .rcases Ao b' o' D' ui with⟨C7,h',rfl⟩|⟨C7,VD⟩
   .exact hG.state.inj b b' o o' (jg b hw) (jg b' C7) h h' e
   .exact(ags b b' o o' D' hw h C7 rN VD e).elim
  .rcases Ao b' o' D' ui with⟨C7,h',rfl⟩|⟨C7,VD⟩
   .exact(ags b' b o' o D C7 h' hw hx qH e.symm).elim
   .rw[KR b o D qH b (hI.lp b o D hx qH).1,KR b' o' D' VD b' (hI.lp b' o' D' rN VD).1] at e;exact hI.inj b b' o o' D D' hx rN qH VD e
 .by_cases Sg:k=j
  .subst Sg;simp only[gI,if_true];rw[<-di.agp Qr];exact hv
  .have Fg:L k=true:=by unfold gI at hk;rw[if_neg Sg] at hk;exact hk
   simp only[gI,Sg,pg];exact(hI.vals k Fg).mono (λ_ h=>h) (hDA k Fg)
 .refine⟨hG.fQ.os.trans hI.fQ.os,hG.fQ.tape.trans hI.fQ.tape,hG.fQ.output.trans hI.fQ.output,ik hI.fQ.size hG.fQ.size,λr hr ht=>?_⟩;rw[hG.fQ.block r (yb hr hI.fQ.size) ?_,hI.fQ.block r hr ht];rintro⟨c,o,vy,qH,Ix,e⟩;obtain⟨D,UC,_⟩:=FF c o qH Ix;rcases lq c (S 0).next with h1|h1
  .obtain⟨o2,Oa⟩:=J8.1 (hI.old c o D (hXj c qH) UC h1);refine ht ⟨c,o2,hW j hj c vy,hXj c qH,Oa,?_⟩;rw[<-e,hI.same c λk hk R6=>by
    have:=ff hE hC dS (i:=0) (j:=k) (iJ _) (rU (NF k hk));have:=R6.1;omega]
  .rcases hI.bD c o D (hXj c qH) UC h1 with h2|⟨c',o',h3,h4,h5,h6⟩
   .omega
   .exact ht ⟨c',o',h3,h4,h5,by rw[<-h6,e]⟩
 .rcases Ao b o D hc with⟨hw,h,rfl⟩|⟨hw,qH⟩
  .obtain⟨o2,Oa⟩:=Od b o hw h ag;obtain⟨D2,qH,_⟩:=FF b o2 (jg b hw) Oa;exact hI.old b o2 D2 hx qH hb
  .exact hI.old b o D hx qH hb
 .have key:∀c o2,In (S' j).wr c->In (S' j).cO c->(S j).heap.get c=some o2->w0.heap.size<=(ρ c).1\/∃c' o',In W c'/\X c'/\(S 0).heap.get c'=some o'/\(ρ c).1=(UG c').1:=by
   intro c o2 vy qH Ix;obtain⟨D2,UC,_⟩:=FF c o2 qH Ix;rcases lq c (S 0).next with h1|h1
   .obtain⟨o3,ho3⟩:=J8.1 (hI.old c o2 D2 (hXj c qH) UC h1);refine .inr ⟨c,o3,hW j hj c vy,hXj c qH,ho3,?_⟩;rw[hI.same c λk hk R6=>by
     have:=ff hE hC dS (i:=0) (j:=k) (iJ _) (rU (NF k hk));have:=R6.1;omega]
   .exact hI.bD c o2 D2 (hXj c qH) UC h1
  rcases Ao b o D hc with⟨hw,h,rfl⟩|⟨hw,qH⟩
  .rcases lq b (S j).next with h1|h1
   .obtain⟨o2,Oa⟩:=Od b o hw h h1;rw[agr b h1];exact key b o2 hw (jg b hw) Oa
   .rcases hG.bD b h1 (VC b o h) (by rw[h];simp) with h2|⟨c,o3,vy,qH,Ix,h2⟩
    .exact .inl (ik hI.fQ.size h2)
    .rw[h2];exact key c o3 vy qH Ix
  .rw[KR b o D qH b (hI.lp b o D hx qH).1];exact hI.bD b o D hx qH hb
end
section
variable {E:dA}{P:Program}{call:dJ}{aB:List Oper}{TM:Nat->Tm}{S S':Nat->St}{V:Nat->Value}{X A0:Nat->Prop}{UG:fB}{w0:World}{W N:Nat}{a0:Act}
theorem Oe (hE:cS E P)(hC:dP P call)(dS:pn E call aB 0 aB.length TM S V S'){j:Nat}(hj:j<=aB.length){b:Nat}(hb:b<(S 0).next)(hw:∀k,k<j->¬In (S' k).wr b):(S j).heap.get b=(S 0).heap.get b:=by
 induction j with
 |zero=>rfl
 |succ j ih=>
  obtain⟨h1,h2⟩:=nY hE hC dS (j:=j) ag;rw[h2,(kR hE hC dS ag).kept b (by have:=ff hE hC dS (i:=0) (j:=j) (iJ _) ag;omega) (hw j ag),ih ag λk hk=>hw k ag]
theorem Of (hE:cS E P)(hC:dP P call)(dS:pn E call aB 0 aB.length TM S V S'){j:Nat}(hj:j<=aB.length){b:Nat}(h1:(S 0).next<=b)(h2:b<(S j).next):∃k,k<j/\In (S' k).wr b:=by
 induction j with
 |zero=>omega
 |succ j ih=>
  obtain⟨h3,h4⟩:=nY hE hC dS (j:=j) ag;rcases lq b (S j).next with h5|h5
  .obtain⟨k,hk,yH⟩:=ih ag h5;exact⟨k,ag,yH⟩
  .exact⟨j,ag,(kR hE hC dS ag).made b h5 ag⟩
theorem C8 (hE:cS E P)(hC:dP P call)(dS:pn E call aB 0 aB.length TM S V S')(k:Nat)(vals:Nat->Value):gY ⟨aB⟩ a0 (λ_=>true) vals (k+1)=(gY ⟨aB⟩ a0 (λ_=>true) vals k).put (((⟨aB⟩:Array Oper)[k]?).bind (·.dst)) (vals k):=by
 have _h1:=hE;have _h2:=hC;have _h3:=dS
 conv=>lhs;unfold gY
 simp
theorem VE (hE:cS E P)(hC:dP P call)(dS:pn E call aB 0 aB.length TM S V S')(kH:∀o∈aB,uN N o=true){j:Nat}{L:Nat->Bool}{vals:Nat->Value}{w:World}{ρ:fB}(hA:∀i,A0 i->i<(S 0).next)(NF:∀k,L k=true->k<aB.length)(hI:Inv P aB S S' V X A0 UG w0 W L vals w ρ)(ht0:NB A0 UG N (TM 0) a0)(t:Nat):
  ∀k,k<=aB.length->(∀i o,i<k->aB[i]?=some o->o.dst=some t->anc aB j i/\L i=true)->VR (Dp aB S A0 j) ρ (lV ((TM k).get t)) ((gY ⟨aB⟩ a0 (λ_=>true) vals k).tmps.getD t undef)
 |0,_,_=>by
  refine(ht0.2 t).mono (λi hi=>.inl hi) λi hi=>?_
  refine hI.same i λk hk hr=>?_
  have:=hA i hi;have:=ff hE hC dS (i:=0) (j:=k) (iJ _) (rU (NF k hk));have:=hr.1;omega
 |k+1,hk,h=>by
  obtain⟨o,ho⟩:∃o,aB[k]?=some o:=⟨aB[k],bd ag⟩;have Zw:=kH o (Ke ho);have ih:=VE hE hC dS kH hA NF hI ht0 t k ag λi oi hi=>h i oi ag
  rw[C8 hE hC dS,(dS.step k o (iJ _) ag ho).1];have A9:(⟨aB⟩:Array Oper)[k]?=some o:=by simpa using ho
  rw[A9];simp only[AV];cases hd:o.dst with
  |none=>exact ih
  |some d=>
   have hdN:=nX Zw d hd;have iW:(gY ⟨aB⟩ a0 (λ_=>true) vals k).tmps.size=N:=by rw[oK];exact ht0.1
   rw[KK _ d t _ (by rw[iW];exact hdN)];unfold Tm.gY;simp only[T.vt];by_cases htd:t=d
   .subst htd;simp only[if_true];obtain⟨h1,h2⟩:=h k o ag ho hd;refine(hI.vals k h2).mono (λi hi=>?_) (λ_ _=>rfl);rcases hi with(hi|⟨k2,hi,hr⟩)|hi
    .exact .inl hi
    .exact .inr ⟨k2,GM h1 hi,hr⟩
    .exact .inr ⟨k,h1,hi⟩
   .simp only[htd,pg];exact ih
end
section
variable {E:dA}{P:Program}{call:dJ}{N:Nat}{tm jx:Tm}{s s':St}
theorem VF (hE:cS E P)(hC:dP P call)(hm:P.follows .mixedOrders=true){aB:List Oper}(kH:∀o∈aB,uN N o=true)(agt:An ⟨aB⟩=true)(h:uE E call aB aB 0 tm s []=some (jx,s')):
  aF s s'/\∀X A ρ w a Q id,o8 P X A ρ s s' w->Gl A ρ->NB A ρ N tm a->(∀a' w',Left P X A ρ N s s' w a jx a' w'->Q Exit.normal a' w')->(Code.region id ⟨aB⟩ true).wp P Q a w:=by
 obtain⟨TM,S,V,S',dS,e1,e2,e3,e4,jg,hA1,hW1,hA2,hW2,_⟩:=C4 hE hC aB aB 0 tm s [] (by simp) h;rw[nF] at dS e3 e4 jg hA2 hW2;have Sl:(S 0).next=s.next/\(S 0).heap=s.heap:=by rw[e2,jI];exact⟨rfl,rfl⟩
 have hSn:(S aB.length).next=s'.next/\(S aB.length).heap=s'.heap:=by rw[e4,jI];exact⟨rfl,rfl⟩
 have C2:=Bc agt;have du:∀j oj,aB[j]?=some oj->∀e∈oj.after,Region.binds .any e=true->e.on<j:=λj oj hj=>(C2.2 j oj (by simpa using hj)).1
 have IN:aF s s':=by
  refine⟨?_,hA1,hW1,λb h1 h2=>?_,λhs b hb=>?_,λb hb hw=>?_,λha b hb=>?_⟩
  .rw[<-Sl.1,<-hSn.1];exact ff hE hC dS (iJ _) (cA _)
  .obtain⟨k,hk,yH⟩:=Of hE hC dS (cA _) (b:=b) ag ag;exact(jg k (iJ _) hk).2 b yH
  .rcases hW2 b hb with h1|⟨i,_,h2,h3⟩
   .exact hA1 b (hs b h1)
   .exact(jg i (iJ _) h2).1 b (sh hE hC dS h2 h3)
  .rw[<-hSn.2,<-Sl.2];exact Oe hE hC dS (cA _) ag λk hk C7=>hw ((jg k (iJ _) hk).2 b C7)
  .rw[<-hSn.2];exact q8 hE hC dS (by rw[Sl.1,Sl.2];exact ha) (cA _) b ag
 refine⟨IN,λX A ρ w a Q id hp gL ht hQ=>?_⟩;have kK:∀b,(S 0).next<=b->(S 0).heap.get b=none:=by rw[Sl.1,Sl.2];exact hp.eh
 have hA:∀i,A i->i<(S 0).next:=by rw[Sl.1];exact hp.lt
 have hX:∀k,k<aB.length->∀b,In (S' k).cO b->X b:=λk hk b hb=>hp.cO b ((jg k (iJ _) hk).1 b hb)
 have hW:∀k,k<aB.length->∀b,In (S' k).wr b->In s'.wr b:=λk hk=>(jg k (iJ _) hk).2
 have ht0:NB A ρ N (TM 0) a:=by rw[e1];exact ht
 refine FE hm agt (λL vals w1=>(∀k,L k=true->k<aB.length)/\∃BM,Inv P aB S S' V X A ρ w.drew s'.wr L vals w1 BM) (λL vals w1 i o ho hLi UH hL NF hI=>?_) (λL vals w1 bS hI=>?_) ?_
 .obtain⟨C9,BM,hI⟩:=hI;have A9:aB[i]?=some o:=by simpa using ho
  have hi:i<aB.length:=(ug.1 A9).1;have Zw:=kH o (Ke A9);have agu:∀k,gI L i true k=true->k<aB.length:=λk hk=>by
   unfold gI at hk;split at hk
   .omega
   .exact C9 k hk
  have KM:∀t,t∈o.looksAt ⟨aB⟩->VR (Dp aB S A i) BM (lV ((TM i).get t)) ((gY ⟨aB⟩ a (λ_=>true) vals i).tmps.getD t undef):=λt pz=>
   VE hE hC dS kH hA C9 hI ht0 t i ag λk ok hk fF hd=>by
    rcases(C2.2 i o ho).2.1 k ok hk (by simpa using fF) with⟨e,he,hb,UF⟩|J1
    .subst UF;exact⟨Oc A9 he hb,UH e he hb⟩
    .exact absurd pz ((Oper.apart_spec J1).1 t hd)
  have agv:Gl (Dp aB S A i) BM:=gL.mono (λj hj=>.inl hj) λj hj=>hI.same j λk hk hr=>by
   have:=hA j hj;have:=ff hE hC dS (i:=0) (j:=k) (iJ _) (rU (C9 k hk));have:=hr.1;omega
  have jw:=Si hE hC du dS kK hX A9 hLi UH hL C9 hI;have Vy:Region.wanted o (yielded ⟨aB⟩ (gY ⟨aB⟩ a (λ_=>true) vals i).tmps)=ie aB (TM i) o.guard:=by
   refine Ak (A:=Dp aB S A i) (ρ:=BM) (N:=N) (by rw[oK];exact ht0.1) (λp hp d hd=>nX (kH p hp) d hd) λg want hg d hd=>?_
   refine KM d ?_;unfold Oper.looksAt;refine dz _ ?_;have:((⟨aB⟩:Array Oper)[g]?).bind (·.dst)=some d:=by
    unfold mr at hd;rw[dR] at hd;simp only[Kd];cases hq:aB[g]? with
    |none=>rw[hq] at hd;cases hd
    |some p=>rw[hq] at hd;exact hd
   rw[hg];simp only[this];simp
  rw[Vy];rcases(dS.step i o (iJ _) hi A9).2.2 with⟨ND,mD⟩|⟨ND,hv,hs⟩
  .refine⟨λ_=>?_,λhf=>by rw[ND] at hf;cases hf⟩;obtain⟨BN,aj7⟩:=IH hE hC mD;have Sm:o8 P (In (S' i).cO) (Dp aB S A i) BM (S i) (S' i) w1:=⟨agq hE hC du dS hA hi,q8 hE hC dS kK (rU hi),λb hb=>hb,jw⟩;refine Oper.wp_mono (λa' w' GI=>?_) (aj7 (In (S' i).cO) (Dp aB S A i) BM w1 (gY ⟨aB⟩ a (λ_=>true) vals i) _ Sm agv λx hx=>Ci (Bb Zw x hx) agv λt JZ=>KM t ?_)
   .obtain⟨v',ha',B8,GH,hG⟩:=GI;exact⟨v',ha',agu,B8,KQ hE hC du dS kK hA hX hW A9 hLi UH hL C9 hI GH hG⟩
   .subst JZ;exact cP _ (List.mem_filterMap.2 ⟨.tmp t,by simpa using hx,rfl⟩)
  .refine⟨λhf=>(by rw[ND] at hf;cases hf),λ_=>⟨agu,BM,?_⟩⟩;refine KQ hE hC du dS kK hA hX hW A9 hLi UH hL C9 hI ?_ ?_
   .rw[hv];exact VR.undef
   .rw[hs] at jw⊢;exact Good.refl jw (q8 hE hC dS kK (rU hi))
 .obtain⟨C9,BM,hI⟩:=hI;have aca:∀i,i<aB.length->L i=true:=λi hi=>bS i (by simpa using hi)
  have aj8:∀i,A i->BM i=ρ i:=λi hi=>hI.same i λk hk hr=>by
   have:=hA i hi;have:=ff hE hC dS (i:=0) (j:=k) (iJ _) (rU (C9 k hk));have:=hr.1;omega
  have adL:∀k i,k<aB.length->VA S k i->s.next<=i/\i<s'.next:=λk i hk hr=>by
   have h1:=ff hE hC dS (i:=0) (j:=k) (iJ _) (rU hk);have h2:=ff hE hC dS (i:=k+1) (j:=aB.length) ag (cA _);have:=hr.1;have:=hr.2;omega
  have hDA:∀k,k<aB.length->∀i,DA aB S A k i->di A s.next s'.next i:=λk hk i hi=>by
   rcases hi with(hi|⟨k2,hi,hr⟩)|hi
   .exact .inl hi
   .have:=Vz du hi;exact .inr (adL k2 i ag hr)
   .exact .inr (adL k i hk hi)
  have FF:∀b o,s'.heap.get b=some o->((∀k,k<aB.length->¬In (S' k).wr b)/\s.heap.get b=some o/\Sh aB S S' A L b o A)\/∃k,k<aB.length/\In (S' k).wr b/\Sh aB S S' A L b o (DA aB S A k):=by
   intro b o hb;rw[<-hSn.2] at hb;rcases C6 hE hC dS kK (cA _) hb with⟨h1,h2⟩|⟨k,h1,h2,h3,h4⟩
   .exact .inl ⟨h1,by rw[<-Sl.2];exact h2,.inl ⟨λk hk=>h1 k (C9 k hk),h2,rfl⟩⟩
   .exact .inr ⟨k,h1,h2,.inr ⟨k,aca k h1,h2,λk' Fg C7=>h3 k' (C9 k' Fg) C7,h4,rfl⟩⟩
  have VG:∀b o,s'.heap.get b=some o->∃D,Sh aB S S' A L b o D/\∀i,D i->di A s.next s'.next i:=by
   intro b o hb;rcases FF b o hb with⟨_,_,h1⟩|⟨k,hk,_,h1⟩
   .exact⟨A,h1,λi hi=>.inl hi⟩
   .exact⟨_,h1,hDA k hk⟩
  refine hQ _ w1 ⟨?_,BM,?_,⟨IN.next,λi hi=>?_,⟨λb o hx hb=>?_,λb b' o o' hx rN hb lB e=>?_⟩,?_,λb hb fK=>?_,λb hb KN fK=>?_,IN.kept,IN.eh hp.eh⟩⟩
  .have:∀k,(gY ⟨aB⟩ a (λ_=>true) vals k).defers=a.defers:=λk=>by
    induction k with
    |zero=>rfl
    |succ k ih=>rw[C8 hE hC dS,uO,ih]
   exact this _
  .have key:∀k,k<=aB.length->NB (di A s.next s'.next) BM N (TM k) (gY ⟨aB⟩ a (λ_=>true) vals k):=λk=>by
    induction k with
    |zero=>exact λ_=>ht0.mono (λi hi=>.inl hi) aj8
    |succ k ih=>
     intro hk;obtain⟨o,ho⟩:∃o,aB[k]?=some o:=⟨aB[k],bd ag⟩;rw[C8 hE hC dS,(dS.step k o (iJ _) ag ho).1];have A9:(⟨aB⟩:Array Oper)[k]?=some o:=by simpa using ho
     rw[A9];exact(ih ag).put ((hI.vals k (aca k ag)).mono (hDA k ag) (λ_ _=>rfl)) (nX (kH o (Ke ho)))
   rw[<-e3];exact key aB.length (cA _)
  .exact hI.same i λk hk hr=>hi (adL k i (C9 k hk) hr)
  .obtain⟨D,hc,hD⟩:=VG b o hb;obtain⟨h1,x,h2,h3⟩:=hI.lp b o D hx hc;exact⟨hD b h1,x,h2,h3.mono hD (λ_ _=>rfl)⟩
  .obtain⟨D,hc,_⟩:=VG b o hb;obtain⟨D',ui,_⟩:=VG b' o' lB;exact hI.inj b b' o o' D D' hx rN hc ui e
  .have:=hI.fQ;rw[Sl.2] at this;exact⟨this.os,this.tape,this.output,this.size,this.block⟩
  .obtain⟨o,ho⟩:=J8.1 fK;rcases FF b o ho with⟨_,h1,_⟩|⟨k,hk,hw,hc⟩
   .rw[h1];simp
   .have:=hI.old b o _ (hX k hk b (sh hE hC dS hk hw)) hc ag;rw[Sl.2] at this;exact this
  .obtain⟨o,ho⟩:=J8.1 fK;rcases FF b o ho with⟨_,h1,_⟩|⟨k,hk,hw,hc⟩
   .rw[hp.eh b hb] at h1;cases h1
   .have:=hI.bD b o _ (hX k hk b (sh hE hC dS hk hw)) hc ag;rw[Sl.2] at this;exact this
 .refine⟨λk hk=>(by cases hk),ρ,λi _=>rfl,λb o D hx hc=>?_,λb b' o o' D D' hx rN hc ui e=>?_,λk hk=>(by cases hk),⟨rfl,rfl,rfl,cA _,λ_ _ _=>rfl⟩,λb o D hx hc hb=>?_,λb o D hx hc hb=>?_⟩
  .rcases hc with⟨_,h1,rfl⟩|⟨k,hk,_⟩
   .rw[Sl.2] at h1;exact hp.st.lp b o hx h1
   .cases hk
  .rcases hc with⟨_,h1,rfl⟩|⟨k,hk,_⟩
   .rcases ui with⟨_,h2,rfl⟩|⟨k,hk,_⟩
    .rw[Sl.2] at h1 h2;exact hp.st.inj b b' o o' hx rN h1 h2 e
    .cases hk
   .cases hk
  .rcases hc with⟨_,h1,rfl⟩|⟨k,hk,_⟩
   .rw[h1];simp
   .cases hk
  .rcases hc with⟨_,h1,rfl⟩|⟨k,hk,_⟩
   .rw[kK b hb] at h1;cases h1
   .cases hk
end
def codeOk (N:Nat):Code->Bool
 |.region _ aB draw=>aB.toList.all (uN N)&&(!draw||An aB)
 |.seq a b=>codeOk N a&&codeOk N b
 |.cond c a b=>II c&&codeOk N a&&codeOk N b
 |.block _ c=>codeOk N c
 |.loop c=>codeOk N c
 |_=>true
def aag:Ex->Exit
 |.normal=>.normal
 |.exit id=>.exit id
 |.ret=>.ret
section
variable {E:dA}{P:Program}{call:dJ}{N:Nat}{X A:Nat->Prop}{ρ:fB}{s s':St}{w:World}{a:Act}{Q:Exit->Act->World->Prop}
def Da (P:Program)(c:Code)(Q:Exit->Act->World->Prop)(a:Act)(w:World):Prop:=
 ∀(b:Frame)(k:List Item)(cs:List Frame),∃e a' w',Q e a' w'/\Arrives P (lone (b.at a (.code c:: .inLoop c::k)) cs w) b k cs e a' w'
theorem aah {c:Code}(h:Da P c Q a w):(Code.loop c).wp P Q a w:=λb k cs=>by
 obtain⟨e,a',w',hq,FB⟩:=h b k cs;exact⟨e,a',w',hq,.of_steps (.one step_loop) FB⟩
theorem xk {c:Code}(h:c.wp P (Exit.then (Da P c Q) Q) a w):Da P c Q a w:=λb k cs=>by
 obtain⟨e,VH,VI,hq,FB⟩:=h b (.inLoop c::k) cs;cases e with
 |normal=>
  obtain⟨aj9,aka,akb,agw,aai⟩:=hq b k cs;exact⟨aj9,aka,akb,agw,.of_steps (Steps.trans FB (.one step_inLoop)) aai⟩
 |exit id=>exact⟨_,VH,VI,hq,.pass (x:=.inLoop c) rfl (λ_ _=>.inl (by simp)) FB⟩
 |goto l=>exact⟨_,VH,VI,hq,.pass (x:=.inLoop c) rfl (λ_ _=>.inl (by simp)) FB⟩
 |ret=>exact⟨_,VH,VI,hq,.pass (x:=.inLoop c) rfl (λ_ _=>.inl (by simp)) FB⟩
 |panic ch=>exact⟨_,VH,VI,hq,.pass (x:=.inLoop c) rfl (λ_ _=>.inl (by simp)) FB⟩
 |outgrown=>exact⟨_,VH,VI,hq,.pass (x:=.inLoop c) rfl (λ_ _=>.inl (by simp)) FB⟩
def Db (P:Program)(N:Nat)(c:Code)(s:St)(tm:Tm)(e:Ex)(jx:Tm)(s':St)(go:(Exit->Act->World->Prop)->Act->World->Prop):Prop:=
 aF s s'/\∀X A ρ w a Q,o8 P X A ρ s s' w->Gl A ρ->NB A ρ N tm a->(∀a' w',Left P X A ρ N s s' w a jx a' w'->Q (aag e) a' w')->go Q a w
theorem Left.same (hp:o8 P X A ρ s s w){tm:Tm}(ht:NB A ρ N tm a):Left P X A ρ N s s w a tm a w:=
 ⟨rfl,ρ,ht.mono (λi hi=>.inl hi) (λ_ _=>rfl),Good.refl hp.st hp.eh⟩
theorem Db.next {c c2:Code}{s s1 s2:St}{si Zz:Tm}{e:Ex}{go2:(Exit->Act->World->Prop)->Act->World->Prop}(BN:aF s s1)(h2:Db P N c2 s1 si e Zz s2 go2)(hp:o8 P X A ρ s s2 w)(gL:Gl A ρ)
  (hQ:∀a' w',Left P X A ρ N s s2 w a Zz a' w'->Q (aag e) a' w'){a1:Act}{w1:World}(hl:Left P X A ρ N s s1 w a si a1 w1):go2 Q a1 w1:=by
 obtain⟨hd,BM,ht1,hG⟩:=hl;have Vv:∀i,A i->BM i=ρ i:=λi hi=>hG.same i (by have:=hp.lt i hi;omega)
 refine h2.2 X _ BM w1 a1 Q ⟨di.lt hp.lt BN.next,hG.eh,hp.cO,hG.state⟩ (gL.mono (λi hi=>.inl hi) Vv) ht1 λa2 w2 tZ=>hQ a2 w2 ?_
 obtain⟨Qw,B8,ht2,hG2⟩:=tZ;exact⟨Qw.trans hd,B8,ht2.mono (λi hi=>di.join BN.next h2.1.next hi) (λ_ _=>rfl),Good.trans hp.cO BN h2.1 hp.lt hG hG2⟩
theorem o8.part {s1 s2:St}(hp:o8 P X A ρ s s2 w)(hg:aF s1 s2):o8 P X A ρ s s1 w:=⟨hp.lt,hp.eh,λb hb=>hp.cO b (hg.cO b hb),hp.st⟩
theorem KS {c:Code}{body:Tm->St->R4}(hb:∀tm s e jx s',body tm s=some (e,jx,s')->Db P N c s tm e jx s' (c.wp P)):∀(n:Nat)(tm:Tm)(s:St){e:Ex}{jx:Tm}{s':St},CP body n tm s=some (e,jx,s')->Db P N c s tm e jx s' (Da P c)
 |0,tm,s,e,jx,s',h=>by cases h
 |n+1,tm,s,e,jx,s',h=>by
  have h':Gq (body tm s) (CP body n)=some (e,jx,s'):=h;obtain⟨⟨e1,si,s1⟩,h1,h2⟩:=aC h';have BQ:=hb tm s e1 si s1 h1;cases e1 with
  |normal=>
   have ih:=KS hb n si s1 h2;refine⟨BQ.1.trans ih.1,λX A ρ w a Q hp gL ht hQ=>xk ?_⟩;refine BQ.2 X A ρ w a _ (hp.part ih.1) gL ht λa1 w1 hl=>?_
   exact Db.next (c:=c) (c2:=c) (go2:=Da P c) BQ.1 ih hp gL hQ hl
  |exit id=>
   refine' zaU
  |ret=>
   refine' zaU
theorem VJ (hE:cS E P)(hC:dP P call)(hm:P.follows .mixedOrders=true)(lf:Nat):∀(c:Code),codeOk N c=true->∀(tm:Tm)(s:St)(e:Ex)(jx:Tm)(s':St),mu E call lf c tm s=some (e,jx,s')->Db P N c s tm e jx s' (c.wp P):=by
 intro c;induction c with
 |skip=>
  intro _ tm s e jx s' h;have:=j6 h;simp only[cx] at this;obtain⟨rfl,rfl,rfl⟩:=this;exact⟨aF.refl _,λX A ρ w a Q hp gL ht hQ=>wp_skip (hQ a w (Left.same hp ht))⟩
 |region id aB draw=>
  intro fF tm s e jx s' h;obtain⟨aB⟩:=aB;simp only[codeOk,bU,gQ] at fF;obtain⟨agx,akc⟩:=fF;have h':Qh E call aB draw tm s=some (e,jx,s'):=h;cases draw with
  |false=>
   obtain⟨⟨si,s1⟩,h1,h2⟩:=aC (show Gs (Ku E call aB aB tm s)=some (e,jx,s') from h');have:=j6 h2;simp only[cx] at this;obtain⟨rfl,rfl,rfl⟩:=this;obtain⟨hg,hk⟩:=IK hE hC aB agx aB 0 tm s (by simp) h1;refine⟨hg,λX A ρ w a Q hp gL ht hQ=>wp_region ?_⟩;have:=hk X A ρ w a Q hp gL ht hQ
   rwa [List.range_eq_range']
  |true=>
   obtain⟨⟨si,s1⟩,h1,h2⟩:=aC (show Gs (uE E call aB aB 0 tm s [])=some (e,jx,s') from h');have:=j6 h2;simp only[cx] at this;obtain⟨rfl,rfl,rfl⟩:=this;obtain⟨hg,hk⟩:=VF hE hC hm agx (by simpa using akc) h1;exact⟨hg,λX A ρ w a Q hp gL ht hQ=>hk X A ρ w a Q id hp gL ht hQ⟩
 |seq x y ihx ihy=>
  intro fF tm s e jx s' h;simp only[codeOk,bU] at fF;have h':Gq (mu E call lf x tm s) (mu E call lf y)=some (e,jx,s'):=h;obtain⟨⟨e1,si,s1⟩,h1,h2⟩:=aC h';have hx:=ihx fF.1 tm s e1 si s1 h1;cases e1 with
  |normal=>
   have hy:=ihy fF.2 si s1 e jx s' h2;refine⟨hx.1.trans hy.1,λX A ρ w a Q hp gL ht hQ=>wp_seq ?_⟩;refine hx.2 X A ρ w a _ (hp.part hy.1) gL ht λa1 w1 hl=>?_
   exact Db.next (c:=x) (c2:=y) (go2:=y.wp P) hx.1 hy hp gL hQ hl
  |exit id=>
   refine' zaS
  |ret=>
   refine' zaS
 |cond c x y ihx ihy=>
  intro fF tm s e jx s' h;simp only[codeOk,bU] at fF;have h':Qg (aM tm c) (mu E call lf x tm s) (mu E call lf y tm s)=some (e,jx,s'):=h;unfold Qg at h';split at h'
  .rename_i b hb;cases b with
   |true=>
    have hx:=ihx fF.1.2 tm s e jx s' h';refine⟨hx.1,λX A ρ w a Q hp gL ht hQ=>wp_cond_true ?_ (hx.2 X A ρ w a Q hp gL ht hQ)⟩;have:=Ci (tm:=tm) (a:=a) fF.1.1 gL λt _=>ht.2 t
    rw[hb] at this;exact this.sY
   |false=>
    have hy:=ihy fF.2 tm s e jx s' h';refine⟨hy.1,λX A ρ w a Q hp gL ht hQ=>wp_cond_false ?_ (hy.2 X A ρ w a Q hp gL ht hQ)⟩;have:=Ci (tm:=tm) (a:=a) fF.1.1 gL λt _=>ht.2 t
    rw[hb] at this;exact this.sY
  .cases h'
 |block id c ih=>
  intro fF tm s e jx s' h;have h':adv id (mu E call lf c tm s)=some (e,jx,s'):=h;obtain⟨⟨e1,si,s1⟩,h1,h2⟩:=aC h';have hc:=ih (by simpa[codeOk] using fF) tm s e1 si s1 h1;cases e1 with
  |normal=>
   refine' zaR
  |ret=>
   refine' zaR
  |exit i=>
   have h3:bo (Nat.beq i id) (some (Ex.normal,si,s1)) (some (Ex.exit i,si,s1))=some (e,jx,s'):=h2;rw[dO] at h3;split at h3
   .rename_i hi;have hi:i=id:=by simpa using hi
    have:=j6 h3;simp only[cx] at this;obtain⟨rfl,rfl,rfl⟩:=this;refine⟨hc.1,λX A ρ w a Q hp gL ht hQ=>wp_block (hc.2 X A ρ w a _ hp gL ht λa1 w1 hl=>?_)⟩;simp only[aag,Exit.inBlock,hi,if_true];exact hQ a1 w1 hl
   .rename_i hi;have hi:¬i=id:=by simpa using hi
    have:=j6 h3;simp only[cx] at this;obtain⟨rfl,rfl,rfl⟩:=this;refine⟨hc.1,λX A ρ w a Q hp gL ht hQ=>wp_block (hc.2 X A ρ w a _ hp gL ht λa1 w1 hl=>?_)⟩;simp only[aag,Exit.inBlock,hi,pg];exact hQ a1 w1 hl
 |loop c ih=>
  intro fF tm s e jx s' h;have h':CP (mu E call lf c) lf tm s=some (e,jx,s'):=h;have:=KS (c:=c) (λtm s e jx s'=>ih (by simpa[codeOk] using fF) tm s e jx s') lf tm s h';exact⟨this.1,λX A ρ w a Q hp gL ht hQ=>aah (this.2 X A ρ w a Q hp gL ht hQ)⟩
 |exit id=>
  intro _ tm s e jx s' h;have:=j6 h;simp only[cx] at this;obtain⟨rfl,rfl,rfl⟩:=this;exact⟨aF.refl _,λX A ρ w a Q hp gL ht hQ=>wp_exit (hQ a w (Left.same hp ht))⟩
 |ret=>
  intro _ tm s e jx s' h;have:=j6 h;simp only[cx] at this;obtain⟨rfl,rfl,rfl⟩:=this;exact⟨aF.refl _,λX A ρ w a Q hp gL ht hQ=>wp_ret (hQ a w (Left.same hp ht))⟩
 |rangeFunc _ _ _ _ _ _=>intro _ tm s e jx s' h;cases h
 |scope _ _=>intro _ tm s e jx s' h;cases h
 |label _=>intro _ tm s e jx s' h;cases h
 |goto _=>intro _ tm s e jx s' h;cases h
 |refuse _=>intro _ tm s e jx s' h;cases h
end
abbrev Ent:=Empty
noncomputable section
def pEq (a b:aK):Bool:=match a,b with
 |none,none=>true
 |some ⟨b,o,none⟩,some ⟨b',o',none⟩=>Nat.beq b b'&&Nat.beq o o'
 |_,_=>false
def Og (a b:Bool):Bool:=bo a b (!b)
mutual
def Fh:Value->Value->Bool
 |.bool a,.bool b=>Og a b
 |.int k a,.int j b=>pY k j&&yl a b
 |.string ⟨⟨a⟩⟩,.string ⟨⟨b⟩⟩=>gp a b
 |.pointer a,.pointer b=>pEq a b
 |.slice a l c,.slice b m d=>pEq a b&&Nat.beq l m&&Nat.beq c d
 |.agg ⟨a⟩,.agg ⟨b⟩=>lEq a b
 |.tuple ⟨a⟩,.tuple ⟨b⟩=>lEq a b
 |.func (.func f) ⟨a⟩ ⟨b⟩,.func (.func g) ⟨c⟩ ⟨d⟩=>Nat.beq f g&&lEq a c&&lEq b d
 |.map none,.map none=>true
 |.map (some a),.map (some b)=>Nat.beq a b
 |.nilFunc,.nilFunc=>true
 |.nilIface,.nilIface=>true
 |_,_=>false
def lEq:aQ->aQ->Bool
 |[],[]=>true
 |a::x,b::y=>Fh a b&&lEq x y
 |_,_=>false
end
def q9 (E:dA)(X:dM)(lf:Nat)(tab:List Ent)(n:Nat):dJ:=
 Nat.rec (λ_ _ _=>none) (λ_ ih f args s=>ob (E.fn.get f) λfn=>yu X f args s<| match fn.body with
     |none=>ZS X f args s
     |some c=>bo (Nat.beq f X.look) (Kv args s)<| eg (Nat.ble (ek args) fn.ntmps)<| U8 E fn (mu E ih lf c (l5 args (nat_lit 0) .nil) s)) n
end
def mY (P:Program)(f:FuncId)(h:xc):Prop:=∀args s v s',h args s=some (v,s')->aF s s'/\∀Y A ρ w gH,o8 P Y A ρ s s' w->Gl A ρ->LR A ρ args gH->lP P f ⟨gH⟩ w λv' w'=>qa P Y A ρ s s' w v v' w'
structure VK (E:dA)(P:Program)(X:dM):Prop where
 wD:∀p∈X.wD,mY P p.1 p.2
 enter:∀f fn c,E.fn.get f=some fn->fn.body=some c->∀args w,(callFunc f args).run P w= .ok (.enter f args) w
 code:∀f fn c,E.fn.get f=some fn->f≠X.look->fn.body=some c->codeOk fn.ntmps c=true
 sa:∀x w,(callFunc X.sa #[x]).run P w= .ok (.value x) w
 indexByte:∀(z:List UInt8)(c:Nat) w,c<256->(callFunc X.indexByte #[.string ⟨⟨z⟩⟩,.int .u8 (.ofNat c)]).run P w= .ok (.value (.int .i64 (RR c z 0))) w
 byte:P.cellsOf X.byte=1
 sW:∀fn,E.fn.get X.sW=some fn->∀(n:Nat) w,n<=1000000->∃cs:aQ,(callFunc X.sW #[.int .i64 (.ofNat n)]).run P w= .ok (.value (.slice (some ⟨w.heap.size,0,none⟩) n cs.length)) (w.drew.drew.alloc (.cells ⟨cs⟩ X.byte))/\cs.length<=maxLen
 look:∀fn,E.fn.get X.look=some fn->∀(b o n c:Nat)(a:aK)(k:Nat)(g:Value)(i:Nat)(z:List UInt8) w,i<n->w.cell? ⟨b,o+i,none⟩=some (.string ⟨⟨z⟩⟩)->
  Calls P X.look #[.agg ⟨[.slice (some ⟨b,o,none⟩) n c,.slice a 0 k,g]⟩,.int .i64 (.ofNat i)] w λe w'=>e= .returned (.string ⟨⟨z⟩⟩)/\Fr w w' λ_=>False
section
variable {E:dA}{P:Program}{call:dJ}{N:Nat}{X A:Nat->Prop}{ρ:fB}{s s':St}{w:World}{a:Act}{Q:Exit->Act->World->Prop}{tm:Tm}
theorem vC (r:ResultVar)(l:List ResultVar)(s:St):CQ E tm (r::l) s=match r with
  |.tmp t=>ob (CQ E tm l s) λp=>some (lV (tm.get t)::p.1,p.2)
  |.cell a t=>Fa (lV (tm.get a)) λb o=>ob (mq E s t b o) λq=>ob (CQ E tm l q.2) λp=>some (q.1::p.1,p.2):=rfl
theorem IP (hE:cS E P):∀(l:List ResultVar)(s:St){vs:aQ}{s':St},CQ E tm l s=some (vs,s')->aF s s'/\s'.heap=s.heap/\s'.next=s.next/\∀X A ρ w (a:Act),(∀b,In s'.cO b->X b)->fb P X A ρ s.heap.get w->(∀t,VR A ρ (lV (tm.get t)) (a.tmps.getD t undef))->
  ∃Cf,(l.mapM (λ(r:ResultVar)=>match r with|.tmp t=>pure (a.tmps.getD t undef)|.cell x t=>do loadVar t (<-asAddr (a.tmps.getD x undef))):Sem (aQ)).run P w= .ok Cf w/\LR A ρ vs Cf
 |[],s,vs,s',h=>by
  have:=j6 h;simp only[cx] at this;obtain⟨rfl,rfl⟩:=this;exact⟨aF.refl _,rfl,rfl,λX A ρ w a _ _ _=>⟨[],by simp,LR.nil⟩⟩
 |r::l,s,vs,s',h=>by
  rw[vC] at h;cases r with
  |tmp t=>
   obtain⟨⟨vs1,s1⟩,h1,h2⟩:=aC h;have:=j6 h2;simp only[cx] at this;obtain⟨rfl,rfl⟩:=this;obtain⟨hg,e1,e2,hk⟩:=IP hE l s h1;refine⟨hg,e1,e2,λX A ρ w a hX jw ht=>?_⟩;obtain⟨Cf,h3,h4⟩:=hk X A ρ w a hX jw ht;refine⟨a.tmps.getD t undef::Cf,?_,LR.cons (ht t) h4⟩;simp only[Fo,Sem.run_bind,Sem.run_pure,Result.andThen_ok,h3]
  |cell x t=>
   obtain⟨b,o,hx,h1⟩:=Ir h;obtain⟨⟨v,s1⟩,h2,h3⟩:=aC h1;obtain⟨⟨vs1,s2⟩,h4,h5⟩:=aC h3;have:=j6 h5;simp only[cx] at this;obtain⟨rfl,rfl⟩:=this;obtain⟨rfl,hl⟩:=Kz hE h2;obtain⟨hg,e1,e2,hk⟩:=IP hE l _ h4;refine⟨(aF.aV s b).trans hg,by rw[e1];simp,by rw[e2];simp,λX A ρ w a hX jw ht=>?_⟩;obtain⟨v',h6,h7⟩:=hl X A ρ w (hX b (hg.cO b (gv s b))) jw;obtain⟨Cf,h8,h9⟩:=hk X A ρ w a hX (by simpa using jw) ht;refine⟨v'::Cf,?_,LR.cons h7 h9⟩;have hv:=ht x;rw[hx] at hv;have BO:(asAddr (a.tmps.getD x undef)).run P w= .ok ⟨(ρ b).1,o,none⟩ w:=by rw[hv.nL];rfl
   simp only[Fo,Sem.run_bind,BO,Sem.run_pure,Result.andThen_ok,h6,h8]
theorem aaj {vs Cf:aQ}(h:LR A ρ vs Cf):VR A ρ (gB vs) (if h:(⟨Cf⟩:Array Value).size=1 then(⟨Cf⟩:Array Value)[0] else .tuple ⟨Cf⟩):=by
 have hl:=h.length;unfold gB;split
 .rename_i v;obtain⟨u,us,rfl,hu,R7⟩:=h.jE;have:us=[]:=mT (by simpa using hl);subst this;simpa using hu
 .rename_i fK;rw[dif_neg]
  .exact VR.tuple h
  .intro h1;have h2:vs.length=1:=by rw[<-hl];simpa using h1
   match vs,h2 with
   |[v],_=>exact fK v rfl
theorem IQ (v:Value)(l:aQ)(i:Nat)(tm:Tm):l5 (v::l) i tm=l5 l (i+1) (tm.set (Nat.succ i) i (some v)):=by
 have h:l5 (v::l) i tm=U2 v λv=>(tm.set (Nat.succ i) i (some v)).now λtm=>l5 l (Nat.succ i) tm:=rfl
 rw[h,ZT,T.NW]
theorem uQ:∀(l:aQ)(i:Nat)(tm:Tm)(t:Nat),(l5 l i tm).get t=if i<=t/\t<i+l.length then l[t-i]? else tm.get t
 |[],i,tm,t=>by
  have:l5 [] i tm=tm:=rfl;rw[this,if_neg (by simp only[mJ];omega)]
 |v::l,i,tm,t=>by
  rw[IQ,uQ l,T.vt];by_cases h:t=i
  .subst h;rw[if_neg ag,if_pos rfl,if_pos (by simp)];simp
  .simp only[h,pg];by_cases h2:i+1<=t/\t<i+1+l.length
   .rw[if_pos h2,if_pos (by simp;omega)];rw[show t-i=(t-(i+1))+1 by omega];simp
   .rw[if_neg h2,if_neg (by simp;omega)]
theorem akd {a b:Bool}:bo a b false=(a&&b):=by cases a<;>rfl
theorem Sp {a b:Bool}(h:Og a b=true):a=b:=by cases a<;>cases b<;>simp_all [Og]
theorem VL {a b:aK}(h:pEq a b=true):a=b:=by
 unfold pEq at h;split at h
 .rfl
 .rw[bU] at h;have h1:=o7 h.1;have h2:=o7 h.2;subst h1 h2;rfl
 .cases h
mutual
theorem VM:∀(x y:Value),Fh x y=true->x=y
 |.bool a,y,h=>by
  cases y<;>simp only[Fh,jQ] at h
  rw[Sp h]
 |.int k a,y,h=>by
  cases y<;>simp only[Fh,jQ,bU] at h
  rw[vw h.1];have:=h.2;rw[jH] at this;simp at this;rw[this]
 |.string ⟨⟨a⟩⟩,y,h=>by
  cases y<;>simp only[Fh,jQ] at h
  rw[eR] at h;simp at h;rw[h]
 |.pointer a,y,h=>by
  cases y<;>simp only[Fh,jQ] at h
  rw[VL h]
 |.slice a l c,y,h=>by
  cases y<;>simp only[Fh,jQ,bU] at h
  rw[VL h.1.1,o7 h.1.2,o7 h.2]
 |.agg ⟨a⟩,y,h=>by
  cases y<;>simp only[Fh,jQ] at h
  rw[Dc _ _ h]
 |.tuple ⟨a⟩,y,h=>by
  cases y<;>simp only[Fh,jQ] at h
  rw[Dc _ _ h]
 |.func fn ⟨a⟩ ⟨b⟩,y,h=>by
  cases fn<;>cases y<;>(try(simp only[Fh,jQ] at h;done))
  rename_i f fn2 c d;cases fn2<;>(try(simp only[Fh,jQ] at h;done))
  simp only[Fh,bU] at h;rw[o7 h.1.1,Dc _ _ h.1.2,Dc _ _ h.2]
 |.nilFunc,y,h=>by
  cases y<;>first|rfl|(simp only[Fh,jQ] at h;done)
 |.nilIface,y,h=>by
  cases y<;>first|rfl|(simp only[Fh,jQ] at h;done)
 |.float _ _,y,h=>by cases y<;>simp only[Fh,jQ] at h
 |.complex _ _ _,y,h=>by cases y<;>simp only[Fh,jQ] at h
 |.map a,y,h=>by
  cases y
  case map b=>
   cases a<;>cases b<;>first|rfl|(simp only[Fh,jQ] at h;done)|skip
   rename_i a b;simp only[Fh] at h;rw[o7 h]
  all_goals cases a<;>simp only[Fh,jQ] at h
 |.chan _,y,h=>by cases y<;>simp only[Fh,jQ] at h
 |.iface _ _,y,h=>by cases y<;>simp only[Fh,jQ] at h
theorem Dc:∀(x y:aQ),lEq x y=true->x=y
 |[],[],_=>rfl
 |[],_::_,h=>by simp only[lEq,jQ] at h
 |_::_,[],h=>by simp only[lEq,jQ] at h
 |a::x,b::y,h=>by
  simp only[lEq,bU] at h;rw[VM a b h.1,Dc x y h.2]
end
theorem lP.mono {f:FuncId}{args:Array Value}{R R':Value->World->Prop}(h:lP P f args w R)(hr:∀v w,R v w->R' v w):lP P f args w R':=by
 rcases h with⟨v,w',h1,h2⟩|⟨g,as_,w',h1,h2⟩
 .exact .inl ⟨v,w',h1,hr _ _ h2⟩
 .exact .inr ⟨g,as_,w',h1,h2.mono λe w'' ⟨v,he,hh⟩=>⟨v,he,hr _ _ hh⟩⟩
theorem VN {X:dM}(hF:VK E P X){fn:Func}(KT:E.fn.get X.sW=some fn){args:aQ}{v:Value}(h:zeroV X args s=some (v,s')):
  aF s s'/\∀Y A ρ w gH,o8 P Y A ρ s s' w->Gl A ρ->LR A ρ args gH->lP P X.sW ⟨gH⟩ w λv' w'=>qa P Y A ρ s s' w v v' w':=by
 unfold zeroV at h;split at h
 .rename_i n;obtain⟨hc,h2⟩:=bp h;simp only[bU,lR] at hc;have:=aG h2;simp only[cx] at this;obtain⟨rfl,rfl⟩:=this;refine⟨aF.jF s _,λY A ρ w gH hp gL hl=>.inl ?_⟩;obtain⟨x',r,rfl,hx,hr⟩:=hl.jE;have:r=[]:=mT (by simpa using hr.length);subst this;rw[hx.mw];obtain⟨cs,nV,c8⟩:=hF.sW fn KT n w hc.2;refine⟨_,_,nV,ρ.at s.next (w.heap.size,cs.length),?_,?_⟩
  .have:=VR.slice (A:=di A s.next (s.new (.cells [] X.byte true)).next) (ρ:=ρ.at s.next (w.heap.size,cs.length)) (b:=s.next) (o:=0) (l:=n) (c:=eH) (.inr ⟨cA _,by simp⟩);simpa[bV,dD] using this
  .refine Good.alloc (o:=.cells [] X.byte true) (x:=.cells ⟨cs⟩ X.byte) hp.st hp.eh hp.lt (λc=>by simp) (by simp) (j8 s _) (cA _) ?_ ?_ ?_
   .have:=heap_alloc_new w.drew.drew (.cells ⟨cs⟩ X.byte);exact this
   .refine⟨[],cs,(0,0),rfl,LR.nil,λ_=>⟨rfl,?_,?_,c8⟩,λh=>by cases h⟩
    .rw[hF.byte];simp
    .rw[hF.byte];exact Nat.one_pos
   .have:=Fr.alloc w.drew.drew (.cells ⟨cs⟩ X.byte);exact⟨this.os,this.tape,this.output,this.size,this.block⟩
 .cases h
theorem Good.agy {s1:St}{w1:World}(jw:fb P X A ρ s.heap.get w)(Ae:∀b,s.next<=b->s.heap.get b=none)(hn:s1.next=s.next)(hg:s1.heap=s.heap)(hf:Fr w w1 λ_=>False):Good P X A ρ s s1 w w1 ρ:=by
 refine⟨ag,λ_ _=>rfl,?_,⟨hf.os,hf.tape,hf.output,hf.size,λr hr _=>hf.block r hr λh=>h⟩,λb _ h=>by rw[hg] at h;exact h,λb h1 h2=>by omega,λb _ _=>by rw[hg],λb hb=>by rw[hg];exact Ae b ag⟩;rw[hg];refine⟨λb o hx hb=>?_,jw.inj⟩;obtain⟨h1,x,h2,h3⟩:=jw.lp b o hx hb;refine⟨.inl h1,x,?_,h3.mono (λi hi=>.inl hi) (λ_ _=>rfl)⟩;rw[hf.block _ (yc.1 h2).1 λh=>h];exact h2
theorem VO {X:dM}(hF:VK E P X)(VP:∀args w,(callFunc X.look args).run P w= .ok (.enter X.look args) w){fn:Func}(KT:E.fn.get X.look=some fn){args:aQ}{v:Value}(h:Kv args s=some (v,s')):
  aF s s'/\∀Y A ρ w gH,o8 P Y A ρ s s' w->Gl A ρ->LR A ρ args gH->lP P X.look ⟨gH⟩ w λv' w'=>qa P Y A ρ s s' w v v' w':=by
 unfold Kv at h;split at h
 .rename_i b o n c a k g i;obtain⟨hi,h2⟩:=bp h;have hi:i<n:=qF hi;obtain⟨cs,e,u,hg,h3⟩:=mW h2;obtain⟨v1,hv1,h4⟩:=aC h3;split at h4
  rotate_left
  .cases h4
  rename_i z;have:=aG h4;simp only[cx] at this;obtain⟨rfl,rfl⟩:=this;rw[dR] at hv1;refine⟨aF.aV s b,λY A ρ w gH hp gL hl=>.inr ?_⟩;obtain⟨x',r,rfl,hx,hr⟩:=hl.jE;obtain⟨y',r2,rfl,hy,nG⟩:=hr.jE;have:r2=[]:=mT (by simpa using nG.length);subst this;rw[hy.mw];obtain⟨xs,rfl,RW⟩:=hx.Qk;obtain⟨x1,xs,rfl,hx1,RW⟩:=RW.jE;obtain⟨x2,xs,rfl,Sk,RW⟩:=RW.jE;obtain⟨x3,xs,rfl,hx3,RW⟩:=RW.jE;have:xs=[]:=mT (by simpa using RW.length);subst this;obtain⟨hA,c',aO,fr,r1,r2,r3,r4,r5,r6⟩:=hp.st.row (hp.cO b (gv s b)) hg;obtain⟨v',GH,hv3⟩:=r2.get hv1;have GH:c'[o+i]?=some v':=GH;have ake:∃a' k',x2= .slice a' 0 k':=by
   cases a with
   |none=>exact⟨none,k,Sk.jf⟩
   |some a=>obtain⟨a',rN⟩:=Sk.s7;exact⟨some a',_,rN⟩
  obtain⟨a',k',rfl⟩:=ake;rw[hx1.fY];have tX:w.cell? ⟨(ρ b).1,o+i,none⟩=some v':=by
   rw[yz r1,wZ (ug.1 GH).1];exact GH
  have:=hv3.uF;subst this;refine⟨_,_,w,VP _ _,(hF.look fn KT (ρ b).1 o n _ a' k' x3 i z w hi tX).mono λe w' hh=>?_⟩;obtain⟨rfl,hf⟩:=hh;exact⟨_,rfl,ρ,hv3.mono (λi hi=>.inl hi) (λ_ _=>rfl),Good.agy hp.st hp.eh (by simp) (by simp) hf⟩
 .cases h
theorem KU {X:dM}{f:FuncId}{args:aQ}{k:Option (Value×St)}{r:Value×St}(h:yu X f args s k=some r):k=some r\/∃p∈X.wD,p.1=f/\p.2 args s=some r:=by
 have key:∀l:List (Nat×xc),List.rec (motive:=λ_=>Option (Value×St)) k (λp _ ih=>bo (Nat.beq p.1 f) (p.2 args s) ih) l=some r->k=some r\/∃p∈l,p.1=f/\p.2 args s=some r:=by
  intro l;induction l with
  |nil=>exact λh=>.inl h
  |cons p l ih=>
   intro h;have h:bo (Nat.beq p.1 f) (p.2 args s) (List.rec (motive:=λ_=>Option (Value×St)) k (λp _ ih=>bo (Nat.beq p.1 f) (p.2 args s) ih) l)=some r:=h;rw[dO] at h;split at h
   .rename_i hb;exact .inr ⟨p,by simp,by simpa using hb,h⟩
   .rcases ih h with h|⟨q,hq,h1⟩
    .exact .inl h
    .exact .inr ⟨q,by simp[hq],h1⟩
 exact key X.wD h
theorem Dd (hE:cS E P){X:dM}(hF:VK E P X)(hm:P.follows .mixedOrders=true)(lf:Nat){tab:List Ent}(hT:∀e∈tab,False):∀n,dP P (q9 E X lf tab n)
 |0=>λf args s v s' h=>by cases h
 |n+1=>λf args s v s' h=>by
  obtain⟨fn,KT,h1⟩:=aC h;rcases KU h1 with hk|⟨p,hp,Oh,hk⟩
  case inr=>subst Oh;exact hF.wD p hp args s v s' hk
  clear h1;have h1:=hk;clear hk;split at h1
  .unfold ZS at h1;rw[dO,dO,dO] at h1;split at h1
   .rename_i hf;have hf:f=X.sa:=by simpa using hf
    subst hf;obtain⟨u,hu,h2⟩:=aC h1;have:=aG h2;simp only[cx] at this;obtain⟨rfl,rfl⟩:=this;refine⟨aF.refl _,λY A ρ w gH hp gL hl=>.inl ?_⟩;unfold id1 at hu;split at hu
    .rename_i x;have:=j6 hu;subst this;obtain⟨x',r,rfl,hx,hr⟩:=hl.jE;have:r=[]:=mT (by simpa using hr.length);subst this;exact⟨x',w,hF.sa x' w,ρ,hx.mono (λi hi=>.inl hi) (λ_ _=>rfl),Good.refl hp.st hp.eh⟩
    .cases hu
   .split at h1
    .rename_i hf;have hf:f=X.indexByte:=by simpa using hf
     subst hf;obtain⟨u,hu,h2⟩:=aC h1;have:=aG h2;simp only[cx] at this;obtain⟨rfl,rfl⟩:=this;refine⟨aF.refl _,λY A ρ w gH hp gL hl=>.inl ?_⟩;unfold U7 at hu;split at hu
     .rename_i z c;obtain⟨agz,hu⟩:=bp hu;have:=j6 hu;subst this;obtain⟨x',r,rfl,hx,hr⟩:=hl.jE;obtain⟨y',r2,rfl,hy,nG⟩:=hr.jE;have:r2=[]:=mT (by simpa using nG.length);subst this;rw[hx.uF,hy.mw];exact⟨_,w,hF.indexByte z c w (qF agz),ρ,VR.int _ _,Good.refl hp.st hp.eh⟩
     .cases hu
    .split at h1
     .rename_i hf;have hf:f=X.sW:=by simpa using hf
      subst hf;exact VN hF KT h1
     .cases h1
  .rename_i c hc;rw[dO] at h1;split at h1
   .rename_i hf;have hf:f=X.look:=by simpa using hf
    subst hf;exact VO hF (hF.enter _ fn c KT hc) KT h1
   rename_i adM;have adM:f≠X.look:=by simpa using adM
   obtain⟨hla,h2⟩:=bp h1;have hla:args.length<=fn.ntmps:=by simpa using hla
   obtain⟨⟨e,tm,s1⟩,h3,h4⟩:=aC h2;have ih:=Dd hE hF hm lf hT n;have VQ:=VJ hE ih hm lf c (hF.code f fn c KT adM hc) _ _ _ _ _ h3;have key:∀(fK:e= .normal\/e= .ret),(ob (CQ E tm fn.results.toList s1) λp=>some (gB p.1,p.2))=some (v,s')->aF s s'/\∀Y A ρ w gH,o8 P Y A ρ s s' w->Gl A ρ->LR A ρ args gH->lP P f ⟨gH⟩ w λv' w'=>qa P Y A ρ s s' w v v' w':=by
    intro fK h5;obtain⟨⟨vs,s2⟩,h6,h7⟩:=aC h5;have:=j6 h7;simp only[cx] at this;obtain⟨rfl,rfl⟩:=this;obtain⟨Cb,e1,e2,IS⟩:=IP hE _ _ h6;refine⟨VQ.1.trans Cb,λY A ρ w gH hp gL hl=>.inr ⟨f,⟨gH⟩,w,hF.enter f fn c KT hc _ _,?_⟩⟩;refine calls_of_wp (hE.fn f fn KT) hc ?_;have ab8:gH.length=args.length:=hl.length;have ht:NB A ρ fn.ntmps (l5 args 0 .nil) {tmps:=(⟨gH⟩:Array Value)++Array.replicate (fn.ntmps-(⟨gH⟩:Array Value).size) undef,defers:=[]}:=by
     refine⟨by simp;omega,λt=>?_⟩;rw[uQ,T.get_nil];by_cases h8:0<=t/\t<0+args.length
     .rw[if_pos h8,Nat.sub_zero];have h9:t<args.length:=by omega
      obtain⟨u',UI,Vo⟩:=hl.get (bd h9);rw[bd h9];have Fc:((⟨gH⟩:Array Value)++Array.replicate (fn.ntmps-(⟨gH⟩:Array Value).size) undef).getD t undef=u':=by
       rw[P3,ZL (by simp;omega)];simp[UI]
      rw[Fc];exact Vo
     .rw[if_neg h8];have Fc:((⟨gH⟩:Array Value)++Array.replicate (fn.ntmps-(⟨gH⟩:Array Value).size) undef).getD t undef=undef:=by
       rw[P3,Array.getElem?_append_right (by simp;omega)];simp only[Array.getElem?_replicate];split<;>rfl
      rw[Fc];exact VR.undef
    have Z9:o8 P Y A ρ s s1 w:=hp.part Cb;refine VQ.2 Y A ρ w _ _ Z9 gL ht λa1 w1 GJ=>?_
    obtain⟨hd,BM,ht1,hG⟩:=GJ;obtain⟨Cf,h8,h9⟩:=IS Y (di A s.next s1.next) BM w1 a1 hp.cO hG.state ht1.2;have nV:(results fn a1.tmps).run P w1= .ok (if h:(⟨Cf⟩:Array Value).size=1 then(⟨Cf⟩:Array Value)[0] else .tuple ⟨Cf⟩) w1:=by
     unfold results;rw[Array.mapM_eq_mapM_toList];simp only[map_eq_pure_bind,Sem.run_bind,Sem.run_pure];generalize hXX:Sem.run P (List.mapM _ fn.results.toList) w1=XX;have Sk:XX= .ok Cf w1:=hXX.symm.trans h8;rw[Sk];rfl
    have GI:∃v,Ending.returned (if h:(⟨Cf⟩:Array Value).size=1 then(⟨Cf⟩:Array Value)[0] else .tuple ⟨Cf⟩)= .returned v/\qa P Y A ρ s s2 w (gB vs) v w1:=by
     refine⟨_,rfl,BM,?_,?_⟩
     .rw[e2];exact aaj h9
     .exact Good.trans hp.cO VQ.1 Cb hp.lt hG (Good.Va hG.state hG.eh e2 e1 rfl rfl rfl rfl)
    rcases fK with rfl|rfl
    .exact⟨hd,_,nV,GI⟩
    .exact⟨hd,_,nV,GI⟩
   cases e with
   |normal=>exact key (.inl rfl) h4
   |ret=>exact key (.inr rfl) h4
   |exit id=>cases h4
end
end Go.Ev
namespace Go.Pl
abbrev aA:=List UInt8
def fR (n lo hi:Int):Bool:=decide (lo<=n)&&decide (n<=hi)
def gM (n:Nat):aA:=if h:n<10 then [UInt8.ofNat (48+n)] else gM (n/ 10)++[UInt8.ofNat (48+n% 10)]
def dec (n:Int):aA:=match n with
 |.ofNat n=>gM n
 |.negSucc n=>45::gM (n+1)
def kT (c:UInt8):Bool:=decide (48<=c.toNat)&&decide (c.toNat<=57)
def tn (s:aA):aA:=(s.take 9).takeWhile kT
def numOf (s:aA):Nat:=s.foldl (λn c=>10*n+(c.toNat-48)) 0
def kU (s:aA):Nat×Nat:=
 let d:=tn s
 if 1<d.length/\s.headD 0=48 then(0,1) else(numOf d,d.length)
def iK (s:aA):Option Nat:=
 let r:=kU s
 if r.2=0\/r.2≠s.length then none else some r.1
def cut (c:UInt8):aA->List aA
 |[]=>[[]]
 |x::s=>if x=c then []::cut c s else match cut c s with
  |[]=>[[x]]
  |w::r=>(x::w)::r
def fieldsOf (l:List aA):aA:=(l.map λs=>gM s.length++58::s).flatten
def kV:List aA->aA->Option aA
 |[],out=>some out
 |s::l,out=>if 2048<s.length then none else
  let o:=out++(gM s.length++58::s)
  if 2048<o.length then none else kV l o
def jh (l:List aA):Option aA:=if 60<l.length then none else kV l []
def sj:Nat->aA->List aA->Option (List aA)
 |0,_,_=>none
 |_+1,[],out=>some out
 |f+1,s,out=>
  let(n,k):=kU s
  if k=0\/s.length<=k\/s.getD k 0≠58\/s.length-k-1<n then none
  else sj f (s.drop (k+1+n)) (out++[(s.drop (k+1)).take n])
def eS (s:aA):Option (List aA):=
 match(if 2048<s.length then some [] else sj (s.length+1) s []) with
 |none=>none
 |some out=>match jh out with
  |none=>none
  |some t=>if t=s then some out else none
def KV:aA->Nat->Nat->Nat
 |[],a,b=>a*9973+b
 |c::s,a,b=>KV s ((a+c.toNat+1)% 9973) ((b+(a+c.toNat+1)% 9973)% 9973)
def sumOf (s:aA):Nat:=KV s 1 0
structure jt where
 row:Int
 dg:Int
 size:Int
 sum:Int
 level:Int
deriving DecidableEq,Repr,Inhabited
abbrev cW:=List jt
def bq:jt:=⟨0,0,0,0,0⟩
def aI (p:jt):Bool:=decide (p=bq)
def Sq (n:Int):Bool:=fR n 8 63
def IT (s:aA):Bool:=decide (1<=s.length)&&decide (s.length<=128)
def bw (p:jt):Bool:=aI p||(Sq p.row&&fR p.dg 1 900&&fR p.size 1 128&&fR p.sum 0 99460728&&fR p.level 0 2)
def eK (p:jt):aA:=if !bw p then [] else if aI p then [45] else
 dec p.row++46::(dec p.dg++46::(dec p.size++46::(dec p.sum++46::dec p.level)))
def ji (s:aA):Option jt:=if s=[45] then some bq else
 match cut 46 s with
 |[a,b,c,d,e]=>match iK a,iK b,iK c,iK d,iK e with
  |some a,some b,some c,some d,some e=>
   let p:jt:=⟨a,b,c,d,e⟩
   if !bw p||aI p then none else some p
  |_,_,_,_,_=>none
 |_=>none
def sk (row dg level:Int)(s:aA):Option jt:=
 let p:jt:=⟨row,dg,s.length,sumOf s,level⟩
 if !IT s then none else if !bw p then none else some p
def fits (p:jt)(s:aA):Bool:=bw p&&!aI p&&decide (p.size=s.length)&&decide (p.sum=sumOf s)
def iF (c:UInt8):List aA->aA
 |[]=>[]
 |[s]=>s
 |s::l=>s++c::iF c l
def km (l:cW):Option aA:=
 if l.length≠4 then none else if l.any (λp=>!bw p) then none else if l.all aI then none else some (iF 44 (l.map eK))
def kn (s:aA):Option (cW):=
 match(cut 44 s).mapM ji with
 |none=>none
 |some l=>if l.length≠4\/l.all aI then none else some l
structure ar where
 er:List aA
 aX:List Int
 dm:List Int
 fC:Int
 cI:cW
 oL:Int
 ej:cW
 same:Bool
deriving Repr,Inhabited
def bT (same:Bool):ar:=⟨List.replicate 64 [],List.replicate 64 0,List.replicate 64 0,1,[],0,[],same⟩
def gk (st:ar)(p:jt):aA:=st.er.getD p.row.toNat []
def jW (st:ar)(p:jt):Option aA:=if aI p then some [] else if fits p (gk st p) then some (gk st p) else none
def yI (st:ar)(s:aA)(i:Nat):Bool:=decide (st.er.getD i []=s)&&decide (st.dm.getD i 0<st.fC)&&decide (st.aX.getD i 0<st.fC)
def nM (p:Nat->Bool):Nat->Nat->Option Nat
 |0,_=>none
 |n+1,i=>if p i then some i else nM p n (i+1)
def VS (st:ar)(s:aA):Option Nat:=nM (yI st s) 56 8
def De (st:ar):Option Nat:=nM (λi=>decide (st.aX.getD i 0=0)) 56 8
def ou (st:ar)(s:aA)(level:Int):Option Nat:=
 match(if st.same&&decide (level=0) then VS st s else none) with
 |some i=>some i
 |none=>De st
def bf (st:ar)(s:aA)(level:Int):Option (ar×jt):=
 match ou st s level with
 |none=>none
 |some i=>match sk i st.fC level s with
  |none=>none
  |some p=>some ({st with er:=st.er.set i s,aX:=st.aX.set i (st.aX.getD i 0+1),dm:=st.dm.set i st.fC},p)
def drop (st:ar)(row:Int):ar:=
 let i:=row.toNat
 let n:=st.aX.getD i 0-1
 {st with aX:=st.aX.set i n,dm:=if n=0 then st.dm.set i 0 else st.dm,er:=if n=0 then st.er.set i [] else st.er}
def free (st:ar)(p:jt):ar:=
 if aI p then st else if p.dg<=st.oL then {st with ej:=st.ej++[p]} else if p.dg<st.fC then {st with cI:=st.cI++[p]} else drop st p.row
def next (st:ar):ar:={(st.cI.foldl (λst p=>drop st p.row) st) with cI:=[],fC:=st.fC+1}
structure bX where
 cy:jt
 depth:Int
 many:Int
deriving DecidableEq,Repr,Inhabited
def eY:bX:=⟨bq,0,0⟩
def cJ (many:Int):Int:=if many<=1 then 0 else if many<=4 then 1 else 2
def c9 (n:Nat):cW:=List.replicate n bq
def below (st:ar)(p:jt)(level:Int):Option (cW):=
 if aI p then some (c9 4) else
 if !bw p||decide (p.level≠level)||decide (st.fC<p.dg) then none else
 match jW st p with
 |none=>none
 |some s=>match kn s with
  |none=>none
  |some l=>if l.any (λq=>decide (p.dg<q.dg)) then none else some l
def down (st:ar)(level:Int)(l:cW):Option (cW):=(l.mapM λp=>below st p level).map List.flatten
def gO (st:ar)(t:bX):Option (cW):=go t.depth.toNat [t.cy]
where go:Nat->cW->Option (cW)
 |0,l=>some l
 |n+1,l=>match down st (n+1:Nat) l with
  |none=>none
  |some l=>go n l
def kW (st:ar)(many:Int)(i:Nat)(p:jt):Bool:=aI p||((jW st p).isSome&&decide (p.level=0)&&decide (p.dg<=st.fC)&&decide ((i:Int)<many))
def ky (f:Nat->jt->Bool):Nat->cW->Bool
 |_,[]=>true
 |i,p::l=>f i p&&ky f (i+1) l
def fg (st:ar)(t:bX):Bool:=
 fR t.many 0 16&&decide (t.depth=cJ t.many)&&bw t.cy&&match gO st t with
  |none=>false
  |some l=>ky (kW st t.many) 0 l
def wide (st:ar)(t:bX):cW:=
 let l:=(gO st t).getD []
 l++c9 (16-l.length)
def aW (st:ar)(p:jt):aA:=(jW st p).getD []
def Sr (st:ar)(t:bX)(k:Nat):aA:=aW st ((wide st t).getD k bq)
def iq (st:ar)(t:bX):List aA:=((wide st t).take t.many.toNat).map (aW st)
def fG (st:ar)(t:bX):cW:=
 if t.depth=0\/aI t.cy then [] else
 t.cy::if t.depth=2 then((below st t.cy 2).getD []).filter (λp=>!aI p) else []
def Oi (st:ar)(l:cW)(level:Int)(old:jt):Option (ar×jt):=
 if l.all aI then some (st,bq) else
 let s:=(km l).getD []
 if !aI old&&fits old s&&decide (gk st old=s) then some (st,old) else bf st s level
def iT (st:ar)(t:bX)(depth level:Int):cW:=
 if t.depth≠depth then c9 4 else if level=depth then [t.cy] else(below st t.cy depth).getD (c9 4)
def eZ (l:cW):cW:=l++c9 ((4-l.length% 4)% 4)
def ko (level:Int):cW->cW->ar->cW->cW->ar×Option (cW×cW)
 |a::b::c::d::l,was,st,stays,out=>match Oi st [a,b,c,d] level (was.headD bq) with
  |none=>(st,none)
  |some (st,p)=>ko level l was.tail st (if p=was.headD bq then stays++[p] else stays) (out++[p])
 |_,_,st,stays,out=>(st,some (stays,out))
def iy (t:bX)(depth:Int):Nat->Int->cW->ar->cW->ar×Option (cW×cW)
 |0,_,l,st,stays=>(st,some (stays,l))
 |n+1,level,l,st,stays=>match ko level (eZ l) (iT st t depth level) st stays [] with
  |(st,none)=>(st,none)
  |(st,some (stays,l))=>iy t depth n (level+1) l st stays
def dC (l:cW)(st:ar):ar:=l.foldl free st
def gY (st:ar)(t:bX)(lv:cW)(many:Int):ar×Option bX:=
 let depth:=cJ many
 let old:=fG st t
 match iy t depth depth.toNat 1 (lv.take many.toNat) st [] with
 |(st,none)=>(st,none)
 |(st,some (stays,l))=>(dC (old.filter λp=>!(stays.contains p)) st,some ⟨l.headD bq,depth,many⟩)
def IU (st:ar)(s:aA):Option (ar×jt):=if s=[] then some (st,bq) else bf st s 0
def nH (st:ar)(t:bX)(k:Nat)(s:aA):ar×bX×Bool:=
 let lv:=wide st t
 let old:=lv.getD k bq
 let was:=aW st old
 let many:=max t.many (k+1)
 if was=s/\many=t.many then(st,t,true) else
 match(if was=s then some (st,old) else IU st s) with
 |none=>(st,t,false)
 |some (st1,p)=>match gY st1 t (lv.set k p) many with
  |(eL,none)=>(eL,eY,false)
  |(eL,some t2)=>(if p=old then eL else free eL old,t2,true)
def tp (st:ar)(t:bX)(many:Int):ar×bX×Bool:=
 if many=t.many then(st,t,true) else
 let lv:=wide st t
 match gY st t lv many with
 |(eL,none)=>(eL,t,false)
 |(eL,some t2)=>(dC (lv.drop many.toNat) eL,t2,true)
def qc:Nat->ar->cW->cW->Option (cW)
 |0,_,_,_=>none
 |_+1,_,[],out=>some out
 |f+1,st,p::l,out=>if aI p then qc f st l out else
  qc f st (if 0<p.level then(below st p p.level).getD []++l else l) (out++[p])
structure iG where
 kind:Int
 bF:Int
 size:Int
 aS:bX
deriving DecidableEq,Repr,Inhabited
def bu:iG:=⟨0,0,0,eY⟩
def dn (size each:Int):Int:=(size+each-1)/ each
def fh (kind:Int):Int:=if kind=1 then 12 else if kind=2 then 128 else 0
def fj (kind size:Int):Int:=if fh kind=0||!fR size 0 (16*fh kind) then -1 else dn size (fh kind)
def ez (n:iG):Bool:=
 let many:=fj n.kind n.size
 !(decide (many<0)||decide (n.aS.many≠many)||decide (n.aS.depth≠cJ many)||!bw n.aS.cy)&&
   (fR n.bF 1 (if n.kind=2 then 1 else 9)&&(aI n.aS.cy||decide (n.aS.cy.level=n.aS.depth)))
def jX (n:iG):List aA:=[dec n.kind,dec n.bF,dec n.size,eK n.aS.cy,dec n.aS.depth,dec n.aS.many,[101,110,100]]
def fZ (n:iG):aA:=if !ez n then [] else(jh (jX n)).getD []
def qJ (s:aA):Int:=((iK s).getD 0:Nat)
def eP (s:aA):Option iG:=match eS s with
 |some [a,b,c,d,e,f,_]=>
  let n:iG:=⟨qJ a,qJ b,qJ c,(ji d).getD bq,qJ e,qJ f⟩
  if !ez n||decide (fZ n≠s) then none else some n
 |_=>none
def nI (s:aA):aA:=(s.reverse.dropWhile (·=0)).reverse
def ir (n:Int):aA:=List.replicate n.toNat 0
def oz (st:ar)(t:bX):Bool:=fg st t&&(iq st t).all λs=>decide (s=[])||match eP s with
 |none=>false
 |some n=>fg st n.aS
def jj (st:ar)(t:bX)(k:Int):Option iG:=if !fR k 0 (t.many-1) then none else eP (Sr st t k.toNat)
def pr (st:ar)(t:bX)(k:Nat)(n:iG):ar×bX×Bool:=nH st t k (fZ n)
def mg (Be:Int):Nat->Nat->List aA->Nat
 |_,n,[]=>n
 |k,n,s::l=>mg Be (k+1) (if decide ((k:Int)≠Be)&&decide (s≠[]) then k+1 else n) l
def ra (st:ar)(t:bX)(Be:Int):Nat:=mg Be 0 0 (iq st t)
def uR (st:ar)(t:bX):Option Nat:=nM (λk=>decide ((iq st t).getD k []=[])) 16 0
def xl (st:ar)(t:bX):cW:=(qc 200 st [t.cy] []).getD []
def dY (st:ar)(t:bX)(k:Int):ar×bX×Bool:=
 let n:=(jj st t k).getD bu
 let many:=ra st t k
 match nH (dC (xl st n.aS) st) t k.toNat [] with
 |(st,t,false)=>(st,t,false)
 |(st,t,true)=>tp st t many
structure aZ where
 name:aA
 id:Int
deriving DecidableEq,Repr,Inhabited
def bG (s:aA):Bool:=s.all (λc=>decide (97<=c.toNat)&&decide (c.toNat<=122))&&decide (1<=s.length)&&decide (s.length<=4)
def bL:aA->aA->Bool
 |[],[]=>false
 |[],_::_=>true
 |_::_,[]=>false
 |a::s,b::t=>if a.toNat<b.toNat then true else if b.toNat<a.toNat then false else bL s t
def mL:List aZ->Bool
 |a::b::l=>bL a.name b.name&&mL (b::l)
 |_=>true
def bz (l:List aZ):Bool:=l.all (λe=>bG e.name&&fR e.id 1 15)&&mL l&&decide (l.length<=12)
def bg (l:List aZ):aA:=(l.map λe=>e.name++61::(dec e.id++[59])).flatten
def l7 (s:aA):Option aZ:=match cut 61 s with
 |[a,b]=>some ⟨a,qJ b⟩
 |_=>none
def iL (s:aA):Option (List aZ):=match(cut 59 s).dropLast.mapM l7 with
 |none=>none
 |some l=>if !bz l||decide (bg l≠s) then none else some l
def eA (l:List aZ)(name:aA):Option Nat:=l.findIdx? λe=>decide (e.name=name)
def gm (l:List aZ)(e:aZ):List aZ:=match l with
 |[]=>[e]
 |x::l=>if bL e.name x.name then e::x::l else x::gm l e
def eu (l:List aZ)(i:Nat):List aZ:=l.take i++l.drop (i+1)
def dw:Nat->aA->List aA
 |0,_=>[]
 |f+1,s=>if 128<s.length then s.take 128::dw f (s.drop 128) else if s=[] then [] else [s]
def lC:List aA->Nat->ar->bX->ar×bX×Bool
 |[],_,st,t=>(st,t,true)
 |s::l,i,st,t=>match nH st t i s with
  |(st,t,true)=>lC l (i+1) st t
  |(cQ,_,false)=>(cQ,t,false)
def kz (st:ar)(t:bX)(s:aA):ar×bX×Bool:=
 let l:=dw (s.length+1) s
 if 16<l.length then(st,t,false) else match lC l 0 st t with
  |(st,t,false)=>(st,t,false)
  |(st,t,true)=>tp st t l.length
def pb (many:Int):Nat->List aA->aA->Option aA
 |_,[],out=>some out
 |k,s::l,out=>if decide (s=[])||(decide ((k:Int)+1<many)&&decide (s.length≠128)) then none else pb many (k+1) l (out++s)
def oA (st:ar)(t:bX):Option aA:=pb t.many 0 (iq st t) []
def bK (st:ar)(n:iG):Option (List aZ):=
 if !ez n||decide (n.kind≠2)||!fg st n.aS then none else match oA st n.aS with
  |none=>none
  |some s=>if(s.length:Int)≠n.size then none else iL s
def gf (size:Int)(k:Nat):Int:=min 12 (size-k*12)
def kX (st:ar)(n:iG):Bool:=ez n&&decide (n.kind=1)&&fg st n.aS&&go 0 (iq st n.aS)
where go:Nat->List aA->Bool
 |_,[]=>true
 |k,s::l=>decide ((s.length:Int)<=gf n.size k)&&decide (nI s=s)&&go (k+1) l
def qd (size:Int):Nat->List aA->aA->aA
 |_,[],out=>out
 |k,s::l,out=>qd size (k+1) l (out++s++ir (gf size k-s.length))
def bA (st:ar)(n:iG):aA:=qd n.size 0 (iq st n.aS) []
def j9 (s:aA):Nat->Nat->ar->iG->ar×iG×Bool
 |0,_,st,n=>(st,n,true)
 |m+1,k,st,n=>match nH st n.aS k (nI ((s.take (min s.length ((k+1)*12))).drop (k*12))) with
  |(st,t,true)=>j9 s m (k+1) st {n with aS:=t}
  |(cQ,_,false)=>(cQ,n,false)
def gw (st:ar)(n:iG)(s:aA)(a b:Nat):ar×iG×Bool:=j9 s (b+1-a) a st {n with size:=s.length}
def ga (all:aA)(at_:Nat)(s:aA):aA:=
 let all:=all++ir ((at_:Int)-all.length)
 all.take at_++s++all.drop (min all.length (at_+s.length))
def fy (st:ar)(n:iG)(at_:Nat)(s:aA):ar×iG×Bool:=
 if s=[] then(st,n,true) else gw st n (ga (bA st n) at_ s) (at_/ 12) ((at_+s.length-1)/ 12)
def fk (st:ar)(n:iG)(size:Nat):ar×iG×Bool:=
 let all:=bA st n
 let many:=dn size 12
 if n.size<=size then
  let n:={n with size:=(size:Int)}
  if many=n.aS.many then(st,n,true) else match nH st n.aS (many-1).toNat [] with
   |(st,t,ok)=>(st,{n with aS:=t},ok)
 else match tp st n.aS many with
  |(cQ,_,false)=>(cQ,n,false)
  |(st,t,true)=>
   let n:={n with aS:=t,size:=(size:Int)}
   if many=0 then(st,n,true) else gw st n (all.take size) (many-1).toNat (many-1).toNat
def aH (s:aA):List aA:=if s=[47] then [] else(cut 47 s).tail
def aT (s:aA):Bool:=if s=[47] then true else if s=[]||decide (s.headD 0≠47) then false else(aH s).all bG&&decide ((aH s).length<=4)
def pathOf (l:List aA):aA:=if l=[] then [47] else(l.map λs=>47::s).flatten
def under (s top:aA):Bool:=aT s&&aT top&&decide ((aH top).length<=(aH s).length)&&decide (pathOf ((aH s).take (aH top).length)=pathOf (aH top))
structure Op where
 kind:Int
 af:aA
 to:aA
 at_:Int
 aW:aA
deriving DecidableEq,Repr,Inhabited
def gJ (o:Op):Bool:=
 let two:=decide (o.kind=6)||decide (o.kind=7)
 let at2:=decide (o.kind=3)||decide (o.kind=4)
 if !fR o.kind 1 7||!aT o.af||(two&&!aT o.to)||(!two&&decide (o.to≠[])) then false
 else if(decide (o.kind≠3)&&decide (o.aW≠[]))||decide (24<o.aW.length) then false
 else decide (o.at_=0)||(at2&&fR o.at_ 0 192)
structure Fs where
 st:ar
 t:bX
 cC:Bool
deriving Repr,Inhabited
def oM (E:Int->Option (List aZ)):List aA->Int->Int
 |[],at_=>at_
 |s::l,at_=>match E at_ with
  |none=>-1
  |some es=>match eA es s with
   |none=>-1
   |some k=>oM E l (es.getD k ⟨[],0⟩).id
namespace Fs
def node (f:Fs)(id:Int):iG:=(jj f.st f.t id).getD bu
def bH (f:Fs)(id:Int):List aZ:=(bK f.st (f.node id)).getD []
def put (f:Fs)(id:Int)(n:iG):Fs:=if f.cC then f else match pr f.st f.t id.toNat n with
 |(st,t,ok)=>⟨st,t,!ok⟩
def bf (f:Fs)(id:Int)(l:List aZ):Fs:=if f.cC then f else
 let n:=f.node id
 let s:=bg l
 match kz f.st n.aS s with
 |(st,t,ok)=>Fs.put ⟨st,f.t,!ok⟩ id {n with aS:=t,size:=s.length}
def GQ (f:Fs)(l:List aA)(at_:Int):Int:=oM (λi=>bK f.st (f.node i)) l at_
def bM (f:Fs)(af:aA):Int×Int:=
 let ad:=aH af
 if ad=[] then(0,3) else
 let at_:=f.GQ ad.dropLast 0
 if at_<0 then(0,2) else if(f.node at_).kind≠2 then(0,4) else(at_,0)
def da (f:Fs)(af:aA):Int:=f.GQ (aH af) 0
def bD (f:Fs)(af:aA):Int×Int:=
 let r:=f.bM af
 if 0<r.2 then(0,r.2) else if 0<=f.da af then(0,3) else(r.1,0)
def base (af:aA):aA:=(aH af).getLastD []
def make (f:Fs)(af:aA)(kind:Int):Fs×Int:=
 let r:=f.bD af
 if 0<r.2 then(f,r.2) else
 let l:=f.bH r.1
 match uR f.st f.t with
 |none=>(f,6)
 |some id=>if 12<=l.length then(f,6) else((f.put id ⟨kind,1,0,eY⟩).bf r.1 (gm l ⟨base af,id⟩),0)
def change(f:Fs)(o:Op):Fs×Int:=
 let id:=f.da o.af
 if id<0 then(f,2) else
 let n:=f.node id
 if n.kind≠1 then(f,4) else if 192<o.at_+o.aW.length then(f,6) else
 match(if o.kind=3 then fy f.st n o.at_.toNat o.aW else fk f.st n o.at_.toNat) with
 |(st,n,ok)=>(Fs.put ⟨st,f.t,!ok⟩ id n,0)
def qe (f:Fs)(af:aA):Fs×Int:=
 let id:=f.da af
 if id<0 then(f,2) else
 let n:=f.node id
 if id=0\/(n.kind=2/\0<n.size) then(f,5) else
 let at_:=(f.bM af).1
 let l:=f.bH at_
 let f:=f.bf at_ (eu l ((eA l (base af)).getD 0))
 let n:={n with bF:=n.bF-1}
 if 0<n.bF then(f.put id n,0) else if f.cC then(f,0) else match dY f.st f.t id with
  |(st,t,ok)=>(⟨st,t,!ok⟩,0)
def link (f:Fs)(af to:aA):Fs×Int:=
 let id:=f.da af
 if id<0 then(f,2) else
 let n:=f.node id
 if n.kind≠1 then(f,4) else
 let r:=f.bD to
 if 0<r.2 then(f,r.2) else
 let l:=f.bH r.1
 if 9<=n.bF\/12<=l.length then(f,6) else
 ((f.put id {n with bF:=n.bF+1}).bf r.1 (gm l ⟨base to,id⟩),0)
def move (f:Fs)(af to:aA):Fs×Int:=
 let id:=f.da af
 if id<0 then(f,2) else if id=0 then(f,5) else if 0<=f.da to then(f,3) else if under to af then(f,5) else
 let r:=f.bM to
 if 0<r.2 then(f,r.2) else
 let from_:=(f.bM af).1
 if r.1≠from_/\12<=(f.bH r.1).length then(f,6) else
 let old:=f.bH from_
 let old:=eu old ((eA old (base af)).getD 0)
 let e:aZ:=⟨base to,id⟩
 if r.1=from_ then(f.bf r.1 (gm old e),0) else
 let f:=f.bf from_ old
 (f.bf r.1 (gm (f.bH r.1) e),0)
end Fs
def eT (st:ar)(t:bX)(o:Op):ar×bX×Int:=
 let f:Fs:=⟨st,t,false⟩
 let r:=if o.kind=1 then f.make o.af 1 else if o.kind=2 then f.make o.af 2 else if o.kind=5 then f.qe o.af else
  if o.kind=6 then f.link o.af o.to else if o.kind=7 then f.move o.af o.to else f.change o
 let code:=if r.2=0/\r.1.cC then 7 else r.2
 if code≠0 then(st,t,code) else(r.1.st,r.1.t,code)
structure a6 where
 af:aA
 id:Int
deriving DecidableEq,Repr,Inhabited
def fm (st:ar)(t:bX):List iG:=(iq st t).map λs=>(eP s).getD bu
def dU (af name:aA):aA:=if af=[47] then 47::name else af++47::name
def jk (n:Nat)(kind:Nat->Int)(E:Nat->Option (List aZ)):Nat->a6->List a6->List a6×Bool
 |0,_,out=>(out,false)
 |f+1,x,out=>
  let out:=out++[x]
  if 144<out.length||!fR x.id 0 (n-1)||decide (kind x.id.toNat=0) then(out,false) else
  if kind x.id.toNat=1 then(out,true) else
  match E x.id.toNat with
  |none=>(out,false)
  |some l=>l.foldl (λr e=>if r.2 then jk n kind E f ⟨dU x.af e.name,e.id⟩ r.1 else r) (out,true)
def walk (st:ar)(ns:List iG):Nat->a6->List a6->List a6×Bool:=jk ns.length (λi=>(ns.getD i bu).kind) (λi=>bK st (ns.getD i bu))
def lD (out:List a6)(k:Nat):Int:=((out.filter λx=>decide (x.id=(k:Int))).length:Nat)
def lE (st:ar)(out:List a6):Nat->List iG->Bool
 |_,[]=>true
 |k,n::l=>!((decide (n.kind≠0)&&decide (lD out k≠n.bF))||(decide (n.kind=1)&&!kX st n))&&lE st out (k+1) l
def lX (st:ar)(t:bX):Option (List a6):=
 if !oz st t then none else
 let ns:=fm st t
 if ns=[]\/(ns.headD bu).kind≠2 then none else match walk st ns 146 ⟨[47],0⟩ [] with
 |(_,false)=>none
 |(out,true)=>if lE st out 0 ns then some out else none
structure bC where
 id:Int
 aD:Bool
 aW:aA
deriving DecidableEq,Repr,Inhabited
abbrev eG:=List bC
structure Flat where
 ad:List a6
 ae:eG
deriving DecidableEq,Repr,Inhabited
def gK (st:ar):Nat->List iG->eG
 |_,[]=>[]
 |k,n::l=>(if n.kind=2 then [⟨k,true,[]⟩] else if n.kind=1 then [⟨k,false,bA st n⟩] else [])++gK st (k+1) l
def IV (st:ar)(t:bX):Option Flat:=match lX st t with
 |none=>none
 |some all=>some ⟨all,gK st 0 (fm st t)⟩
structure Rdr where
 b:aA
 p:Nat
def agA (b:aA)(k n:Nat):Nat:=
 if n<1\/b.length=0 then 0 else
 if k<b.length then(b.getD k 0).toNat% n else
 let x:=(b.getD (k% b.length) 0).toNat*131+(b.getD ((k*7+3)% b.length) 0).toNat*1117+k*29+k/ b.length*53
 (x^^^ (x/ 64))% n
abbrev Dr:=StateM Rdr
def pick (n:Nat):Dr Nat:=λr=>(agA r.b r.p n,{r with p:=r.p+1})
def str (s:String):aA:=s.toUTF8.data.toList
def first:List Op:=[⟨2,str "/a",[],0,[]⟩,⟨1,str "/b",[],0,[]⟩,⟨1,str "/a/b",[],0,[]⟩,⟨3,str "/b",[],0,str "hello hello hello"⟩,⟨2,str "/a/c",[],0,[]⟩,⟨3,str "/a/b",[],30,str "hello hello hello"⟩]
def mZ (same:Bool):ar×bX:=let r:=pr (bT same) eY 0 ⟨2,1,0,eY⟩;(r.1,r.2.1)
def tq:Nat->Nat->aA->Nat
 |_,at_,[]=>at_
 |i,at_,c::s=>tq (i+1) (if c=47 then i else at_) s
def tt (s:aA):Nat:=tq 0 0 s
def aP (s:aA):aA×aA:=if tt s=0 then([47],s.drop (min 1 s.length)) else(s.take (tt s),s.drop (tt s+1))
namespace Flat
def dq (f:Flat)(p:aA):Option Nat:=f.ad.findIdx? λx=>decide (x.af=p)
def cH (f:Flat)(id:Int):Option Nat:=f.ae.findIdx? λx=>decide (x.id=id)
def many (f:Flat)(id:Int):Nat:=f.ad.countP λx=>decide (x.id=id)
def nD (f:Flat)(p:aA):Nat:=f.ad.tail.countP λx=>decide ((aP x.af).1=p)
def ig (f:Flat)(id:Int):Bool:=match f.cH id with
 |none=>false
 |some k=>(f.ae.getD k ⟨0,false,[]⟩).aD
def tu (f:Flat)(i:Nat):Bool:=
 let x:=f.ae.getD i ⟨0,false,[]⟩
 !(!fR x.id 0 15||(decide (0<i)&&decide (x.id<=(f.ae.getD (i-1) ⟨0,false,[]⟩).id))||(x.aD&&decide (x.aW≠[]))||decide (192<x.aW.length)||!fR (f.many x.id) 1 (if x.aD then 1 else 9))
def kA (f:Flat):Bool:=
 let x:=f.ae.getD 0 ⟨0,false,[]⟩
 fR f.ae.length 1 16&&decide (x.id=0)&&x.aD&&(List.range f.ae.length).all f.tu
def uS (f:Flat)(i:Nat):Bool:=
 let x:=f.ad.getD i ⟨[],0⟩
 let r:=aP x.af
 let af:=if r.1=[47] then 47::r.2 else r.1++47::r.2
 match f.dq r.1 with
 |none=>false
 |some k=>bL (f.ad.getD (i-1) ⟨[],0⟩).af x.af&&decide (k<i)&&decide (af=x.af)&&bG r.2&&(f.cH x.id).isSome&&f.ig (f.ad.getD k ⟨[],0⟩).id&&decide (f.nD x.af<=12)
def ok (f:Flat):Bool:=f.kA&&decide (f.ad≠[])&&decide (f.ad.getD 0 ⟨[],0⟩=⟨[47],0⟩)&&(List.range f.ad.length).all (λi=>decide (i=0)||f.uS i)&&decide (f.nD [47]<=12)
def da (f:Flat)(p:aA):Int×Bool:=match f.dq p with
 |none=>(0,false)
 |some k=>if f.ok then((f.ad.getD k ⟨[],0⟩).id,true) else(0,false)
def gb:List a6->a6->List a6
 |[],e=>[e]
 |x::l,e=>if bL e.af x.af then e::x::l else x::gb l e
def add (f:Flat)(p:aA)(id:Int):Flat:=⟨gb f.ad ⟨p,id⟩,f.ae⟩
def less (f:Flat)(p:aA):Flat:=⟨f.ad.filter λx=>decide (x.af≠p),f.ae⟩
def bD (f:Flat)(p:aA):Int:=match f.dq (aP p).1 with
 |none=>if p=[47] then 3 else 2
 |some k=>if p=[47] then 3 else if !f.ig (f.ad.getD k ⟨[],0⟩).id then 4 else if(f.dq p).isSome then 3 else 0
def yJ (f:Flat):Nat->Nat->Nat
 |0,id=>id
 |n+1,id=>if(f.cH id).isSome then yJ f n (id+1) else id
def cj (f:Flat):Nat:=f.yJ (f.ae.length+1) 0
def oN:eG->bC->eG
 |[],e=>[e]
 |x::l,e=>if x.id<e.id then x::oN l e else e::x::l
def make (f:Flat)(p:aA)(aD:Bool):Flat×Int:=
 if 0<f.bD p then(f,f.bD p) else
 let id:=f.cj
 if 16<=id\/12<=f.nD (aP p).1 then(f,6) else
 (Flat.add ⟨f.ad,oN f.ae ⟨id,aD,[]⟩⟩ p id,0)
def yK (f:Flat)(k:Nat)(s:aA):Flat:=⟨f.ad,f.ae.set k {f.ae.getD k ⟨0,false,[]⟩ with aW:=s}⟩
def change(f:Flat)(o:Op):Flat×Int:=match f.dq o.af with
 |none=>(f,2)
 |some k=>match f.cH (f.ad.getD k ⟨[],0⟩).id with
  |none=>(f,0)
  |some x=>
   let t:=f.ae.getD x ⟨0,false,[]⟩
   if t.aD then(f,4) else if 192<o.at_+o.aW.length then(f,6) else
   if o.kind=4 then(f.yK x ((t.aW++ir (o.at_-t.aW.length)).take o.at_.toNat),0) else
   if o.aW≠[] then(f.yK x (ga t.aW o.at_.toNat o.aW),0) else(f,0)
def dY (f:Flat)(p:aA):Flat×Int:=match f.dq p with
 |none=>(f,2)
 |some k=>
  let id:=(f.ad.getD k ⟨[],0⟩).id
  if p=[47]\/0<f.nD p then(f,5) else
  let g:=f.less p
  if g.many id=0 then match g.cH id with
   |none=>(g,0)
   |some x=>(⟨g.ad,g.ae.take x++g.ae.drop (x+1)⟩,0)
  else(g,0)
def link (f:Flat)(p to:aA):Flat×Int:=match f.dq p with
 |none=>(f,2)
 |some k=>
  let id:=(f.ad.getD k ⟨[],0⟩).id
  if f.ig id then(f,4) else if 0<f.bD to then(f,f.bD to) else
  if 9<=f.many id\/12<=f.nD (aP to).1 then(f,6) else(f.add to id,0)
def eM (p to x:aA):aA:=if x=p\/(p.length<x.length/\x.take (p.length+1)=p++[47]) then to++x.drop p.length else x
def move (f:Flat)(p to:aA):Flat×Int:=match f.dq p with
 |none=>(f,2)
 |some _=>if p=[47] then(f,5) else if(f.dq to).isSome then(f,3) else if under to p then(f,5) else
  if 0<f.bD to then(f,f.bD to) else
  if(aP to).1≠(aP p).1/\12<=f.nD (aP to).1 then(f,6) else
  (⟨f.ad.foldl (λl x=>gb l ⟨eM p to x.af,x.id⟩) [],f.ae⟩,0)
def eT (f:Flat)(o:Op):Flat×Int:=
 if o.kind=1\/o.kind=2 then f.make o.af (decide (o.kind=2)) else if o.kind=5 then f.dY o.af else
 if o.kind=6 then f.link o.af o.to else if o.kind=7 then f.move o.af o.to else f.change o
def run (f:Flat)(o:Op):Flat×Int:=if !f.ok then(⟨[],[]⟩,1) else if !gJ o then(f,1) else f.eT o
end Flat
end Go.Pl
namespace Go.Ev
open Go Go.Pl
def wj (x:Pl.a6):List Pl.a6->List Pl.a6
 |[]=>[x]
 |y::l=>if bL x.af y.af then x::y::l else y::wj x l
def gT (l:List Pl.a6):List Pl.a6:=l.foldr wj []
def wk (x:Pl.bC):List Pl.bC->List Pl.bC
 |[]=>[x]
 |y::l=>if x.id<y.id then x::y::l else y::wk x l
def gZ (l:List Pl.bC):List Pl.bC:=l.foldr wk []
def qf (x:Pl.a6):aQ:=[.string ⟨⟨x.af⟩⟩,.int .i64 x.id]
def qg (x:Pl.bC):aQ:=[.int .i64 x.id,.bool x.aD,.string ⟨⟨x.aW⟩⟩]
def Ss:aQ->Option (List Pl.a6)
 |[]=>some []
 |.string ⟨⟨z⟩⟩:: .int .i64 i::l=>(Ss l).map (⟨z,i⟩::·)
 |_=>none
def Su:aQ->Option (List Pl.bC)
 |[]=>some []
 |.int .i64 i:: .bool b:: .string ⟨⟨z⟩⟩::l=>(Su l).map (⟨i,b,z⟩::·)
 |_=>none
noncomputable section
def KW {α:Type}(g k:Nat)(dec:aQ->Option (List α))(cells:α->aQ)(sort:List α->List α)(apart:List α->Bool):xc:=λargs s=>match args with
 |[.slice (some ⟨b,o,none⟩) n _,.func (.func g') ⟨[]⟩ ⟨[]⟩]=>eg (Nat.beq g g'&&Nat.ble 1 n&&Nat.ble n 1000000)<| s.row b λc e w s=>eg (Nat.ble (o+n*k) c.length)<| ob (dec ((c.drop o).take (n*k))) λl=>
    eg (apart l&&Nat.beq l.length n)<| aL (.tuple ⟨[]⟩) (s.put b (some (.cells (c.take o++(sort l).flatMap cells++c.drop (o+n*k)) e w)))
 |_=>none
def xm (l:List Pl.a6):Bool:=decide (l.map (·.af)).Nodup
def xn (l:List Pl.bC):Bool:=decide (l.map (·.id)).Nodup
def VT (g:Nat):xc:=KW g 2 Ss qf gT xm
def VU (g:Nat):xc:=KW g 3 Su qg gZ xn
def Ap (a b:Pl.aA):Int:=if bL a b then -1 else if bL b a then 1 else 0
def Df:xc:=λargs s=>match args with
 |[.string ⟨⟨a⟩⟩,.string ⟨⟨b⟩⟩]=>aL (.int .i64 (Ap a b)) s
 |_=>none
def yL (z:Pl.aA):Nat->Pl.aA
 |0=>[]
 |n+1=>z++yL z n
def IW:xc:=λargs s=>match args with
 |[.string ⟨⟨z⟩⟩,.int .i64 (.ofNat n)]=>eg (Nat.ble (z.length*n) 1000000&&Nat.ble n 1000000)<| aL (.string ⟨⟨yL z n⟩⟩) s
 |_=>none
def IX:xc:=λargs s=>match args with
 |[.string ⟨⟨z⟩⟩,.int .u8 (.ofNat c)]=>eg (Nat.ble (Nat.succ c) 256)<| aL (.int .i64 (.ofNat (ek (z.filter λb=>Nat.beq b.toNat c)))) s
 |_=>none
def cB:List Pl.aA:=[[],[97],[47,47],[47,97,47],[47,65],[47,97,47,98,47,99,47,97,47,98],[47,97,98,99,100,101],[47,97,47,47,98],[47,97],[47,98],[47,97,47,98],[47,97,47,99],[47,98,47,97],[47,99],[47,97,47,98,47,99],[47,99,47,97],[47,97,98],[47]]
def db (z:Pl.aA):Pl.aA:=if aT z=true/\z≠[47] then(aP z).1 else []
def IY:xc:=λargs s=>match args with
 |[.string ⟨⟨z⟩⟩]=>eg (decide (z∈cB)) (aL (.bool (aT z)) s)
 |_=>none
def uT:xc:=λargs s=>match args with
 |[.string ⟨⟨z⟩⟩]=>eg (decide (z∈cB)) (aL (.string ⟨⟨db z⟩⟩) s)
 |_=>none
def xp:xc:=λargs s=>match args with
 |[.string ⟨⟨z⟩⟩,.string ⟨⟨t⟩⟩]=>eg (decide (z∈cB/\t∈cB/\aT z=true/\aT t=true)) (aL (.bool (under z t)) s)
 |_=>none
end
end Go.Ev
namespace Go.Proofs
open Go Go.Ev
abbrev az {α:Type}(x:α)(l r:T α):T α:=.node (some x) l r
abbrev ay {α:Type}:T α:=.nil
open Tryz
noncomputable def fnT:T Func:=(T.node none (T.node none (az f3 (az f7 (az f15 (az f31 (az f63 (az f127 (az f255 ay ay) ay) (az f191 ay ay)) (az f95 (az f159 (az f287 ay ay) ay) (az f223 ay ay))) (az f47 (az f79 (az f143 (az f271 ay ay) ay) (az f207 ay ay)) (az f111 (az f175 ay ay) (az f239 ay ay)))) (az f23 (az f39 (az f71 (az f135 (az f263 ay ay) ay) (az f199 ay ay)) (az f103 (az f167 ay ay) (az f231 ay ay))) (az f55 (az f87 (az f151 (az f279 ay ay) ay) (az f215 ay ay)) (az f119 (az f183 ay ay) (az f247 ay ay))))) (az f11 (az f19 (az f35 (az f67 (az f131 (az f259 ay ay) ay) (az f195 ay ay)) (az f99 (az f163 ay ay) (az f227 ay ay))) (az f51 (az f83 (az f147 (az f275 ay ay) ay) (az f211 ay ay)) (az f115 (az f179 ay ay) (az f243 ay ay)))) (az f27 (az f43 (az f75 (az f139 (az f267 ay ay) ay) (az f203 ay ay)) (az f107 (az f171 ay ay) (az f235 ay ay))) (az f59 (az f91 (az f155 (az f283 ay ay) ay) (az f219 ay ay)) (az f123 (az f187 ay ay) (az f251 ay ay)))))) (az f5 (az f9 (az f17 (az f33 (az f65 (az f129 (az f257 ay ay) ay) (az f193 ay ay)) (az f97 (az f161 (az f289 ay ay) ay) (az f225 ay ay))) (az f49 (az f81 (az f145 (az f273 ay ay) ay) (az f209 ay ay)) (az f113 (az f177 ay ay) (az f241 ay ay)))) (az f25 (az f41 (az f73 (az f137 (az f265 ay ay) ay) (az f201 ay ay)) (az f105 (az f169 ay ay) (az f233 ay ay))) (az f57 (az f89 (az f153 (az f281 ay ay) ay) (az f217 ay ay)) (az f121 (az f185 ay ay) (az f249 ay ay))))) (az f13 (az f21 (az f37 (az f69 (az f133 (az f261 ay ay) ay) (az f197 ay ay)) (az f101 (az f165 ay ay) (az f229 ay ay))) (az f53 (az f85 (az f149 (az f277 ay ay) ay) (az f213 ay ay)) (az f117 (az f181 ay ay) (az f245 ay ay)))) (az f29 (az f45 (az f77 (az f141 (az f269 ay ay) ay) (az f205 ay ay)) (az f109 (az f173 ay ay) (az f237 ay ay))) (az f61 (az f93 (az f157 (az f285 ay ay) ay) (az f221 ay ay)) (az f125 (az f189 ay ay) (az f253 ay ay))))))) (T.node none (az f4 (az f8 (az f16 (az f32 (az f64 (az f128 (az f256 ay ay) ay) (az f192 ay ay)) (az f96 (az f160 (az f288 ay ay) ay) (az f224 ay ay))) (az f48 (az f80 (az f144 (az f272 ay ay) ay) (az f208 ay ay)) (az f112 (az f176 ay ay) (az f240 ay ay)))) (az f24 (az f40 (az f72 (az f136 (az f264 ay ay) ay) (az f200 ay ay)) (az f104 (az f168 ay ay) (az f232 ay ay))) (az f56 (az f88 (az f152 (az f280 ay ay) ay) (az f216 ay ay)) (az f120 (az f184 ay ay) (az f248 ay ay))))) (az f12 (az f20 (az f36 (az f68 (az f132 (az f260 ay ay) ay) (az f196 ay ay)) (az f100 (az f164 ay ay) (az f228 ay ay))) (az f52 (az f84 (az f148 (az f276 ay ay) ay) (az f212 ay ay)) (az f116 (az f180 ay ay) (az f244 ay ay)))) (az f28 (az f44 (az f76 (az f140 (az f268 ay ay) ay) (az f204 ay ay)) (az f108 (az f172 ay ay) (az f236 ay ay))) (az f60 (az f92 (az f156 (az f284 ay ay) ay) (az f220 ay ay)) (az f124 (az f188 ay ay) (az f252 ay ay)))))) (az f6 (az f10 (az f18 (az f34 (az f66 (az f130 (az f258 ay ay) ay) (az f194 ay ay)) (az f98 (az f162 (az f290 ay ay) ay) (az f226 ay ay))) (az f50 (az f82 (az f146 (az f274 ay ay) ay) (az f210 ay ay)) (az f114 (az f178 ay ay) (az f242 ay ay)))) (az f26 (az f42 (az f74 (az f138 (az f266 ay ay) ay) (az f202 ay ay)) (az f106 (az f170 ay ay) (az f234 ay ay))) (az f58 (az f90 (az f154 (az f282 ay ay) ay) (az f218 ay ay)) (az f122 (az f186 ay ay) (az f250 ay ay))))) (az f14 (az f22 (az f38 (az f70 (az f134 (az f262 ay ay) ay) (az f198 ay ay)) (az f102 (az f166 ay ay) (az f230 ay ay))) (az f54 (az f86 (az f150 (az f278 ay ay) ay) (az f214 ay ay)) (az f118 (az f182 ay ay) (az f246 ay ay)))) (az f30 (az f46 (az f78 (az f142 (az f270 ay ay) ay) (az f206 ay ay)) (az f110 (az f174 ay ay) (az f238 ay ay))) (az f62 (az f94 (az f158 (az f286 ay ay) ay) (az f222 ay ay)) (az f126 (az f190 ay ay) (az f254 ay ay))))))))
noncomputable def tyT:T TypeInfo:=(az t0 (az t1 (az t3 (az t7 (az t15 (az t31 (az t63 (az t127 (az t255 ay ay) ay) (az t191 ay ay)) (az t95 (az t159 (az t287 ay ay) ay) (az t223 ay ay))) (az t47 (az t79 (az t143 (az t271 ay ay) ay) (az t207 ay ay)) (az t111 (az t175 (az t303 ay ay) ay) (az t239 ay ay)))) (az t23 (az t39 (az t71 (az t135 (az t263 ay ay) ay) (az t199 ay ay)) (az t103 (az t167 (az t295 ay ay) ay) (az t231 ay ay))) (az t55 (az t87 (az t151 (az t279 ay ay) ay) (az t215 ay ay)) (az t119 (az t183 ay ay) (az t247 ay ay))))) (az t11 (az t19 (az t35 (az t67 (az t131 (az t259 ay ay) ay) (az t195 ay ay)) (az t99 (az t163 (az t291 ay ay) ay) (az t227 ay ay))) (az t51 (az t83 (az t147 (az t275 ay ay) ay) (az t211 ay ay)) (az t115 (az t179 ay ay) (az t243 ay ay)))) (az t27 (az t43 (az t75 (az t139 (az t267 ay ay) ay) (az t203 ay ay)) (az t107 (az t171 (az t299 ay ay) ay) (az t235 ay ay))) (az t59 (az t91 (az t155 (az t283 ay ay) ay) (az t219 ay ay)) (az t123 (az t187 ay ay) (az t251 ay ay)))))) (az t5 (az t9 (az t17 (az t33 (az t65 (az t129 (az t257 ay ay) ay) (az t193 ay ay)) (az t97 (az t161 (az t289 ay ay) ay) (az t225 ay ay))) (az t49 (az t81 (az t145 (az t273 ay ay) ay) (az t209 ay ay)) (az t113 (az t177 ay ay) (az t241 ay ay)))) (az t25 (az t41 (az t73 (az t137 (az t265 ay ay) ay) (az t201 ay ay)) (az t105 (az t169 (az t297 ay ay) ay) (az t233 ay ay))) (az t57 (az t89 (az t153 (az t281 ay ay) ay) (az t217 ay ay)) (az t121 (az t185 ay ay) (az t249 ay ay))))) (az t13 (az t21 (az t37 (az t69 (az t133 (az t261 ay ay) ay) (az t197 ay ay)) (az t101 (az t165 (az t293 ay ay) ay) (az t229 ay ay))) (az t53 (az t85 (az t149 (az t277 ay ay) ay) (az t213 ay ay)) (az t117 (az t181 ay ay) (az t245 ay ay)))) (az t29 (az t45 (az t77 (az t141 (az t269 ay ay) ay) (az t205 ay ay)) (az t109 (az t173 (az t301 ay ay) ay) (az t237 ay ay))) (az t61 (az t93 (az t157 (az t285 ay ay) ay) (az t221 ay ay)) (az t125 (az t189 ay ay) (az t253 ay ay))))))) (az t2 (az t4 (az t8 (az t16 (az t32 (az t64 (az t128 (az t256 ay ay) ay) (az t192 ay ay)) (az t96 (az t160 (az t288 ay ay) ay) (az t224 ay ay))) (az t48 (az t80 (az t144 (az t272 ay ay) ay) (az t208 ay ay)) (az t112 (az t176 ay ay) (az t240 ay ay)))) (az t24 (az t40 (az t72 (az t136 (az t264 ay ay) ay) (az t200 ay ay)) (az t104 (az t168 (az t296 ay ay) ay) (az t232 ay ay))) (az t56 (az t88 (az t152 (az t280 ay ay) ay) (az t216 ay ay)) (az t120 (az t184 ay ay) (az t248 ay ay))))) (az t12 (az t20 (az t36 (az t68 (az t132 (az t260 ay ay) ay) (az t196 ay ay)) (az t100 (az t164 (az t292 ay ay) ay) (az t228 ay ay))) (az t52 (az t84 (az t148 (az t276 ay ay) ay) (az t212 ay ay)) (az t116 (az t180 ay ay) (az t244 ay ay)))) (az t28 (az t44 (az t76 (az t140 (az t268 ay ay) ay) (az t204 ay ay)) (az t108 (az t172 (az t300 ay ay) ay) (az t236 ay ay))) (az t60 (az t92 (az t156 (az t284 ay ay) ay) (az t220 ay ay)) (az t124 (az t188 ay ay) (az t252 ay ay)))))) (az t6 (az t10 (az t18 (az t34 (az t66 (az t130 (az t258 ay ay) ay) (az t194 ay ay)) (az t98 (az t162 (az t290 ay ay) ay) (az t226 ay ay))) (az t50 (az t82 (az t146 (az t274 ay ay) ay) (az t210 ay ay)) (az t114 (az t178 ay ay) (az t242 ay ay)))) (az t26 (az t42 (az t74 (az t138 (az t266 ay ay) ay) (az t202 ay ay)) (az t106 (az t170 (az t298 ay ay) ay) (az t234 ay ay))) (az t58 (az t90 (az t154 (az t282 ay ay) ay) (az t218 ay ay)) (az t122 (az t186 ay ay) (az t250 ay ay))))) (az t14 (az t22 (az t38 (az t70 (az t134 (az t262 ay ay) ay) (az t198 ay ay)) (az t102 (az t166 (az t294 ay ay) ay) (az t230 ay ay))) (az t54 (az t86 (az t150 (az t278 ay ay) ay) (az t214 ay ay)) (az t118 (az t182 ay ay) (az t246 ay ay)))) (az t30 (az t46 (az t78 (az t142 (az t270 ay ay) ay) (az t206 ay ay)) (az t110 (az t174 (az t302 ay ay) ay) (az t238 ay ay))) (az t62 (az t94 (az t158 (az t286 ay ay) ay) (az t222 ay ay)) (az t126 (az t190 ay ay) (az t254 ay ay))))))))
noncomputable def a8:dA:=⟨fnT,tyT,169,[(39,[1,0]),(61,[0,2,1]),(83,[0,0,0,0,0])],[(94,"loop.example/poolfiles/impl.lead",21),(94,"loop.example/poolfiles/impl.folder",287),(94,"loop.example/poolfiles/impl.entries",286),(94,"loop.example/poolfiles/impl.links",90),(94,"loop.example/poolfiles/impl.size",290),(94,"loop.example/poolfiles/impl.room",86)]⟩
noncomputable def bj:dM:=⟨214,259,215,99999,5,[(135,VT 136),(137,VU 138),(81,Df),(87,IW),(13,IY),(85,uT),(12,xp)]⟩
end Go.Proofs
namespace Go.Ev
open Go
section
variable {P:Program}{f:FuncId}
theorem LR.ground {A:Nat->Prop}{ρ:fB}{l l':aQ}(h:LR A ρ l l')(hg:∀x∈l,∀ρ,bY ρ x=x):l'=l:=by
 rw[<-h.self];exact(Fl λx hx=>hg x hx ρ).trans (List.map_id _)
theorem sq {h:xc}(H:∀args s v s',h args s=some (v,s')->s'=s/\(∀ρ,bY ρ v=v)/\(∀x∈args,∀ρ,bY ρ x=x)/\∀w,lP P f ⟨args⟩ w λv' w'=>v'=v/\Fr w w' λ_=>False):mY P f h:=by
 intro args s v s' hh;obtain⟨rfl,hv,ha,hc⟩:=H args s v s' hh;refine⟨aF.refl _,λY A ρ w gH hp gL hl=>?_⟩;have:=hl.ground ha;subst this;refine(hc w).mono λv' w' ⟨h1,hf⟩=>?_
 subst h1;exact⟨ρ,VR.ground hv,Good.agy hp.st hp.eh rfl rfl hf⟩
theorem run_pure {call:dJ}(hC:dP P call){args:aQ}{n:Nat}{v:Value}{s1:St}(hn:16<=n)(hc:call f args ⟨.nil,n,0,0⟩=some (v,s1))(hv:∀ρ,bY ρ v=v)(ha:∀x∈args,∀ρ,bY ρ x=x)(w:World):lP P f ⟨args⟩ w λv' w'=>v'=v/\Fr w w' λ_=>False:=by
 obtain⟨hg,hk⟩:=hC _ _ _ _ _ hc;have x7:∀b,(⟨.nil,n,0,0⟩:St).heap.get b=none:=λb=>rfl
 have:=hk (λb=>In s1.cO b) (λi=>i<n) (λi=>(i,0)) w args ⟨λi hi=>hi,λb _=>x7 b,λb hb=>hb,⟨λb o _ h=>(by have h1:=(x7 b).symm.trans h;cases h1),λb b' o o' _ _ h=>(by have h1:=(x7 b).symm.trans h;cases h1)⟩⟩ (λg hg=>⟨yb hg hn,rfl⟩) (λeI _=>(Fl λx hx=>ha x hx eI).trans (List.map_id _));refine this.mono λv' w' ⟨eI,h1,hG⟩=>⟨?_,hG.fQ.os,hG.fQ.tape,hG.fQ.output,hG.fQ.size,λr hr _=>hG.fQ.block r hr ?_⟩
 .rw[<-h1.self];exact hv _
 .rintro⟨b,o,_,_,h,_⟩;rw[x7] at h;cases h
end
end Go.Ev
namespace Go.Proofs
open Go Go.Ev Go.Pl
noncomputable def agB:dM:=⟨214,259,215,99999,5,[(188,IX)]⟩
def st0:St:=⟨.nil,16,0,0⟩
noncomputable def KX (f:Nat)(args:aQ)(v:Value):Bool:=match q9 a8 agB 100000 [] 200 f args st0 with
 |some (u,_)=>Fh u v
 |none=>false
def S (z:List UInt8):Value:=.string ⟨⟨z⟩⟩
theorem agC:cB.all (λz=>KX 13 [S z] (.bool (aT z)))=true:=by kernel_rfl
theorem agD:cB.all (λz=>KX 85 [S z] (S (db z)))=true:=by kernel_rfl
theorem agE:cB.all (λz=>!aT z||cB.all λt=>!aT t||KX 12 [S z,S t] (.bool (under z t)))=true:=by kernel_rfl
end Go.Proofs
namespace Go.Ev
open Go
section
variable (E:dA)(X:dM)
def akf (f:FuncId)(args:aQ)(s:St)(v:Value)(s':St):Prop:=∃N,∀n,N<=n->∀lf,N<=lf->q9 E X lf [] n f args s=some (v,s')
def jl (c:Code)(tm:Tm)(s:St)(Q:Ex->Tm->St->Prop):Prop:=∃N e jx s',Q e jx s'/\∀n,N<=n->∀lf,N<=lf->mu E (q9 E X lf [] n) lf c tm s=some (e,jx,s')
def akg (body:Code)(tm:Tm)(s:St)(Q:Ex->Tm->St->Prop):Prop:=∃N e jx s',Q e jx s'/\∀n,N<=n->∀lf,N<=lf->∀m,N<=m->CP (mu E (q9 E X lf [] n) lf body) m tm s=some (e,jx,s')
def fS (ev:Operand->Value)(s:St)(o:Op)(K:Value->St->Prop):Prop:=∃N v s',K v s'/\∀n,N<=n->∀lf,N<=lf->Fb E (q9 E X lf [] n) ev s o=some (v,s')
def yM (aB l:List Oper)(tm:Tm)(s:St)(K:Tm->St->Prop):Prop:=∃N jx s',K jx s'/\∀n,N<=n->∀lf,N<=lf->Ku E (q9 E X lf [] n) aB l tm s=some (jx,s')
def FG (aB l:List Oper)(j:Nat)(tm:Tm)(s:St)(seen:List Seen)(K:Tm->St->Prop):Prop:=∃N jx s',K jx s'/\∀n,N<=n->∀lf,N<=lf->uE E (q9 E X lf [] n) aB l j tm s seen=some (jx,s')
variable {E X}{f:FuncId}{args:aQ}{v:Value}{c a b:Code}{tm:Tm}{s s':St}{Q Q':Ex->Tm->St->Prop}{K:Tm->St->Prop}{aB l:List Oper}{o:Oper}
theorem jl.mono (h:jl E X c tm s Q)(k:∀e tm s,Q e tm s->Q' e tm s):jl E X c tm s Q':=by
 obtain⟨N,e,jx,s',hq,hr⟩:=h;exact⟨N,e,jx,s',k _ _ _ hq,hr⟩
def agF (Q:Ex->Tm->St->Prop)(k:Tm->St->Prop):Ex->Tm->St->Prop
 |.normal,tm,s=>k tm s
 |e,tm,s=>Q e tm s
def aak (id:Nat)(Q:Ex->Tm->St->Prop):Ex->Tm->St->Prop
 |.exit i,tm,s=>Q (if i=id then .normal else .exit i) tm s
 |e,tm,s=>Q e tm s
theorem jl.skip (h:Q .normal tm s):jl E X .skip tm s Q:=⟨0,_,_,_,h,λ_ _ _ _=>rfl⟩
theorem jl.ret (h:Q .ret tm s):jl E X .ret tm s Q:=⟨0,_,_,_,h,λ_ _ _ _=>rfl⟩
theorem jl.exit {id:Nat}(h:Q (.exit id) tm s):jl E X (.exit id) tm s Q:=⟨0,_,_,_,h,λ_ _ _ _=>rfl⟩
theorem jl.seq (h:jl E X a tm s (agF Q λtm s=>jl E X b tm s Q)):jl E X (.seq a b) tm s Q:=by
 obtain⟨N,e,si,s1,hq,hr⟩:=h;have hc:∀(call:dJ)(lf:Nat),mu E call lf (.seq a b) tm s=Gq (mu E call lf a tm s) (mu E call lf b):=λ_ _=>rfl
 cases e with
 |normal=>
  obtain⟨M,e2,Zz,s2,ZA,nG⟩:=(show jl E X b si s1 Q from hq);refine⟨max N M,e2,Zz,s2,ZA,λn hn lf hl=>?_⟩;rw[hc,hr n ag lf ag];exact nG n ag lf ag
 |exit i=>exact⟨N,_,_,_,(show Q (.exit i) si s1 from hq),λn hn lf hl=>by rw[hc,hr n hn lf hl];rfl⟩
 |ret=>exact⟨N,_,_,_,(show Q .ret si s1 from hq),λn hn lf hl=>by rw[hc,hr n hn lf hl];rfl⟩
theorem jl.cond {x:Operand}(t:Bool)(hx:aM tm x= .bool t)(h:if t=true then jl E X a tm s Q else jl E X b tm s Q):jl E X (.cond x a b) tm s Q:=by
 have hc:∀(call:dJ)(lf:Nat),mu E call lf (.cond x a b) tm s=Qg (aM tm x) (mu E call lf a tm s) (mu E call lf b tm s):=λ_ _=>rfl
 cases t with
 |true=>
  obtain⟨N,e,si,s1,hq,hr⟩:=(show jl E X a tm s Q from by simpa using h);exact⟨N,e,si,s1,hq,λn hn lf hl=>by rw[hc,hx];exact hr n hn lf hl⟩
 |false=>
  obtain⟨N,e,si,s1,hq,hr⟩:=(show jl E X b tm s Q from by simpa using h);exact⟨N,e,si,s1,hq,λn hn lf hl=>by rw[hc,hx];exact hr n hn lf hl⟩
theorem jl.block {id:Nat}(h:jl E X a tm s (aak id Q)):jl E X (.block id a) tm s Q:=by
 have hc:∀(call:dJ)(lf:Nat),mu E call lf (.block id a) tm s=adv id (mu E call lf a tm s):=λ_ _=>rfl
 obtain⟨N,e,si,s1,hq,hr⟩:=h;cases e with
 |normal=>exact⟨N,_,_,_,(show Q .normal si s1 from hq),λn hn lf hl=>by rw[hc,hr n hn lf hl];rfl⟩
 |ret=>exact⟨N,_,_,_,(show Q .ret si s1 from hq),λn hn lf hl=>by rw[hc,hr n hn lf hl];rfl⟩
 |exit i=>
  refine⟨N,_,_,_,(show Q (if i=id then .normal else .exit i) si s1 from hq),λn hn lf hl=>?_⟩;rw[hc,hr n hn lf hl];show bo (Nat.beq i id) (some (Ex.normal,si,s1)) (some (.exit i,si,s1))=_;rw[dO];by_cases h:i=id<;>simp[h]
theorem jl.loop (I:Nat->Tm->St->Prop)(k:Nat)(h0:I k tm s)(step:∀k tm s,I k tm s->jl E X a tm s (agF Q λtm s=>∃j,j<k/\I j tm s)):jl E X (.loop a) tm s Q:=by
 have key:∀k tm s,I k tm s->akg E X a tm s Q:=by
  intro k;induction k using Nat.strongRecOn with
  |ind k ih=>
   intro tm s hI;obtain⟨N,e,si,s1,hq,hr⟩:=step k tm s hI;have hc:∀(body:Tm->St->R4)(m:Nat),CP body (m+1) tm s=Gq (body tm s) (CP body m):=λ_ _=>rfl
   cases e with
   |normal=>
    obtain⟨j,hj,hI'⟩:=hq;obtain⟨M,e2,Zz,s2,ZA,nG⟩:=ih j hj si s1 hI';refine⟨max N M+1,e2,Zz,s2,ZA,λn hn lf hl m hm=>?_⟩;obtain⟨m,rfl⟩:∃q,m=q+1:=⟨m-1,ag⟩;rw[hc,hr n ag lf ag];exact nG n ag lf ag m ag
   |exit i=>
    refine⟨N+1,_,_,_,(show Q (.exit i) si s1 from hq),λn hn lf hl m hm=>?_⟩;obtain⟨m,rfl⟩:∃q,m=q+1:=⟨m-1,ag⟩;rw[hc,hr n ag lf ag];rfl
   |ret=>
    refine⟨N+1,_,_,_,(show Q .ret si s1 from hq),λn hn lf hl m hm=>?_⟩;obtain⟨m,rfl⟩:∃q,m=q+1:=⟨m-1,ag⟩;rw[hc,hr n ag lf ag];rfl
 obtain⟨N,e,si,s1,hq,hr⟩:=key k tm s h0;exact⟨N,e,si,s1,hq,λn hn lf hl=>hr n hn lf hl lf hl⟩
theorem jl.region {id:Nat}{arr:Array Oper}(h:yM E X arr.toList arr.toList tm s (Q .normal)):jl E X (.region id arr false) tm s Q:=by
 obtain⟨N,si,s1,hq,hr⟩:=h;refine⟨N,.normal,si,s1,hq,λn hn lf hl=>?_⟩;show Gs (Ku E _ arr.toList arr.toList tm s)=_;rw[hr n hn lf hl];rfl
theorem jl.draw {id:Nat}{arr:Array Oper}(h:FG E X arr.toList arr.toList 0 tm s [] (Q .normal)):jl E X (.region id arr true) tm s Q:=by
 obtain⟨N,si,s1,hq,hr⟩:=h;refine⟨N,.normal,si,s1,hq,λn hn lf hl=>?_⟩;show Gs (uE E _ arr.toList arr.toList 0 tm s [])=_;rw[hr n hn lf hl];rfl
theorem yM.nil (h:K tm s):yM E X aB [] tm s K:=⟨0,_,_,h,λ_ _ _ _=>rfl⟩
theorem yM.cons (hw:ie aB tm o.guard=true)(h:fS E X (aM tm) s o.op λv s=>yM E X aB l (tm.gY o.dst v) s K):yM E X aB (o::l) tm s K:=by
 obtain⟨N,v,s1,hk,hr⟩:=h;obtain⟨M,Zz,s2,yH,nG⟩:=hk;refine⟨max N M,Zz,s2,yH,λn hn lf hl=>?_⟩;rw[Am,hw,gu,hr n ag lf ag];show Tm.put tm o.dst v _=_;rw[Tm.put_eq];exact nG n ag lf ag
theorem yM.pass (hw:ie aB tm o.guard=false)(h:yM E X aB l (tm.gY o.dst (.tuple ⟨[]⟩)) s K):yM E X aB (o::l) tm s K:=by
 obtain⟨M,Zz,s2,yH,nG⟩:=h;refine⟨M,Zz,s2,yH,λn hn lf hl=>?_⟩;rw[Am,hw,eJ,Tm.put_eq];exact nG n hn lf hl
end
section
variable (E:dA)(X:dM)
def sr (f:FuncId)(args:aQ)(s:St)(Q:Value->St->Prop):Prop:=∃v s',akf E X f args s v s'/\Q v s'
variable {E X}{f g:FuncId}{fn:Func}{args:aQ}{v:Value}{c a b:Code}{tm:Tm}{s s':St}{K:Value->St->Prop}{aB l:List Oper}{o:Op}{ev:Operand->Value}
theorem sr.mono {K':Value->St->Prop}(h:sr E X f args s K)(k:∀v s,K v s->K' v s):sr E X f args s K':=by
 obtain⟨v,s',h1,h2⟩:=h;exact⟨v,s',h1,k _ _ h2⟩
theorem Oj (h:CR X f=false)(k:Option (Value×St)):yu X f args s k=k:=by
 have key:∀l:List (Nat×xc),List.rec (motive:=λ_=>Bool) false (λp _ ih=>bo (Nat.beq p.1 f) true ih) l=false->List.rec (motive:=λ_=>Option (Value×St)) k (λp _ ih=>bo (Nat.beq p.1 f) (p.2 args s) ih) l=k:=by
  intro l;induction l with
  |nil=>exact λ_=>rfl
  |cons p l ih=>
   intro h;have h:bo (Nat.beq p.1 f) true (List.rec (motive:=λ_=>Bool) false (λp _ ih=>bo (Nat.beq p.1 f) true ih) l)=false:=h;show bo (Nat.beq p.1 f) (p.2 args s) (List.rec (motive:=λ_=>Option (Value×St)) k (λp _ ih=>bo (Nat.beq p.1 f) (p.2 args s) ih) l)=k;cases hb:Nat.beq p.1 f with
   |true=>rw[hb] at h;cases h
   |false=>rw[hb] at h;exact ih h
 exact key X.wD h
theorem sr.adN (hf:E.fn.get f=some fn)(hh:∀k,yu X f args s k=some (v,s'))(hk:K v s'):sr E X f args s K:=by
 refine⟨v,s',⟨1,λn hn lf Cj=>?_⟩,hk⟩;obtain⟨n,rfl⟩:∃q,n=q+1:=⟨n-1,ag⟩;show(ob (E.fn.get f) λfn=>yu X f args s _)=_;rw[hf];exact hh _
theorem sr.body (hf:E.fn.get f=some fn)(hb:fn.body=some c)(vA:(Nat.beq f X.look||CR X f)=false)(hl:args.length<=fn.ntmps)
  (h:jl E X c (l5 args 0 .nil) s λe tm s1=>(e= .normal\/e= .ret)/\∃vs s2,CQ E tm fn.results.toList s1=some (vs,s2)/\K (gB vs) s2):sr E X f args s K:=by
 obtain⟨N,e,si,s1,⟨he,vs,s2,IS,hk⟩,hr⟩:=h;refine⟨gB vs,s2,⟨N+1,λn hn lf Cj=>?_⟩,hk⟩;obtain⟨n,rfl⟩:∃q,n=q+1:=⟨n-1,ag⟩;have hx:Nat.beq f X.look=false:=by
  cases hq:Nat.beq f X.look with
  |true=>rw[hq] at vA;cases vA
  |false=>rfl
 have hx1:CR X f=false:=by rw[hx] at vA;exact vA
 show(ob (E.fn.get f) λfn=>yu X f args s<| match fn.body with
   |none=>ZS X f args s
   |some c=>bo (Nat.beq f X.look) (Kv args s)<| eg (Nat.ble (ek args) fn.ntmps)<| U8 E fn (mu E (q9 E X lf [] n) lf c (l5 args (nat_lit 0) .nil) s))=_
 rw[hf];show(yu X f args s<| match fn.body with
   |none=>ZS X f args s
   |some c=>bo (Nat.beq f X.look) (Kv args s)<| eg (Nat.ble (ek args) fn.ntmps)<| U8 E fn (mu E (q9 E X lf [] n) lf c (l5 args (nat_lit 0) .nil) s))=_
 rw[Oj hx1,hb];simp only[hx,eJ];have h2:Nat.ble (ek args) fn.ntmps=true:=by rw[dh];exact il hl
 rw[h2,hr n ag lf ag];rcases he with rfl|rfl
 .show ob (CQ E si fn.results.toList s1) (λp=>some (gB p.1,p.2))=_;rw[IS];rfl
 .show ob (CQ E si fn.results.toList s1) (λp=>some (gB p.1,p.2))=_;rw[IS];rfl
theorem fS.call {x:Operand}{xs:List Operand}{ts:Array TypeId}{first cap:aQ}(hx:ev x= .func (.func g) ⟨first⟩ ⟨cap⟩)(h:sr E X g (first++(w9 ev xs++cap)) s K):fS E X ev s (.call ⟨.value x,⟨xs⟩,ts⟩) K:=by
 obtain⟨v,s',⟨N,hr⟩,hk⟩:=h;refine⟨N,v,s',hk,λn hn lf hl=>?_⟩;show xb (q9 E X lf [] n) (ev x) (w9 ev xs) s=_;rw[hx];exact hr n hn lf hl
theorem fS.pure (h:∀call:dJ,Fb E call ev s o=some (v,s'))(hk:K v s'):fS E X ev s o K:=⟨0,v,s',hk,λn _ lf _=>h _⟩
theorem aal (tm:Tm)(d:Tmp)(v:Value)(t:Tmp):T.get (tm.gY (some d) v) t=if t=d then some v else T.get tm t:=by
 show T.get (T.set (Nat.succ d) tm d (some v)) t=_;exact T.vt tm d t (some v)
end
end Go.Ev
namespace Go.Lg
open Go Go.Ev
abbrev sv (z:List UInt8):Value:=.string ⟨⟨z⟩⟩
abbrev cb:Value:=.int .i64 0
abbrev eW:Value:=.slice none 0 0
abbrev jP (b:Nat):aK:=some ⟨b,0,none⟩
abbrev bc (b:Nat):Value:=.pointer (some ⟨b,0,none⟩)
abbrev iv (n:Int):Value:=.int .i64 n
abbrev bv (b:UInt8):Value:=.int .u8 (b.toNat:Int)
abbrev Kn:=List (Nat×Value)
def lk:Kn->Nat->Option Value
 |[],_=>none
 |(k,v)::l,t=>match Nat.beq k t with
  |true=>some v
  |false=>lk l t
def mM (l:Kn)(tm:Tm):Prop:=∀t v,lk l t=some v->aM tm (.tmp t)=v
theorem mM.nil (tm:Tm):mM [] tm:=λ_ _ h=>by cases h
theorem VV (tm:Tm)(d:Nat)(v:Value)(t:Nat):aM (tm.gY (some d) v) (.tmp t)=if t=d then v else aM tm (.tmp t):=by
 show lV (T.get _ t)=_;rw[aal];split<;>rfl
theorem mM.cons {l:Kn}{tm:Tm}(h:mM l tm)(d:Nat)(v:Value):mM ((d,v)::l) (tm.gY (some d) v):=by
 intro t u ht;rw[VV];unfold lk at ht;by_cases hd:t=d
 .subst hd;rw[if_pos rfl];simp at ht;exact ht
 .rw[if_neg hd];split at ht
  .rename_i hb;simp at hb;exact absurd hb.symm hd
  .exact h t u ht
def Le (l2 l:Kn):Prop:=∀t v,lk l2 t=some v->lk l t=some v
theorem mM.le {l2 l:Kn}{tm:Tm}(h:mM l tm)(hl:Le l2 l):mM l2 tm:=λt v ht=>h t v (hl t v ht)
theorem Le.nil (l:Kn):Le [] l:=λ_ _ h=>by cases h
theorem Le.cons {l2 l:Kn}{t:Nat}{v:Value}(h:lk l t=some v)(k:Le l2 l):Le ((t,v)::l2) l:=by
 intro t' v' h';unfold lk at h';split at h'
 .rename_i hb;simp at hb;subst hb;simp at h';subst h';exact h
 .exact k t' v' h'
theorem Le.refl (l:Kn):Le l l:=λ_ _ h=>h
inductive It where
 |box (b:Nat) (cs:aQ) (t:TypeId) (w:Bool)
 |aN (v:Value) (e:TypeId) (sz:Nat) (cs:aQ)
 |lp (b:Nat) (o:gF)
abbrev bE:=List It
def na:Value->List Nat
 |.slice (some a) _ _=>[a.block]
 |_=>[]
def It.aY:It->List Nat
 |.box b _ _ _=>[b]
 |.aN v _ _ _=>na v
 |.lp b _=>[b]
def yN (s:St)(v:Value)(e:TypeId)(sz:Nat)(cs:aQ):Prop:=
 (v= .slice none 0 0/\cs=[])\/∃b n k w,v= .slice (some ⟨b,0,none⟩) n k/\s.heap.get b=some (.cells cs e w)/\cs.length=n*sz/\((k=n/\n<eH)\/(k=eH/\w=true))
def It.ok (s:St):It->Prop
 |.box b cs t w=>s.heap.get b=some (.cells cs t w)
 |.aN v e sz cs=>yN s v e sz cs
 |.lp b o=>s.heap.get b=some o
theorem It.yO {s s':St}{x:It}(h:x.ok s)(hh:∀b∈x.aY,s'.heap.get b=s.heap.get b):x.ok s':=by
 cases x with
 |box b cs t w=>exact(hh b (by simp[It.aY])).trans h
 |lp b o=>exact(hh b (by simp[It.aY])).trans h
 |aN v e sz cs=>
  rcases h with⟨rfl,rfl⟩|⟨b,n,k,w,rfl,h1,h2⟩
  .exact .inl ⟨rfl,rfl⟩
  .exact .inr ⟨b,n,k,w,rfl,(hh b (by simp[It.aY,na])).trans h1,h2⟩
structure ij where
 s0:St
 M:List Nat
 A:List Nat
structure Inv (Γ:ij)(s:St)(L:bE):Prop where
 fr:∀b,b<Γ.s0.next->b∉Γ.M->s.heap.get b=Γ.s0.heap.get b
 le:Γ.s0.next<=s.next
 it:∀x∈L,x.ok s
 lt:∀x∈L,∀b∈x.aY,b<s.next/\(Γ.s0.next<=b\/b∈Γ.M)
 nd:(L.flatMap It.aY).Nodup
 cO:∀b,In s.cO b->In Γ.s0.cO b\/b∈Γ.A\/b∈Γ.M\/Γ.s0.next<=b
 wr:∀b,In s.wr b->In Γ.s0.wr b\/b∈Γ.M\/Γ.s0.next<=b
 top:∀b,In s.cO b->In Γ.s0.cO b\/b<s.next
 Dg:∀b,In s.wr b->In Γ.s0.wr b\/b<s.next
def cz (L2 L:bE):Prop:=∃l:bE,l.Perm L2/\l.Sublist L
theorem cz.subset {L2 L:bE}(h:cz L2 L){x:It}(hx:x∈L2):x∈L:=by
 obtain⟨l,hp,hs⟩:=h;exact hs.subset (hp.mem_iff.2 hx)
theorem Sv {L2 L:bE}(h:cz L2 L)(hn:(L.flatMap It.aY).Nodup):(L2.flatMap It.aY).Nodup:=by
 obtain⟨l,hp,hs⟩:=h;have h1:(l.flatMap It.aY).Nodup:=hn.sublist (by
  clear hn hp;induction hs with
  |slnil=>exact List.Sublist.slnil
  |cons a _ ih=>simp only[mo];exact ih.trans (nK _ _)
  |cons_cons a _ ih=>simp only[mo];exact Kf (F4 _) ih)
 exact(List.Perm.nodup_iff (List.Perm.flatMap_right It.aY hp)).1 h1
theorem Inv.sub {Γ:ij}{s:St}{L2 L:bE}(h:Inv Γ s L)(hl:cz L2 L):Inv Γ s L2:=
 ⟨h.fr,h.le,λx hx=>h.it x (hl.subset hx),λx hx=>h.lt x (hl.subset hx),Sv hl h.nd,h.cO,h.wr,h.top,h.Dg⟩
theorem Inv.same {Γ:ij}{s s':St}{L:bE}(h:Inv Γ s L)(h1:s'.heap=s.heap)(h2:s'.next=s.next)(ha:∀b,In s'.cO b->In s.cO b\/b∈Γ.A\/b∈Γ.M\/Γ.s0.next<=b)(hw:∀b,In s'.wr b->In s.wr b\/b∈Γ.M\/Γ.s0.next<=b)(ht:∀b,In s'.cO b->In s.cO b\/b<s.next)(htw:∀b,In s'.wr b->In s.wr b\/b<s.next):Inv Γ s' L:=
 ⟨λb hb hm=>by rw[h1];exact h.fr b hb hm,by rw[h2];exact h.le,λx hx=>It.yO (h.it x hx) λb _=>by rw[h1],λx hx b hb=>by rw[h2];exact h.lt x hx b hb,h.nd,
  λb hb=>(ha b hb).elim (h.cO b) .inr,λb hb=>(hw b hb).elim (h.wr b) .inr,λb hb=>by rw[h2];exact(ht b hb).elim (h.top b) .inr,λb hb=>by rw[h2];exact(htw b hb).elim (h.Dg b) .inr⟩
section
variable (E:dA)(X:dM)(Γ:ij)
abbrev Aq:=Ex->Kn->bE->Prop
def W (c:Code)(l:Kn)(L:bE)(Q:Aq):Prop:=
 ∀tm s,mM l tm->Inv Γ s L->jl E X c tm s λe jx s'=>∃l' L',mM l' jx/\Inv Γ s' L'/\Q e l' L'
abbrev Fp:=Nat->Prop
structure kJ (s s':St)(R Wr:Fp):Prop where
 nx:s.next<=s'.next
 cO:∀b,In s'.cO b->In s.cO b\/(R b/\b<s'.next)
 wr:∀b,In s'.wr b->In s.wr b\/(Wr b/\b<s'.next)
abbrev KO:=Value->bE->Nat->Nat->Fp->Fp->Prop
def WO (l:Kn)(o:Op)(L:bE)(K:KO):Prop:=
 ∀tm s,mM l tm->Inv Γ s L->fS E X (aM tm) s o λv s'=>∃L' R Wr,Inv Γ s' L'/\kJ s s' R Wr/\K v L' s.next s'.next R Wr
def WS (aB aO:List Oper)(l:Kn)(L:bE)(K:Kn->bE->Prop):Prop:=
 ∀tm s,mM l tm->Inv Γ s L->yM E X aB aO tm s λjx s'=>∃l' L',mM l' jx/\Inv Γ s' L'/\K l' L'
structure Sn where
 i:Nat
 R:Fp
 W:Fp
def kY (n mask:Nat)(R Wr:Fp):List Sn->Prop
 |[]=>True
 |x::l=>(Nat.testBit mask x.i=true\/((∀b,b<n->x.W b->¬R b)/\(∀b,b<n->x.R b->¬Wr b)))/\kY n mask R Wr l
def Sw (seen:List Sn)(sn:List Seen)(n:Nat):Prop:=∀y∈sn,∃x∈seen,x.i=y.i/\(∀b,In y.cO b->x.R b/\b<n)/\(∀b,In y.wr b->x.W b/\b<n)
def WD (aB aO:List Oper)(j:Nat)(seen:List Sn)(nx:Nat)(l:Kn)(L:bE)(K:Kn->bE->Prop):Prop:=
 ∀tm s sn,mM l tm->Inv Γ s L->s.next=nx->Sw seen sn nx->FG E X aB aO j tm s sn λjx s'=>∃l' L',mM l' jx/\Inv Γ s' L'/\K l' L'
variable {E X Γ}{a b c:Code}{l l2:Kn}{L L2:bE}{Q Q':Aq}
theorem W.le (h:W E X Γ c l2 L2 Q)(hl:Le l2 l)(hL:cz L2 L):W E X Γ c l L Q:=λtm s h1 h2=>h tm s (h1.le hl) (h2.sub hL)
theorem W.mono (h:W E X Γ c l L Q)(k:∀e l L,Q e l L->Q' e l L):W E X Γ c l L Q':=λtm s h1 h2=>(h tm s h1 h2).mono λe tm s ⟨l,L,h3,h4,h5⟩=>⟨l,L,h3,h4,k _ _ _ h5⟩
def KY (Q:Aq)(k:Kn->bE->Prop):Aq
 |.normal,l,L=>k l L
 |e,l,L=>Q e l L
def pc (id:Nat)(Q:Aq):Aq
 |.exit i,l,L=>if i=id then Q .normal l L else Q (.exit i) l L
 |e,l,L=>Q e l L
theorem W.skip (h:Q .normal l L):W E X Γ .skip l L Q:=λtm s h1 h2=>jl.skip ⟨l,L,h1,h2,h⟩
theorem W.ret (h:Q .ret l L):W E X Γ .ret l L Q:=λtm s h1 h2=>jl.ret ⟨l,L,h1,h2,h⟩
theorem W.exit {id:Nat}(h:Q (.exit id) l L):W E X Γ (.exit id) l L Q:=λtm s h1 h2=>jl.exit ⟨l,L,h1,h2,h⟩
theorem W.seq (h:W E X Γ a l L (KY Q λl L=>W E X Γ b l L Q)):W E X Γ (.seq a b) l L Q:=λtm s h1 h2=>by
 refine jl.seq ((h tm s h1 h2).mono ?_);rintro e tm s ⟨l,L,h3,h4,h5⟩;cases e with
 |normal=>exact h5 tm s h3 h4
 |exit i=>exact⟨l,L,h3,h4,h5⟩
 |ret=>exact⟨l,L,h3,h4,h5⟩
theorem W.block {id:Nat}(h:W E X Γ a l L (pc id Q)):W E X Γ (.block id a) l L Q:=λtm s h1 h2=>by
 refine jl.block ((h tm s h1 h2).mono ?_);rintro e tm s ⟨l,L,h3,h4,h5⟩;cases e with
 |normal=>exact⟨l,L,h3,h4,h5⟩
 |exit i=>
  refine⟨l,L,h3,h4,?_⟩;simp only[pc] at h5;split at h5
  .rename_i hi;rw[if_pos hi];exact h5
  .rename_i hi;rw[if_neg hi];exact h5
 |ret=>exact⟨l,L,h3,h4,h5⟩
inductive Ev (l:Kn):Operand->Value->Prop
 |tmp {t:Nat} {v:Value} (h:lk l t=some v):Ev l (.tmp t) v
 |const {v:Value}:Ev l (.const v) v
 |func {f:Nat}:Ev l (.func f) (.func (.func f) #[] #[])
theorem Ev.eval {x:Operand}{v:Value}{tm:Tm}(h:Ev l x v)(hl:mM l tm):aM tm x=v:=by
 cases h with
 |tmp h=>exact hl _ _ h
 |const=>rfl
 |func=>rfl
theorem W.cond {x:Operand}{t:Bool}(hx:Ev l x (.bool t))(h1:t=true->W E X Γ a l L Q)(h2:t=false->W E X Γ b l L Q):W E X Γ (.cond x a b) l L Q:=λtm s k1 k2=>by
 refine jl.cond t (hx.eval k1) ?_;cases t with
 |true=>exact h1 rfl tm s k1 k2
 |false=>exact h2 rfl tm s k1 k2
theorem W.loop (I:Nat->Kn->bE->Prop)(k:Nat)(h0:I k l L)(step:∀k l L,I k l L->W E X Γ a l L (KY Q λl L=>∃j,j<k/\I j l L)):W E X Γ (.loop a) l L Q:=λtm s k1 k2=>by
 refine jl.loop (λk tm s=>∃l L,mM l tm/\Inv Γ s L/\I k l L) k ⟨l,L,k1,k2,h0⟩ ?_;rintro k tm s ⟨l,L,h1,h2,h3⟩;refine(step k l L h3 tm s h1 h2).mono ?_;rintro e tm s ⟨l,L,h3,h4,h5⟩;cases e with
 |normal=>obtain⟨j,hj,hI⟩:=h5;exact⟨j,hj,l,L,h3,h4,hI⟩
 |exit i=>exact⟨l,L,h3,h4,h5⟩
 |ret=>exact⟨l,L,h3,h4,h5⟩
theorem W.region {id:Nat}{aB:List Oper}(h:WS E X Γ aB aB l L (Q .normal)):W E X Γ (.region id ⟨aB⟩ false) l L Q:=λtm s h1 h2=>jl.region (h tm s h1 h2)
theorem W.draw {id:Nat}{aB:List Oper}(h:∀nx,(∀y∈L,∀i∈y.aY,i<nx)->Γ.s0.next<=nx->WD E X Γ aB aB 0 [] nx l L (Q .normal)):W E X Γ (.region id ⟨aB⟩ true) l L Q:=λtm s h1 h2=>jl.draw (h s.next (λy hy i hi=>(h2.lt y hy i hi).1) h2.le tm s [] h1 h2 rfl (λ_ hx=>by cases hx))
variable {aB aO:List Oper}{K:Kn->bE->Prop}{o:Op}{KO:KO}
inductive Want (aB:List Oper)(l:Kn):Option (Nat×Bool)->Bool->Prop
 |none:Want aB l none true
 |some {j d:Nat} {w t:Bool} (hd:mr aB j=some d) (h:lk l d=some (.bool t)):Want aB l (some (j,w)) (if t then w else !w)
 |undef {j d:Nat} {w:Bool} (hd:mr aB j=some d) (h:lk l d=some (.tuple ⟨[]⟩)):Want aB l (some (j,w)) false
theorem Want.eval {g:Option (Nat×Bool)}{t:Bool}{tm:Tm}(h:Want aB l g t)(hl:mM l tm):ie aB tm g=t:=by
 cases h with
 |none=>rfl
 |some hd h=>
  have h1:=hl _ _ h;show uC (ob (mr aB _) λd=>tm.get d) _=_;rw[hd];show uC (tm.get _) _=_;have h2:lV (tm.get _)=_:=h1;rename_i j d w t;generalize tm.get d=q at h2;cases q with
  |none=>cases h2
  |some v=>cases (show v=_ from h2);cases t<;>rfl
 |undef hd h=>
  have h1:=hl _ _ h;show uC (ob (mr aB _) λd=>tm.get d) _=_;rw[hd];show uC (tm.get _) _=_;have h2:lV (tm.get _)=_:=h1;rename_i j d w;generalize tm.get d=q at h2;cases q with
  |none=>rfl
  |some v=>cases (show v=_ from h2);rfl
theorem WS.nil (h:K l L):WS E X Γ aB [] l L K:=λtm s h1 h2=>yM.nil ⟨l,L,h1,h2,h⟩
theorem WS.cons {d:Nat}{o:Oper}(hd:o.dst=some d)(hw:Want aB l o.guard true)(h:WO E X Γ l o.op L λv L' _ _ _ _=>WS E X Γ aB aO ((d,v)::l) L' K):WS E X Γ aB (o::aO) l L K:=λtm s h1 h2=>by
 obtain⟨N,v,s',⟨L',R,Wr,h3,h4,h8⟩,hr⟩:=h tm s h1 h2;exact yM.cons (hw.eval h1) ⟨N,v,s',by rw[hd];exact h8 _ _ (h1.cons d v) h3,hr⟩
theorem WS.VW {o:Oper}(hd:o.dst=none)(hw:Want aB l o.guard true)(h:WO E X Γ l o.op L λv L' _ _ _ _=>WS E X Γ aB aO l L' K):WS E X Γ aB (o::aO) l L K:=λtm s h1 h2=>by
 obtain⟨N,v,s',⟨L',R,Wr,h3,h4,h8⟩,hr⟩:=h tm s h1 h2;exact yM.cons (hw.eval h1) ⟨N,v,s',by rw[hd];exact h8 _ _ h1 h3,hr⟩
theorem WS.pass {d:Nat}{o:Oper}(hd:o.dst=some d)(hw:Want aB l o.guard false)(h:WS E X Γ aB aO ((d,.tuple ⟨[]⟩)::l) L K):WS E X Γ aB (o::aO) l L K:=λtm s h1 h2=>by
 exact yM.pass (hw.eval h1) (by rw[hd];exact h _ _ (h1.cons d _) h2)
end
def Z:Fp:=λ_=>False
def bO (s:St)(a:aK)(n sz:Nat)(cs:aQ):Prop:=
 cs.length=n*sz/\((n=0/\(a=none\/∃b o q,a=some ⟨b,o,some q⟩/\b<s.next))\/∃b o c e w,a=some ⟨b,o,none⟩/\b<s.next/\s.heap.get b=some (.cells c e w)/\(c.drop o).take (n*sz)=cs)
def de (a:aK)(i sz j:Nat):Value:=match a with
 |some ⟨b,o,none⟩=>.pointer (some ⟨b,o+(i*sz+j),none⟩)
 |_=>.tuple ⟨[]⟩
def aj:aK->List Nat
 |some a=>[a.block]
 |none=>[]
class iU (E:dA)(t:TypeId)(n:outParam Nat):Prop where
 h:size E t=some n
class nN (E:dA)(t:TypeId):Prop where
 h:∃d,ja E t=some d/\z8 d=false
class wm (E:dA)(t:TypeId)(n:outParam Nat):Prop where
 h:∃d,ja E t=some d/\z8 d=true/\size E t=some n
class iM (E:dA)(t:TypeId)(i:Nat)(off:outParam Nat):Prop where
 h:∃fs f sz,ja E t=some (.struct ⟨fs⟩)/\fs[i]?=some f/\size E f.type=some sz/\1<=sz/\f.offset=off
class po (E:dA)(t:TypeId)(e sz:outParam Nat):Prop where
 h:ja E t=some (.slice e)/\∃i z,E.ty.get e=some i/\i.size=sz/\i.zero=some z/\(bW z).length=sz/\1<=sz/\i.bytes<=1000000
class ss (E:dA)(t:TypeId)(z:outParam (aQ)):Prop where
 h:∃v,zero E t=some v/\bW v=z
class yP (E:dA)(t:TypeId):Prop where
 h:ja E t=some .string
class xq (E:dA)(t:TypeId)(k:outParam IntKind):Prop where
 h:ja E t=some (.int k)
class VX (E:dA)(t:TypeId):Prop where
 h:ja E t=some .bool
class TEq (E:dA)(t:TypeId)(ks:outParam (List Nat)):Prop where
 h:(t,ks)∈E.eqs
section
variable {E:dA}{X:dM}{Γ:ij}{l:Kn}{L L':bE}{K:KO}{x y c:Operand}{v u:Value}{t:TypeId}
theorem kJ.id {s:St}{R W:Fp}:kJ s s R W:=⟨cA _,λ_ h=>.inl h,λ_ h=>.inl h⟩
theorem WO.val {o:Op}(h:∀tm s (call:dJ),mM l tm->Fb E call (aM tm) s o=some (v,s))(k:∀n,K v L n n Z Z):WO E X Γ l o L K:=λtm s h1 h2=>
 fS.pure (λcall=>h tm s call h1) ⟨L,Z,Z,h2,kJ.id,k _⟩
theorem WO.move (hx:Ev l x v)(k:∀n,K v L n n Z Z):WO E X Γ l (.move x) L K:=WO.val (λtm s call h=>by show aL _ s=_;rw[hx.eval h];rfl) k
theorem WO.assign (hx:Ev l x v)(k:∀n,K v L n n Z Z):WO E X Γ l (.assign x) L K:=WO.val (λtm s call h=>by show aL _ s=_;rw[hx.eval h];rfl) k
theorem WO.agG {b:Bool}(hc:Ev l c (.bool b))(hb:b=true)(hx:Ev l x v)(k:∀n,K v L n n Z Z):WO E X Γ l (.pick c x y) L K:=WO.val (λtm s call h=>by
 show Qf (aM tm c) (aM tm x) (aM tm y) s=_;rw[hc.eval h,hx.eval h,hb];rfl) k
theorem WO.agH {b:Bool}(hc:Ev l c (.bool b))(hb:b=false)(hy:Ev l y v)(k:∀n,K v L n n Z Z):WO E X Γ l (.pick c x y) L K:=WO.val (λtm s call h=>by
 show Qf (aM tm c) (aM tm x) (aM tm y) s=_;rw[hc.eval h,hy.eval h,hb];rfl) k
theorem WO.not {b:Bool}(hx:Ev l x (.bool b))(k:∀n,K (.bool !b) L n n Z Z):WO E X Γ l (.unOp .not t x) L K:=WO.val (λtm s call h=>by
 show unV .not (aM tm x) s=_;rw[hx.eval h];rfl) k
theorem WO.extract {vs:aQ}{i:Nat}(hx:Ev l x (.tuple ⟨vs⟩))(hv:jb vs i=some v)(k:∀n,K v L n n Z Z):WO E X Γ l (.extract x i) L K:=WO.val (λtm s call h=>by
 show yr s (aM tm x) i=_;rw[hx.eval h];show ob (jb vs i) _=_;rw[hv];rfl) k
theorem WO.bin {op:BinOp}{t2:TypeId}(hx:Ev l x v)(hy:Ev l y u){r:Value}(h:∀cc,RN E op t cc v u=some r)(k:∀n,K r L n n Z Z):WO E X Γ l (.binOp op t x y t2) L K:=WO.val (λtm s call hl=>by
 show ob (RN E op t (ZO x||ZO y) (aM tm x) (aM tm y)) (λv=>aL v s)=_;rw[hx.eval hl,hy.eval hl,h];rfl) k
def Fit (n:Int):Prop:=-9223372036854775808<=n/\n<=9223372036854775807
theorem qh {n:Int}(h:Fit n):IntKind.wrap .i64 n=n:=by
 refine' zaO
section
variable {a b:Int}{k:IntKind}{t2:TypeId}
theorem WO.add (hx:Ev l x (iv a))(hy:Ev l y (iv b))(hf:Fit (a+b))(h:∀n,K (iv (a+b)) L n n Z Z):WO E X Γ l (.binOp .add t x y t2) L K:=WO.bin hx hy (λcc=>by
 show some (Value.int .i64 (pX .i64 (a+b)))=_;rw[jU,qh hf]) h
theorem WO.sub (hx:Ev l x (iv a))(hy:Ev l y (iv b))(hf:Fit (a-b))(h:∀n,K (iv (a-b)) L n n Z Z):WO E X Γ l (.binOp .sub t x y t2) L K:=WO.bin hx hy (λcc=>by
 show some (Value.int .i64 (pX .i64 (a-b)))=_;rw[jU,qh hf]) h
theorem WO.mul (hx:Ev l x (iv a))(hy:Ev l y (iv b))(hf:Fit (a*b))(h:∀n,K (iv (a*b)) L n n Z Z):WO E X Γ l (.binOp .mul t x y t2) L K:=WO.bin hx hy (λcc=>by
 show some (Value.int .i64 (pX .i64 (a*b)))=_;rw[jU,qh hf]) h
theorem WO.quo (hx:Ev l x (iv a))(hy:Ev l y (iv b))(hb:b≠0)(hf:Fit (a.tdiv b))(h:∀n,K (iv (a.tdiv b)) L n n Z Z):WO E X Γ l (.binOp .quo t x y t2) L K:=WO.bin hx hy (λcc=>by
 show bo (yl b (.ofNat 0)) none (some (Value.int .i64 (pX .i64 (a.tdiv b))))=_;rw[jH,jU,qh hf];have:(b== Int.ofNat 0)=false:=by simpa using hb
 rw[this];rfl) h
theorem WO.rem (hx:Ev l x (iv a))(hy:Ev l y (iv b))(hb:b≠0)(h:∀n,K (iv (a.tmod b)) L n n Z Z):WO E X Γ l (.binOp .rem t x y t2) L K:=WO.bin hx hy (λcc=>by
 show bo (yl b (.ofNat 0)) none (some (Value.int .i64 (a.tmod b)))=_;rw[jH];have:(b== Int.ofNat 0)=false:=by simpa using hb
 rw[this];rfl) h
theorem uU (k:IntKind):pY k k=true:=by cases k<;>rfl
theorem tw {op:BinOp}{r:Value}(hs:adt op=false)(h:Kq op k a b=some r):∀cc,RN E op t cc (.int k a) (.int k b)=some r:=λcc=>by
 show bo (adt op) (shV op k a b) (bo (pY k k) (Kq op k a b) none)=_;rw[hs,uU,eJ,gu,h]
theorem WO.lss (hx:Ev l x (.int k a))(hy:Ev l y (.int k b))(h:∀n,K (.bool (decide (a<b))) L n n Z Z):WO E X Γ l (.binOp .lss t x y t2) L K:=WO.bin hx hy (tw rfl (by rw[<-rC];rfl)) h
theorem WO.leq (hx:Ev l x (.int k a))(hy:Ev l y (.int k b))(h:∀n,K (.bool (decide (a<=b))) L n n Z Z):WO E X Γ l (.binOp .leq t x y t2) L K:=WO.bin hx hy (tw rfl (by
 show some (Value.bool !(UB b a))=_;rw[rC];congr 2;rw[<-decide_not];simp)) h
theorem WO.gtr (hx:Ev l x (.int k a))(hy:Ev l y (.int k b))(h:∀n,K (.bool (decide (b<a))) L n n Z Z):WO E X Γ l (.binOp .gtr t x y t2) L K:=WO.bin hx hy (tw rfl (by rw[<-rC];rfl)) h
theorem WO.geq (hx:Ev l x (.int k a))(hy:Ev l y (.int k b))(h:∀n,K (.bool (decide (b<=a))) L n n Z Z):WO E X Γ l (.binOp .geq t x y t2) L K:=WO.bin hx hy (tw rfl (by
 show some (Value.bool !(UB a b))=_;rw[rC];congr 2;rw[<-decide_not];simp)) h
theorem WO.eql (hx:Ev l x (.int k a))(hy:Ev l y (.int k b))(h:∀n,K (.bool (decide (a=b))) L n n Z Z):WO E X Γ l (.binOp .eql t x y t2) L K:=WO.bin hx hy (tw rfl (by
 show some (Value.bool (yl a b))=_;rw[jH];congr 2)) h
theorem WO.neq (hx:Ev l x (.int k a))(hy:Ev l y (.int k b))(h:∀n,K (.bool !(decide (a=b))) L n n Z Z):WO E X Γ l (.binOp .neq t x y t2) L K:=WO.bin hx hy (tw rfl (by
 show some (Value.bool !(yl a b))=_;rw[jH];congr 2)) h
end
section
variable {p q:List UInt8}{t2:TypeId}
theorem WO.akh (hx:Ev l x (sv p))(hy:Ev l y (sv q))(hf:p.length+q.length<=1000000000)(h:∀n,K (sv (p++q)) L n n Z Z):WO E X Γ l (.binOp .add t x y t2) L K:=WO.bin hx hy (λcc=>by
 show eg (Nat.ble (Nat.add (ek p) (ek q)) 1000000000) (some (Value.string ⟨⟨p++q⟩⟩))=_;have:Nat.ble (Nat.add (ek p) (ek q)) 1000000000=true:=il (by simpa using hf);rw[this];rfl) h
theorem WO.aki (hx:Ev l x (sv p))(hy:Ev l y (sv q))(h:∀n,K (.bool (decide (p=q))) L n n Z Z):WO E X Γ l (.binOp .eql t x y t2) L K:=WO.bin hx hy (λcc=>by
 show some (Value.bool (gp p q))=_;rw[eR];congr 2;rw[oZ];simp) h
theorem WO.akj (hx:Ev l x (sv p))(hy:Ev l y (sv q))(h:∀n,K (.bool !(decide (p=q))) L n n Z Z):WO E X Γ l (.binOp .neq t x y t2) L K:=WO.bin hx hy (λcc=>by
 show some (Value.bool !(gp p q))=_;rw[eR];congr 3;rw[oZ];simp) h
theorem WO.akk (hx:Ev l x (sv p))(hy:Ev l y (sv q))(h:∀n,K (.bool !(Op.bytesLess p q)) L n n Z Z):WO E X Γ l (.binOp .geq t x y t2) L K:=WO.bin hx hy (λcc=>by
 show some (Value.bool !(ot p q))=_;rw[s8]) h
theorem WO.index {i:Nat}[ht:yP E t](hx:Ev l x (sv p)){k:IntKind}(hy:Ev l y (.int k (i:Int)))(hi:i<p.length)(h:∀n,K (bv (p.getD i 0)) L n n Z Z):WO E X Γ l (.index t x y) L K:=WO.val (λtm s call hl=>by
 show Io E s t (aM tm x) (aM tm y)=_;rw[hx.eval hl,hy.eval hl];unfold Io;rw[ht.h];show ob (jb p i) (λc=>aL (.int .u8 (.ofNat c.toNat)) s)=_;rw[dR,bd hi];simp[aR,bd hi];rfl) h
theorem WO.akl [ht:yP E t](hx:Ev l x (sv p))(h:∀n,K (iv (p.length:Nat)) L n n Z Z):WO E X Γ l (.call ⟨.builtin .len,⟨[x]⟩,⟨[t]⟩⟩) L K:=WO.val (λtm s call hl=>by
 show yp E (aM tm) s .len [t] [x]=_;show rZ E s .len [t] (aM tm x)=_;rw[hx.eval hl];show ob (some t) (λt=>ob (RP E t (sv p)) λv=>aL v s)=_;simp only[cr];unfold RP;rw[ht.h];simp[aL]) h
theorem WO.akm {a:aK}{n c e sz:Nat}[ht:po E t e sz](hx:Ev l x (.slice a n c))(h:∀m,K (iv (n:Nat)) L m m Z Z):WO E X Γ l (.call ⟨.builtin .len,⟨[x]⟩,⟨[t]⟩⟩) L K:=WO.val (λtm s call hl=>by
 show yp E (aM tm) s .len [t] [x]=_;show rZ E s .len [t] (aM tm x)=_;rw[hx.eval hl];show ob (some t) (λt=>ob (RP E t (.slice a n c)) λv=>aL v s)=_;simp only[cr];unfold RP;rw[ht.h.1];simp[aL]) h
theorem WO.IZ {lo hi:Option Operand}{i j:Nat}[ht:yP E t](hx:Ev l x (sv p))(hlo:(lo=none/\i=0)\/∃o k,lo=some o/\Ev l o (.int k (i:Int)))(Zr:(hi=none/\j=p.length)\/∃o k,hi=some o/\Ev l o (.int k (j:Int)))
  (mR:i<=j)(hj:j<=p.length)(h:∀n,K (sv ((p.drop i).take (j-i))) L n n Z Z):WO E X Γ l (.slice t x lo hi none) L K:=WO.val (λtm s call hl=>by
 show kj E s t (aM tm x) (dB (aM tm) lo) (dB (aM tm) hi) none=_;rw[hx.eval hl];have h1:hiV (ek p) (ek p) (dB (aM tm) hi) none=some j:=by
  rcases Zr with⟨rfl,rfl⟩|⟨o,k,rfl,ho⟩
  .show some (ek p)=_;simp
  .show pw (aM tm o) (ek p)=_;rw[ho.eval hl];show bo (Nat.ble j (ek p)) (some j) none=_;rw[il (by simpa using hj)];rfl
 have h2:RO (dB (aM tm) lo) j 0=some i:=by
  rcases hlo with⟨rfl,rfl⟩|⟨o,k,rfl,ho⟩
  .rfl
  .show pw (aM tm o) j=_;rw[ho.eval hl];show bo (Nat.ble i j) (some i) none=_;rw[il mR];rfl
 unfold kj;rw[ht.h];show ob (CO p (dB (aM tm) lo) (dB (aM tm) hi) none) (λv=>aL v s)=_;have h3:CO p (dB (aM tm) lo) (dB (aM tm) hi) none=some (sv ((p.drop i).take (j-i))):=by
  show ob (some (ek p)) (λm=>ob (hiV (ek p) m (dB (aM tm) hi) none) λh=>ob (RO (dB (aM tm) lo) h 0) λl=>some (Value.string ⟨⟨U5 (Nat.sub h l) (U6 l p)⟩⟩))=_;simp only[cr,h1,h2];simp
 rw[h3];rfl) h
end
end
inductive yQ (x x':It):bE->bE->Prop
 |here {L:bE}:yQ x x' (x::L) (x'::L)
 |there {y:It} {L L':bE} (h:yQ x x' L L'):yQ x x' (y::L) (y::L')
theorem yQ.cR {x x':It}{L L':bE}(h:yQ x x' L L'):∃R:bE,L.Perm (x::R)/\L'.Perm (x'::R):=by
 induction h with
 |here=>exact⟨_,.refl _,.refl _⟩
 |there h ih=>
  obtain⟨R,h1,h2⟩:=ih;exact⟨_::R,(h1.cons _).trans (.swap _ _ _),(h2.cons _).trans (.swap _ _ _)⟩
section
variable {Γ:ij}{s s':St}{L L' R:bE}
theorem Inv.cR (h:Inv Γ s L)(hp:L.Perm L'):Inv Γ s L':=h.sub ⟨L,hp,F4 _⟩
theorem Inv.jE {x:It}(h:Inv Γ s (x::R)):Inv Γ s R:=h.sub ⟨R,.refl _,List.sublist_cons_self _ _⟩
theorem Inv.far {x:It}(h:Inv Γ s (x::R)):∀y∈R,∀b∈y.aY,b∉x.aY:=by
 have:=h.nd;rw[mo,qP] at this;intro y hy b hb hx;exact this.2.2 b hx b (ph.2 ⟨y,hy,hb⟩) rfl
def Fi (Γ:ij)(s:St)(b:Nat):Prop:=b<s.next/\(b∈Γ.A\/b∈Γ.M\/Γ.s0.next<=b)
theorem Inv.may {x:It}(h:Inv Γ s L)(hx:x∈L){b:Nat}(hb:b∈x.aY):Fi Γ s b:=⟨(h.lt x hx b hb).1,.inr ((h.lt x hx b hb).2.symm)⟩
theorem Inv.aV {b:Nat}(h:Inv Γ s L)(hb:Fi Γ s b):Inv Γ (s.aV b) L:=
 h.same (by simp) (by simp) (λi hi=>by
   rw[sc,gG] at hi;rcases hi with hi|rfl
   .exact .inl hi
   .exact .inr hb.2) (λi hi=>by rw[B9] at hi;exact .inl hi) (λi hi=>by
   rw[sc,gG] at hi;rcases hi with hi|rfl
   .exact .inl hi
   .exact .inr hb.1) (λi hi=>by rw[B9] at hi;exact .inl hi)
theorem Inv.new {x:It}{o:gF}(h:Inv Γ s L)(hx:x.ok (s.new o))(hb:x.aY=[s.next]):Inv Γ (s.new o) (x::L):=by
 refine⟨λb h1 h2=>?_,by rw[lW];have:=h.le;omega,?_,?_,?_,?_,?_,?_,?_⟩
 .rw[Ca,if_neg (by have:=h.le;omega)];exact h.fr b h1 h2
 .intro y hy;rcases bR.1 hy with rfl|hy
  .exact hx
  .refine It.yO (h.it y hy) λb hb=>?_
   rw[Ca,if_neg (by have:=(h.lt y hy b hb).1;omega)]
 .intro y hy b lB;rw[lW];rcases bR.1 hy with rfl|hy
  .rw[hb] at lB;simp at lB;subst lB;exact⟨ag,.inl h.le⟩
  .have:=h.lt y hy b lB;exact⟨ag,this.2⟩
 .rw[mo,hb,tT,uA];refine⟨λhm=>?_,h.nd⟩;obtain⟨y,hy,lB⟩:=ph.1 hm;have:=(h.lt y hy _ lB).1;omega
 .intro b lB;rw[yy,gG] at lB;rcases lB with lB|rfl
  .exact h.cO b lB
  .exact .inr (.inr (.inr h.le))
 .intro b lB;rw[xf,gG] at lB;rcases lB with lB|rfl
  .exact h.wr b lB
  .exact .inr (.inr h.le)
 .intro b lB;rw[yy,gG] at lB;rw[lW];rcases lB with lB|rfl
  .rcases h.top b lB with h|h
   .exact .inl h
   .exact .inr ag
  .exact .inr ag
 .intro b lB;rw[xf,gG] at lB;rw[lW];rcases lB with lB|rfl
  .rcases h.Dg b lB with h|h
   .exact .inl h
   .exact .inr ag
  .exact .inr ag
theorem Inv.put {x x':It}{b:Nat}{o:Option gF}(h:Inv Γ s L)(hu:yQ x x' L L')(hb:x.aY=[b])(lB:x'.aY=[b])(hx:x'.ok (s.put b o)):Inv Γ (s.put b o) L':=by
 obtain⟨R,h1,h2⟩:=hu.cR;have hR:=h.cR h1;have lF:=hR.lt x (by simp) b (by simp[hb]);refine Inv.cR (L:=x'::R) ?_ h2.symm;refine⟨λc h3 h4=>?_,by rw[dZ];exact h.le,?_,?_,?_,?_,?_,?_,?_⟩
 .rw[qU,if_neg]
  .exact h.fr c h3 h4
  .rintro rfl;rcases lF.2 with h5|h5
   .omega
   .exact h4 h5
 .intro y hy;rcases bR.1 hy with rfl|hy
  .exact hx
  .refine It.yO (hR.it y (by simp[hy])) λc hc=>?_
   rw[qU,if_neg];rintro rfl;exact hR.far y hy c hc (by simp[hb])
 .intro y hy c hc;rw[dZ];rcases bR.1 hy with rfl|hy
  .rw[lB] at hc;simp at hc;subst hc;exact lF
  .exact hR.lt y (by simp[hy]) c hc
 .have:=hR.nd;rw[mo,hb] at this;rw[mo,lB];exact this
 .intro c hc;rw[qV,gG] at hc;rcases hc with hc|rfl
  .exact h.cO c hc
  .exact .inr (.inr lF.2.symm)
 .intro c hc;rw[sZ,gG] at hc;rcases hc with hc|rfl
  .exact h.wr c hc
  .exact .inr lF.2.symm
 .intro c hc;rw[qV,gG] at hc;rw[dZ];rcases hc with hc|rfl
  .exact h.top c hc
  .exact .inr lF.1
 .intro c hc;rw[sZ,gG] at hc;rw[dZ];rcases hc with hc|rfl
  .exact h.Dg c hc
  .exact .inr lF.1
theorem Inv.kill {x:It}{b:Nat}{o:Option gF}(h:Inv Γ s (x::R))(hb:x.aY=[b]):Inv Γ (s.put b o) R:=by
 have lF:=h.lt x (by simp) b (by simp[hb]);have hR:=h.jE;refine⟨λc h3 h4=>?_,by rw[dZ];exact h.le,λy hy=>It.yO (hR.it y hy) λc hc=>?_,λy hy c hc=>by rw[dZ];exact hR.lt y hy c hc,hR.nd,?_,?_,?_,?_⟩
 .rw[qU,if_neg]
  .exact h.fr c h3 h4
  .rintro rfl;rcases lF.2 with h5|h5
   .omega
   .exact h4 h5
 .rw[qU,if_neg];rintro rfl;exact h.far y hy c hc (by simp[hb])
 .intro c hc;rw[qV,gG] at hc;rcases hc with hc|rfl
  .exact h.cO c hc
  .exact .inr (.inr lF.2.symm)
 .intro c hc;rw[sZ,gG] at hc;rcases hc with hc|rfl
  .exact h.wr c hc
  .exact .inr lF.2.symm
 .intro c hc;rw[qV,gG] at hc;rw[dZ];rcases hc with hc|rfl
  .exact h.top c hc
  .exact .inr lF.1
 .intro c hc;rw[sZ,gG] at hc;rw[dZ];rcases hc with hc|rfl
  .exact h.Dg c hc
  .exact .inr lF.1
end
structure Rd (Γ:ij)(a:aK)(n sz:Nat)(cs:aQ):Prop where
 row:bO Γ.s0 a n sz cs
 A:∀b∈aj a,b∈Γ.A
 M:∀b∈aj a,b∉Γ.M
inductive jY (Γ:ij)(L:bE)(a:aK)(n sz:Nat)(cs:aQ):Prop
 |rd (h:Rd Γ a n sz cs):jY Γ L a n sz cs
 |aN {c e:Nat} (h:It.aN (.slice a n c) e sz cs∈L):jY Γ L a n sz cs
 |box {b t:Nat} {w:Bool} (h:It.box b cs t w∈L) (ha:a=some ⟨b,0,none⟩) (hn:cs.length=n*sz):jY Γ L a n sz cs
 |sub {c e n0:Nat} {a0:aK} {cs0:aQ} (h:It.aN (.slice a0 n0 c) e sz cs0∈L) (hr:∀s,bO s a0 n0 sz cs0->bO s a n sz cs) (hb:∀b∈aj a,b∈aj a0):jY Γ L a n sz cs
section
variable {E:dA}{X:dM}{Γ:ij}{l:Kn}{L L':bE}{K:KO}{x y:Operand}{v u:Value}{t:TypeId}{s:St}{a:aK}{n sz:Nat}{cs:aQ}
theorem yN.row {e c:Nat}(h:yN s (.slice a n c) e sz cs)(hb:∀b∈aj a,b<s.next):bO s a n sz cs:=by
 rcases h with⟨h1,rfl⟩|⟨b,m,k,w,h1,h2,h3,h4⟩
 .cases h1;exact⟨by simp,.inl ⟨rfl,.inl rfl⟩⟩
 .cases h1;exact⟨h3,.inr ⟨b,0,cs,e,w,rfl,hb b (by simp[aj]),h2,by rw[<-h3];simp⟩⟩
theorem jY.row (h:jY Γ L a n sz cs)(hi:Inv Γ s L):bO s a n sz cs/\∀b∈aj a,Fi Γ s b:=by
 cases h with
 |rd h=>
  obtain⟨h1,h2⟩:=h.row;rcases h2 with⟨rfl,rfl|⟨b,o,q,rfl,h3⟩⟩|⟨b,o,c,e,w,rfl,h3,h4,h5⟩
  .exact⟨⟨h1,.inl ⟨rfl,.inl rfl⟩⟩,by simp[aj]⟩
  .have:=hi.le;refine⟨⟨h1,.inl ⟨rfl,.inr ⟨b,o,q,rfl,ag⟩⟩⟩,λi hb=>?_⟩;have hib:i=b:=by simpa[aj] using hb
   subst hib;exact⟨ag,.inl (h.A i hb)⟩
  .have:=hi.le;refine⟨⟨h1,.inr ⟨b,o,c,e,w,rfl,ag,?_,h5⟩⟩,λi hb=>?_⟩
   .rw[hi.fr b h3 (h.M b (by simp[aj]))];exact h4
   .have hib:i=b:=by simpa[aj] using hb
    subst hib;exact⟨ag,.inl (h.A i hb)⟩
 |aN h=>
  have h1:∀b∈aj a,Fi Γ s b:=λb hb=>hi.may h (by
   cases a with
   |none=>simp[aj] at hb
   |some a=>simpa[It.aY,na,aj] using hb)
  exact⟨yN.row (hi.it _ h) λb hb=>(h1 b hb).1,h1⟩
 |sub h hr hb=>
  rename_i c e n0 a0 cs0;have h1:∀b∈aj a0,Fi Γ s b:=λb hb=>hi.may h (by
   cases a0 with
   |none=>simp[aj] at hb
   |some a=>simpa[It.aY,na,aj] using hb)
  exact⟨hr s (yN.row (hi.it _ h) λb hb=>(h1 b hb).1),λb lB=>h1 b (hb b lB)⟩
 |box h ha hn=>
  rename_i b t w;subst ha;have h1:=hi.may h (b:=b) (by simp[It.aY]);refine⟨⟨hn,.inr ⟨b,0,cs,t,w,rfl,h1.1,hi.it _ h,by rw[<-hn];simp⟩⟩,λi fE=>?_⟩;have:i=b:=by simpa[aj] using fE
  subst this;exact h1
theorem cX {s:St}{b:Nat}{R W:Fp}(hb:b<s.next)(hR:R b):kJ s (s.aV b) R W:=⟨by simp,λi hi=>by
  rw[sc,gG] at hi;rw[cw];rcases hi with hi|rfl
  .exact .inl hi
  .exact .inr ⟨hR,hb⟩,λi hi=>by rw[B9] at hi;exact .inl hi⟩
theorem tz {b off:Nat}{c:aQ}{e:TypeId}{w:Bool}[ht:nN E t](hb:s.heap.get b=some (.cells c e w))(hv:c[off]?=some v):mq E s t b off=some (v,s.aV b):=by
 obtain⟨d,h1,h2⟩:=ht.h;unfold mq St.Ko St.look;rw[hb];simp only[cr,h1,h2,eJ,dR,hv]
theorem vD {b off m:Nat}{c:aQ}{e:TypeId}{w:Bool}{r:aQ}[ht:wm E t m](hb:s.heap.get b=some (.cells c e w))(hv:iS m (dY off c)=some r):mq E s t b off=some (.agg ⟨r⟩,s.aV b):=by
 obtain⟨d,h1,h2,h3⟩:=ht.h;unfold mq St.Ko St.look;rw[hb];simp only[cr,h1,h2,gu,h3,hv]
theorem WO.reads {o:Op}{b:Nat}(hi:∀s,Inv Γ s L->Fi Γ s b)(h:∀tm s (call:dJ),mM l tm->Inv Γ s L->Fb E call (aM tm) s o=some (v,s.aV b))(k:∀n,K v L n n (λi=>i=b) Z):WO E X Γ l o L K:=λtm s h1 h2=>
 fS.pure (λcall=>h tm s call h1 h2) ⟨L,(λi=>i=b),Z,h2.aV (hi s h2),cX (hi s h2).1 rfl,by rw[cw];exact k _⟩
theorem WO.load {b off:Nat}{e:TypeId}{w:Bool}[ht:nN E t](hx:Ev l x (.pointer (some ⟨b,off,none⟩)))(hm:It.box b cs e w∈L)(hv:jb cs off=some v)(k:∀n,K v L n n (λi=>i=b) Z):WO E X Γ l (.load t x) L K:=
 WO.reads (λs hi=>hi.may hm (by simp[It.aY])) (λtm s call hl hi=>by
   show(Fa (aM tm x) λb o=>mq E s t b o)=_;rw[hx.eval hl];exact tz (hi.it _ hm) (by rw[<-dR];exact hv)) k
theorem WO.agJ {b off m:Nat}{e:TypeId}{w:Bool}{r:aQ}[ht:wm E t m](hx:Ev l x (.pointer (some ⟨b,off,none⟩)))(hm:It.box b cs e w∈L)(hv:iS m (dY off cs)=some r)(k:∀n,K (.agg ⟨r⟩) L n n (λi=>i=b) Z):WO E X Γ l (.load t x) L K:=
 WO.reads (λs hi=>hi.may hm (by simp[It.aY])) (λtm s call hl hi=>by
   show(Fa (aM tm x) λb o=>mq E s t b o)=_;rw[hx.eval hl];exact vD (hi.it _ hm) hv) k
class ak (α:Type)(sz:outParam Nat) where
 cells:α->aQ
 ah:α
 len:∀x,(cells x).length=sz
 fl:∀x,∀v∈cells x,flat v=true
 pos:1<=sz
def ai {α:Type}{sz:Nat}[ak α sz](l:List α):aQ:=l.flatMap (ak.cells (sz:=sz))
section
variable {α:Type}[ak α sz]
theorem rb (p q:List α):ai (sz:=sz) (p++q)=ai (sz:=sz) p++ai (sz:=sz) q:=by simp[ai]
theorem dE (p:α)(q:List α):ai (sz:=sz) (p::q)=ak.cells (sz:=sz) p++ai (sz:=sz) q:=by simp[ai]
theorem bh (p:List α):(ai (sz:=sz) p).length=p.length*sz:=by
 induction p with
 |nil=>simp[ai]
 |cons x p ih=>rw[dE,bJ,ih,ak.len];simp[mK,Nat.add_comm]
theorem Ar (p:List α):∀v∈ai (sz:=sz) p,flat v=true:=by
 intro v hv;obtain⟨x,_,h⟩:=ph.1 hv;exact ak.fl x v h
theorem su (p:List α)(i:Nat):(ai (sz:=sz) p).drop (i*sz)=ai (sz:=sz) (p.drop i):=by
 induction p generalizing i with
 |nil=>simp[ai]
 |cons x p ih=>
  cases i with
  |zero=>simp
  |succ i=>
   rw[dE,List.drop_succ_cons,<-ih,List.drop_append,ak.len];have:(i+1)*sz=sz+i*sz:=by rw[mK];omega
   rw[this];simp[ak.len]
theorem pK (p:List α)(i:Nat):(ai (sz:=sz) p).take (i*sz)=ai (sz:=sz) (p.take i):=by
 induction p generalizing i with
 |nil=>simp[ai]
 |cons x p ih=>
  cases i with
  |zero=>simp[ai]
  |succ i=>
   rw[dE,x_5,dE,<-ih,AW,ak.len];have:(i+1)*sz=sz+i*sz:=by rw[mK];omega
   rw[this,Nat.add_sub_cancel_left,qG (by rw[ak.len];omega)]
theorem Qx (p:List α){i:Nat}(hi:i<p.length):∃q r,ai (sz:=sz) p=q++(ak.cells (sz:=sz) (p.getD i (ak.ah (sz:=sz)))++r)/\q.length=i*sz:=by
 refine⟨ai (sz:=sz) (p.take i),ai (sz:=sz) (p.drop (i+1)),?_,?_⟩
 .have h:p=p.take i++(p.getD i (ak.ah (sz:=sz))::p.drop (i+1)):=by
   rw[aR,bd hi];simp
  conv=>lhs;rw[h]
  rw[rb,dE]
 .rw[bh,cZ,BL (rU hi)]
theorem VY (p:List α){i j:Nat}(hi:i<p.length)(hv:jb (ak.cells (sz:=sz) (p.getD i (ak.ah (sz:=sz)))) j=some v):(ai (sz:=sz) p)[i*sz+j]?=some v:=by
 obtain⟨q,r,h1,h2⟩:=Qx (sz:=sz) p hi;rw[dR] at hv;have hj:j<(ak.cells (sz:=sz) (p.getD i (ak.ah (sz:=sz)))).length:=(ug.1 hv).1;rw[h1,zY ag,h2,Nat.add_sub_cancel_left,wZ hj,hv]
theorem VZ (p:List α){i:Nat}(hi:i<p.length):iS sz (dY (i*sz+0) (ai (sz:=sz) p))=some (ak.cells (sz:=sz) (p.getD i (ak.ah (sz:=sz)))):=by
 obtain⟨q,r,h1,h2⟩:=Qx (sz:=sz) p hi;rw[pZ,yv,h1,wY,<-h2,List.drop_left,if_pos (by rw[bJ,ak.len];omega),AW,ak.len,qG (by rw[ak.len];omega)];simp
end
section
variable {α:Type}{enc:ak α sz}
theorem bO.at_ {p:List α}(h:bO s a n sz (ai (sz:=sz) p)){i:Nat}(hi:i<p.length):∃b o c e w,a=some ⟨b,o,none⟩/\b<s.next/\s.heap.get b=some (.cells c e w)/\(c.drop o).take (n*sz)=ai (sz:=sz) p/\n=p.length:=by
 have hn:n=p.length:=by
  have h1:=h.1;rw[bh] at h1;exact(Nat.eq_of_mul_eq_mul_right (ak.pos (α:=α) (sz:=sz)) h1).symm
 rcases h.2 with⟨h0,_⟩|⟨b,o,c,e,w,rfl,h1,h2,h3⟩
 .omega
 .exact⟨b,o,c,e,w,rfl,h1,h2,h3,hn⟩
theorem Bf {c cs:aQ}{o m k:Nat}(h:(c.drop o).take m=cs)(hv:cs[k]?=some v):c[o+k]?=some v:=by
 have hk:k<cs.length:=(ug.1 hv).1;rw[<-h,J9] at hv;split at hv
 .rw[yh] at hv;exact hv
 .cases hv
theorem wL {c cs r:aQ}{o m k sz:Nat}(h:(c.drop o).take m=cs)(hv:iS sz (dY k cs)=some r):iS sz (dY (o+k) c)=some r:=by
 obtain⟨h1,h2⟩:=kP hv;rw[pZ] at h1 h2⊢;subst h2;rw[yv];rw[<-h,gd,cZ,gd] at h1;have h3:sz<=(c.drop (o+k)).length:=by rw[gd];omega
 rw[if_pos h3]
 congr 1
 rw[<-h,List.drop_take,mm,NO,BL ag]
theorem WO.agK {p:List α}{i j:Nat}[ht:nN E t](hx:Ev l x (de a i sz j))(hh:jY Γ L a n sz (ai (sz:=sz) p))(hi:i<p.length)(hv:jb (ak.cells (sz:=sz) (p.getD i (ak.ah (sz:=sz)))) j=some v)(k:∀n,K v L n n (λi=>i∈aj a) Z):WO E X Γ l (.load t x) L K:=λtm s h1 h2=>by
 obtain⟨hr,hm⟩:=hh.row h2;obtain⟨b,o,c,e,w,rfl,h3,h4,h5,h6⟩:=hr.at_ hi;refine fS.pure (v:=v) (s':=s.aV b) (λcall=>?_) ⟨L,(λi=>i∈aj (some ⟨b,o,none⟩)),Z,h2.aV (hm b (by simp[aj])),cX h3 (by simp[aj]),by rw[cw];exact k _⟩
 .show(Fa (aM tm x) λb o=>mq E s t b o)=_;rw[hx.eval h1];exact tz h4 (Bf h5 (VY p hi hv))
theorem WO.adO {p:List α}{i:Nat}[ht:wm E t sz](hx:Ev l x (de a i sz 0))(hh:jY Γ L a n sz (ai (sz:=sz) p))(hi:i<p.length)(k:∀n,K (.agg ⟨ak.cells (sz:=sz) (p.getD i (ak.ah (sz:=sz)))⟩) L n n (λi=>i∈aj a) Z):WO E X Γ l (.load t x) L K:=λtm s h1 h2=>by
 obtain⟨hr,hm⟩:=hh.row h2;obtain⟨b,o,c,e,w,rfl,h3,h4,h5,h6⟩:=hr.at_ hi;refine fS.pure (v:=.agg ⟨ak.cells (sz:=sz) (p.getD i (ak.ah (sz:=sz)))⟩) (s':=s.aV b) (λcall=>?_) ⟨L,(λi=>i∈aj (some ⟨b,o,none⟩)),Z,h2.aV (hm b (by simp[aj])),cX h3 (by simp[aj]),by rw[cw];exact k _⟩
 .show(Fa (aM tm x) λb o=>mq E s t b o)=_;rw[hx.eval h1];exact vD h4 (wL h5 (VZ p hi))
theorem WO.indexAddr {p:List α}{i c e:Nat}{k:IntKind}[ht:po E t e sz](hx:Ev l x (.slice a n c))(hy:Ev l y (.int k (i:Int)))(hh:jY Γ L a n sz (ai (sz:=sz) p))(hi:i<p.length)(hk:∀n,K (de a i sz 0) L n n Z Z):WO E X Γ l (.indexAddr t x y) L K:=λtm s h1 h2=>by
 obtain⟨hr,hm⟩:=hh.row h2;obtain⟨b,o,cc,e',w,rfl,h3,h4,h5,h6⟩:=hr.at_ hi;obtain⟨hu,z1,z2,hz,hz2,_⟩:=ht.h;refine fS.pure (v:=de (some ⟨b,o,none⟩) i sz 0) (s':=s) (λcall=>?_) ⟨L,Z,Z,h2,kJ.id,hk _⟩;show nR E s t (aM tm x) (aM tm y)=_;rw[hx.eval h1,hy.eval h1];unfold nR;rw[hu];show eg (Nat.ble (Nat.succ i) n) (ob (size E e) λsz=>aL (.pointer (some ⟨b,Nat.add o (Nat.mul i sz),none⟩)) s)=_;have hs:size E e=some sz:=by unfold size;rw[hz];simp[hz2]
 rw[il ag,hs];rfl
end
theorem WO.fieldAddr {b o i off:Nat}[ht:iM E t i off](hx:Ev l x (.pointer (some ⟨b,o,none⟩)))(k:∀n,K (.pointer (some ⟨b,o+off,none⟩)) L n n Z Z):WO E X Γ l (.fieldAddr t x i) L K:=WO.val (λtm s call hl=>by
 obtain⟨fs,f,sz,h1,h2,h3,h4,h5⟩:=ht.h;show nQ E s t (aM tm x) i=_;rw[hx.eval hl];unfold nQ;rw[h1];simp only[cr,dR,h2,h3,il h4];show aL (.pointer (some ⟨b,Nat.add o f.offset,none⟩)) s=_;rw[h5];rfl) k
theorem WO.Ol {α:Type}{enc:ak α sz}{p:List α}{i j f off:Nat}[ht:iM E t f off](hx:Ev l x (de a i sz j))(hh:jY Γ L a n sz (ai (sz:=sz) p))(hi:i<p.length)(k:∀n,K (de a i sz (j+off)) L n n Z Z):WO E X Γ l (.fieldAddr t x f) L K:=λtm s hl h2=>by
 obtain⟨fs,f,Sx,h1,NG,h3,h4,h5⟩:=ht.h;obtain⟨b,o,_,_,_,rfl,_⟩:=(hh.row h2).1.at_ hi;refine fS.pure (v:=de (some ⟨b,o,none⟩) i sz (j+off)) (s':=s) (λcall=>?_) ⟨L,Z,Z,h2,kJ.id,k _⟩;show nQ E s t (aM tm x) _=_;rw[hx.eval hl];unfold nQ;rw[h1];simp only[cr,dR,NG,h3,il h4];show aL (.pointer (some ⟨b,Nat.add (o+(i*sz+j)) f.offset,none⟩)) s=_;rw[h5];show aL _ _=some (de _ _ _ _,_);unfold de aL
 congr 5
 show o+(i*sz+j)+off=_;omega
end
class mh (E:dA)(t:TypeId)(pl:outParam (List (Nat×Nat)))(z:outParam (aQ)):Prop where
 h:∃fs v,ja E t=some (.struct ⟨fs⟩)/\places E fs=some pl/\zero E t=some v/\bW v=z
class uk (E:dA)(t:TypeId)(e sz:outParam Nat)(z:outParam (aQ)):Prop where
 h:ja E t=some (.slice e)/\∃i v,E.ty.get e=some i/\i.size=sz/\i.zero=some v/\bW v=z/\z.length=sz/\1<=sz/\i.bytes<=1000000
inductive Om (x:It):bE->bE->Prop
 |here {L:bE}:Om x (x::L) L
 |there {y:It} {L R:bE} (h:Om x L R):Om x (y::L) (y::R)
theorem Om.cR {x:It}{L R:bE}(h:Om x L R):L.Perm (x::R):=by
 induction h with
 |here=>exact .refl _
 |there h ih=>exact(ih.cons _).trans (.swap _ _ _)
section
variable {E:dA}{X:dM}{Γ:ij}{l:Kn}{L L' R:bE}{K:KO}{x y:Operand}{v u:Value}{t:TypeId}{s s':St}{a:aK}{n sz:Nat}{cs:aQ}
def kq (L:bE)(b:Nat):Prop:=∀y∈L,∀i∈y.aY,i<b
theorem Inv.old (h:Inv Γ s L):kq L s.next:=λy hy i hi=>(h.lt y hy i hi).1
theorem uV {s:St}{o:gF}{R W:Fp}(hR:R s.next)(hW:W s.next):kJ s (s.new o) R W:=⟨by simp,λi hi=>by
  rw[yy,gG] at hi;rw[lW];rcases hi with hi|rfl
  .exact .inl hi
  .exact .inr ⟨hR,ag⟩,λi hi=>by
  rw[xf,gG] at hi;rw[lW];rcases hi with hi|rfl
  .exact .inl hi
  .exact .inr ⟨hW,ag⟩⟩
theorem jZ {s:St}{b:Nat}{o:Option gF}{R W:Fp}(hb:b<s.next)(hR:R b)(hW:W b):kJ s (s.put b o) R W:=⟨by simp,λi hi=>by
  rw[qV,gG] at hi;rw[dZ];rcases hi with hi|rfl
  .exact .inl hi
  .exact .inr ⟨hR,hb⟩,λi hi=>by
  rw[sZ,gG] at hi;rw[dZ];rcases hi with hi|rfl
  .exact .inl hi
  .exact .inr ⟨hW,hb⟩⟩
theorem kJ.trans {s s1 s2:St}{R W:Fp}(h:kJ s s1 R W)(k:kJ s1 s2 R W):kJ s s2 R W:=⟨ik h.nx k.nx,λi hi=>by
  rcases k.cO i hi with h1|h1
  .rcases h.cO i h1 with h2|h2
   .exact .inl h2
   .exact .inr ⟨h2.1,yb h2.2 k.nx⟩
  .exact .inr h1,λi hi=>by
  rcases k.wr i hi with h1|h1
  .rcases h.wr i h1 with h2|h2
   .exact .inl h2
   .exact .inr ⟨h2.1,yb h2.2 k.nx⟩
  .exact .inr h1⟩
theorem WO.news {o:Op}{ob:Nat->gF}{mk:Nat->Value}{it:Nat->It}(h:∀tm s (call:dJ),mM l tm->Inv Γ s L->Fb E call (aM tm) s o=some (mk s.next,s.new (ob s.next)))
  (fF:∀s b,s.heap.get b=some (ob b)->(it b).ok s)(hb:∀b,(it b).aY=[b])(k:∀b,kq L b->K (mk b) (it b::L) b (b+1) (λi=>i=b) (λi=>i=b)):WO E X Γ l o L K:=λtm s h1 h2=>
 fS.pure (λcall=>h tm s call h1 h2) ⟨it s.next::L,(λi=>i=s.next),(λi=>i=s.next),h2.new (fF _ _ (by simp)) (hb _),uV rfl rfl,by rw[lW];exact k _ h2.old⟩
theorem WO.akn {cs:aQ}(hx:Ev l x (.agg ⟨cs⟩))(k:∀b,kq L b->K (.pointer (some ⟨b,0,none⟩)) (.box b cs t false::L) b (b+1) (λi=>i=b) (λi=>i=b)):WO E X Γ l (.box t x) L K:=
 WO.news (mk:=λb=>.pointer (some ⟨b,0,none⟩)) (ob:=λ_=>.cells cs t false) (it:=λb=>.box b cs t false) (λtm s call hl _=>by
   show NT s (bW (aM tm x)) t=_;rw[hx.eval hl];rfl) (λs b h=>h) (λb=>rfl) k
theorem WO.ako (hx:Ev l x v)(hv:bW v=[v])(k:∀b,kq L b->K (.pointer (some ⟨b,0,none⟩)) (.box b [v] t false::L) b (b+1) (λi=>i=b) (λi=>i=b)):WO E X Γ l (.box t x) L K:=
 WO.news (mk:=λb=>.pointer (some ⟨b,0,none⟩)) (ob:=λ_=>.cells [v] t false) (it:=λb=>.box b [v] t false) (λtm s call hl _=>by
   show NT s (bW (aM tm x)) t=_;rw[hx.eval hl,hv];rfl) (λs b h=>h) (λb=>rfl) k
theorem WO.alloc {z:aQ}[ht:ss E t z](k:∀b,kq L b->K (.pointer (some ⟨b,0,none⟩)) (.box b z t false::L) b (b+1) (λi=>i=b) (λi=>i=b)):WO E X Γ l (.alloc t) L K:=
 WO.news (mk:=λb=>.pointer (some ⟨b,0,none⟩)) (ob:=λ_=>.cells z t false) (it:=λb=>.box b z t false) (λtm s call hl _=>by
   obtain⟨v,h1,h2⟩:=ht.h;show Ik E s t=_;unfold Ik;rw[h1];show NT s (bW v) t=_;rw[h2];rfl) (λs b h=>h) (λb=>rfl) k
inductive Sy (l:Kn):List (Nat×Operand)->List (Nat×Value)->Prop
 |nil:Sy l [] []
 |cons {i:Nat} {x:Operand} {v:Value} {ps:List (Nat×Operand)} {vs:List (Nat×Value)} (h:Ev l x v) (k:Sy l ps vs):Sy l ((i,x)::ps) ((i,v)::vs)
theorem Sy.eval {ps:List (Nat×Operand)}{vs:List (Nat×Value)}{tm:Tm}(h:Sy l ps vs)(hl:mM l tm):sU (aM tm) ps=vs:=by
 induction h with
 |nil=>rfl
 |cons h _ ih=>
  show(_,aM tm _)::sU (aM tm) _=_;rw[ih,h.eval hl]
theorem WO.build {ps:List (Nat×Operand)}{vs:List (Nat×Value)}{pl:List (Nat×Nat)}{z:aQ}[ht:mh E t pl z](hp:Sy l ps vs)(hf:rX (jb pl) vs z=some cs)(k:∀n,K (.agg ⟨cs⟩) L n n Z Z):WO E X Γ l (.build t ⟨ps⟩) L K:=WO.val (λtm s call hl=>by
 obtain⟨fs,v,h1,h2,h3,h4⟩:=ht.h;show Il E (aM tm) s t ps=_;unfold Il;rw[h3,h1];simp only[cr,h2,hp.eval hl,h4,hf];rfl) k
theorem WO.buildSlice {m:Nat}{ps:List (Nat×Operand)}{vs:List (Nat×Value)}{e:Nat}{z:aQ}[ht:uk E t e sz z](hm:Nat.ble (Nat.mul m sz) 16777216=true)(hp:Sy l ps vs)(hf:rX (oG sz) vs (lU z m)=some cs)(hc:cs.length=m*sz)
  (k:∀b,kq L b->K (.slice (some ⟨b,0,none⟩) m m) (.aN (.slice (some ⟨b,0,none⟩) m m) e sz cs::L) b (b+1) (λi=>i=b) (λi=>i=b)):WO E X Γ l (.buildSlice t m ⟨ps⟩) L K:=
 WO.news (mk:=λb=>.slice (some ⟨b,0,none⟩) m m) (ob:=λ_=>.cells cs e false) (it:=λb=>.aN (.slice (some ⟨b,0,none⟩) m m) e sz cs) (λtm s call hl _=>by
   obtain⟨h1,i,v,h2,h3,h4,h5,h6,h7,h8⟩:=ht.h;show uB E (aM tm) s t m ps=_;have hs:size E e=some sz:=by unfold size;rw[h2];simp[h3]
   have hz:zero E e=some v:=by unfold zero;rw[h2];simp[h4]
   show ob (some t) (λt=>ob (ja E t) λd=>match d with
    |.slice e=>ob (size E e) λsz=>ob (zero E e) λz=>eg (Nat.beq (ek (bW z)) sz&&Nat.ble (nat_lit 1) sz&&Nat.ble (Nat.mul m sz) (nat_lit 16777216))<| ob (rX (oG sz) (sU (aM tm) ps) (lU (bW z) m)) λcs=>aL (.slice (some ⟨s.next,nat_lit 0,none⟩) m m) (s.new (.cells cs e false))
    |_=>none)=_
   simp only[cr,h1,hs,hz,h5,hp.eval hl,hf,hm,dh,h6,il h7,lL,Kg];rfl) (λs b h=>.inr ⟨b,m,m,false,rfl,h,hc,.inl ⟨rfl,by
    have h1:=qF hm;obtain⟨_,i,v,_,_,_,_,_,h7,_⟩:=ht.h;have h2:m<=m*sz:=UW _ h7;have h3:m<=16777216:=ik h2 h1;show m<9223372036854775808;omega⟩⟩) (λb=>rfl) k
theorem Dh {α:Type}[ak α sz](x:α)(n:Nat):lU (ak.cells (sz:=sz) x) n=ai (sz:=sz) (List.replicate n x):=by
 induction n with
 |zero=>rfl
 |succ n ih=>
  rw[List.replicate_succ,dE,<-ih];rfl
theorem WO.makeSlice {α:Type}[ak α sz]{d:α}{m e:Nat}{k1 k2:IntKind}{z:aQ}[ht:uk E t e sz z](hd:ak.cells (sz:=sz) d=z)(hx:Ev l x (.int k1 (m:Int)))(hy:Ev l y (.int k2 (m:Int)))(hm:m<=1000000)
  (k:∀b,kq L b->K (.slice (some ⟨b,0,none⟩) m m) (.aN (.slice (some ⟨b,0,none⟩) m m) e sz (ai (sz:=sz) (List.replicate m d))::L) b (b+1) (λi=>i=b) (λi=>i=b)):WO E X Γ l (.makeSlice t x y) L K:=
 WO.news (mk:=λb=>.slice (some ⟨b,0,none⟩) m m) (ob:=λ_=>.cells (ai (sz:=sz) (List.replicate m d)) e false) (it:=λb=>.aN (.slice (some ⟨b,0,none⟩) m m) e sz (ai (sz:=sz) (List.replicate m d))) (λtm s call hl _=>by
   obtain⟨h1,i,v,h2,h3,h4,h5,h6,h7,h8⟩:=ht.h;show xa E s t (aM tm x) (aM tm y)=_;rw[hx.eval hl,hy.eval hl];show ob (some t) (λt=>ob (ja E t) λd=>match d with
    |.slice e=>ob (E.ty.get e) λi=>ob i.zero λz=>eg (Nat.ble m m&&Nat.ble m (nat_lit 1000000)&&Nat.ble i.bytes (nat_lit 1000000)&&Nat.beq (ek (bW z)) i.size&&Nat.ble (nat_lit 1) i.size)<| aL (.slice (some ⟨s.next,nat_lit 0,none⟩) m m) (s.new (.cells (lU (bW z) m) e false))
    |_=>none)=_
   simp only[cr,h1,h2,h4,h5,h3,dh,h6,il h7,il hm,il h8,il (cA m),lL,Kg];rw[<-hd,Dh];rfl) (λs b h=>.inr ⟨b,m,m,false,rfl,h,bh _|>.trans (by simp),.inl ⟨rfl,by show m<9223372036854775808;omega⟩⟩) (λb=>rfl) k
theorem WO.store {b off m:Nat}{cs cs':aQ}{e:TypeId}{w:Bool}[ht:iU E t m](hx:Ev l x (.pointer (some ⟨b,off,none⟩)))(hy:Ev l y v)(hc:Nat.beq (ek (bW v)) m=true)(hf:jv (bW v)=true)
  (hu:yQ (.box b cs e w) (.box b cs' e w) L L')(hp:fP off (bW v) cs=some cs')(k:∀n,K (.tuple ⟨[]⟩) L' n n (λi=>i=b) (λi=>i=b)):WO E X Γ l (.store t x y) L K:=λtm s h1 h2=>by
 obtain⟨R,p1,p2⟩:=hu.cR;have hm:It.box b cs e w∈L:=p1.mem_iff.2 (by simp);have hg:s.heap.get b=some (.cells cs e w):=h2.it _ hm;have du:=(h2.may hm (b:=b) (by simp[It.aY]));have hr:=h2.aV du;refine fS.pure (v:=.tuple ⟨[]⟩) (s':=(s.aV b).put b (some (.cells cs' e w))) (λcall=>?_) ⟨L',(λi=>i=b),(λi=>i=b),hr.put hu rfl rfl (by show T.get (St.heap _) b=_;simp),(kJ.trans (cX du.1 rfl) (jZ (by simpa using du.1) rfl rfl)),by rw[dZ,cw];exact k _⟩
 .show(Fa (aM tm x) λb o=>mU E s t b o (aM tm y))=_;rw[hx.eval h1,hy.eval h1];show mU E s t b off v=_;unfold mU St.row St.look;rw[hg];simp only[cr,ht.h,hc,hf,hp];rfl
theorem Bg (h:flat v=true):bW v=[v]:=by cases v<;>first|rfl|cases h
theorem As (v:Value):∀(i:Nat)(cs:aQ),i<cs.length->fP i [v] cs=some (cs.set i v)
 |_,[],h=>by simp at h
 |0,z::zs,_=>rfl
 |i+1,z::zs,h=>by
  show ob (fP i [v] zs) (λr=>some (z::r))=_;rw[As v i zs (by simpa using h)];rfl
theorem WO.adP {α:Type}{enc:ak α 1}{p:List α}{q:α}{i c e m:Nat}[ht:iU E t 1](hx:Ev l x (de a i 1 0))(hy:Ev l y v)(hv:ak.cells q=[v])(hi:i<p.length)
  (hu:yQ (.aN (.slice a n c) e 1 (ai p)) (.aN (.slice a n c) e 1 (ai (p.set i q))) L L')(k:∀n,K (.tuple ⟨[]⟩) L' n n (λi=>i∈aj a) (λi=>i∈aj a)):WO E X Γ l (.store t x y) L K:=λtm s h1 h2=>by
 obtain⟨R,p1,p2⟩:=hu.cR;have hm:It.aN (.slice a n c) e 1 (ai p)∈L:=p1.mem_iff.2 (by simp);have BR:flat v=true:=ak.fl q v (by rw[hv];simp);have oJ:∀(p:List α)(i:Nat),(ai p).set i v=ai (p.set i q):=by
  intro p;induction p with
  |nil=>intro i;rfl
  |cons x p ih=>
   intro i;have h1:∃u,ak.cells x=[u]:=List.length_eq_one_iff.1 (ak.len x);obtain⟨u,hu⟩:=h1;cases i with
   |zero=>rw[List.set_cons_zero,dE,dE,hu,hv];rfl
   |succ i=>rw[List.set_cons_succ,dE,dE,hu,<-ih];rfl
 rcases h2.it _ hm with⟨h3,h4⟩|⟨b,n',k',w,h3,h4,h5,h6⟩
 .cases h3
  have:=bh p;rw[h4] at this;simp at this;omega
 .cases h3
  have du:=(h2.may hm (b:=b) (by simp[It.aY,na]));have hr:=h2.aV du;have dK:fP (0+(i*1+0)) [v] (ai p)=some (ai (p.set i q)):=by
   rw[<-oJ];have ZB:i<(ai p).length:=by rw[bh];omega
   simp only[nF,wY,z7];exact As v _ _ ZB
  refine fS.pure (v:=.tuple ⟨[]⟩) (s':=(s.aV b).put b (some (.cells (ai (p.set i q)) e w))) (λcall=>?_) ⟨L',(λi=>i∈aj (some ⟨b,0,none⟩)),(λi=>i∈aj (some ⟨b,0,none⟩)),hr.put hu rfl rfl ?_,(kJ.trans (cX du.1 (by simp[aj])) (jZ (by simpa using du.1) (by simp[aj]) (by simp[aj]))),by rw[dZ,cw];exact k _⟩
  .show(Fa (aM tm x) λb o=>mU E s t b o (aM tm y))=_;rw[hx.eval h1,hy.eval h1];show mU E s t b (0+(i*1+0)) v=_;unfold mU St.row St.look;rw[h4];simp only[cr,ht.h,Bg BR,dK];have:jv [v]=true:=by show bo (flat v) true false=true;rw[BR];rfl
   rw[this];rfl
  .exact .inr ⟨b,_,_,w,rfl,by show T.get (St.heap _) b=_;simp,by rw[bh] at h5⊢;simpa using h5,h6⟩
end
def kC (s:St):aK->St
 |some ⟨b,_,none⟩=>s.aV b
 |_=>s
section
variable {E:dA}{X:dM}{Γ:ij}{l:Kn}{L L' R:bE}{K:KO}{x y:Operand}{v u:Value}{t:TypeId}{s s':St}{a:aK}{n sz:Nat}{cs:aQ}
theorem sw {cs:aQ}{o m:Nat}{c:aQ}(h:(c.drop o).take m=cs)(hl:cs.length=m):iS m (dY o c)=some cs:=by
 rw[pZ,yv];have:m<=(c.drop o).length:=by
  rw[<-h,cZ] at hl;omega
 rw[if_pos this,h]
theorem KZ {β:Type}{c:Nat}(h:bO s a n sz cs)(k:Nat->aQ->St->Option β):Kr s sz (.slice a n c) k=k n cs (kC s a):=by
 obtain⟨h1,h2⟩:=h;rcases h2 with⟨rfl,rfl|⟨b,o,q,rfl,h3⟩⟩|⟨b,o,c',e,w,rfl,h3,h4,h5⟩
 .have:cs=[]:=mT (by simpa using h1);subst this;rfl
 .have:cs=[]:=mT (by simpa using h1);subst this;rfl
 .show s.row b (λc _ _ s=>ob (iS (Nat.mul n sz) (dY o c)) λcs=>k n cs s)=_;unfold St.row St.look;rw[h4];simp only[cr];have:=sw (m:=n*sz) h5 h1;rw[show Nat.mul n sz=n*sz from rfl,this];rfl
theorem eD {β:Type}(k:Option β):eg true k=k:=rfl
theorem ka (elem:TypeId)(sz:Nat)(b o len cap n:Nat)(new:aQ)(s:St):oF elem sz (some ⟨b,o,none⟩) len cap n new s=s.row b λc e w s=>bo (Nat.ble eH cap)
  (eg (w&&Nat.beq e elem&&Nat.beq cap eH&&Nat.beq o (nat_lit 0))<| bo (Nat.beq (ek c) (Nat.mul len sz)) (bo (Nat.beq n (nat_lit 0)) (aL (.slice (some ⟨b,o,none⟩) len cap) s)<|
    (λs:St=>aL (bV s (Nat.add len n)) (s.new (.cells (c++new) elem true))) (s.put b none))<|
    eg (Nat.ble (Nat.add (Nat.mul len sz) (ek new)) (ek c))<| ob (iS (Nat.mul len sz) c) λold=>(λs:St=>aL (bV s (Nat.add len n)) (s.new (.cells (old++new) elem true))) (s.put b none))
  (bo (Nat.ble (Nat.add len n) cap)
    (bo (Nat.beq n (nat_lit 0)) (aL (.slice (some ⟨b,o,none⟩) len cap) s)<|
      ob (fP (Nat.add o (Nat.mul len sz)) new c) λcs=>aL (.slice (some ⟨b,o,none⟩) (Nat.add len n) cap) (s.put b (some (.cells cs e w))))
    (ob (iS (Nat.mul len sz) (dY o c)) λold=>aL (bV s (Nat.add len n)) (s.new (.cells (old++new) elem true)))):=rfl
theorem V0 {m:Nat}(h:0<m):Nat.beq m 0=false:=by
 cases m with
 |zero=>omega
 |succ m=>rfl
theorem Di:(kC s a).heap=s.heap:=by unfold kC;split<;>simp
theorem xr:(kC s a).next=s.next:=by unfold kC;split<;>simp
theorem Inv.kC (h:Inv Γ s L)(hm:∀b∈aj a,Fi Γ s b):Inv Γ (kC s a) L:=by
 unfold Go.Lg.kC;split
 .exact h.aV (hm _ (by simp[aj]))
 .exact h
theorem xu {R W:Fp}(hm:∀b∈aj a,b<s.next)(hR:∀b∈aj a,R b):kJ s (kC s a) R W:=by
 unfold Go.Lg.kC;split
 .exact cX (hm _ (by simp[aj])) (hR _ (by simp[aj]))
 .exact kJ.id
theorem WO.append {e m c c2:Nat}{a2:aK}{new:aQ}{z:aQ}{t2:TypeId}[ht:uk E t e sz z][ht2:uk E t2 e sz z](hx:Ev l x (.slice a n c))(hy:Ev l y (.slice a2 m c2))(hr:Om (.aN (.slice a n c) e sz cs) L R)(hs:jY Γ L a2 m sz new)
  (BR:∀v∈new,flat v=true)(hn:n+m<=1000000)
  (k:∀b b' a' c',kq L b->b<=b'->(∀i∈aj a',i∈aj a\/i=b)->K (.slice a' (n+m) c') (.aN (.slice a' (n+m) c') e sz (cs++new)::R) b b' (λi=>i∈aj a2\/i∈aj a\/i=b) (λi=>i∈aj a\/i=b)):WO E X Γ l (.call ⟨.builtin .append,⟨[x,y]⟩,⟨[t,t2]⟩⟩) L K:=λtm s h1 h2=>by
 obtain⟨UI,ii,z1,hi,ua,ZC,J2,hi5,hi6,hi7⟩:=ht.h;obtain⟨Vo,_⟩:=ht2.h;have hm:It.aN (.slice a n c) e sz cs∈L:=hr.cR.mem_iff.2 (by simp);obtain⟨yR,lF⟩:=hs.row h2;have hinv:Inv Γ (kC s a2) L:=h2.kC lF;have sx:=hinv.cR hr.cR;have Qy:kJ s (kC s a2) (λi=>i∈aj a2\/i∈aj a\/i=s.next) (λi=>i∈aj a\/i=s.next):=xu (λb hb=>(lF b hb).1) (λb hb=>.inl hb);have hh1:(kC s a2).heap=s.heap:=Di;have On:(kC s a2).next=s.next:=xr
 generalize tc:kC s a2=s1 at hinv sx Qy hh1 On;have lA:new.length=m*sz:=yR.1;have mD:∀(r:Value×St),oF e sz a n c m new s1=some r->∀call:dJ,Fb E call (aM tm) s (.call ⟨.builtin .append,⟨[x,y]⟩,⟨[t,t2]⟩⟩)=some r:=by
  intro r hr call;show vq E s [t,t2] (aM tm x) (aM tm y)=_;rw[hx.eval h1,hy.eval h1];unfold vq;show ob (some t) (λt=>ob (ja E t) λd=>match d with
   |.slice elem=>ob (some t2) λxt=>ob (ja E xt) λxd=>eg (!isInt xd)<| ob (E.ty.get elem) λi=>ob i.zero λz=>eg (Nat.ble (nat_lit 1) i.size&&Nat.ble i.bytes (nat_lit 1000000)&&Nat.beq (ek (bW z)) i.size)<| Kr s i.size (.slice a2 m c2) λn' new s=>eg (Nat.beq (ek new) (Nat.mul n' i.size))<| eg (jv new)<| (eg (Nat.ble (Nat.add n n') (nat_lit 1000000))<| oF elem i.size a n c n' new s)
   |_=>none)=_
  have hff:jv new=true:=(mv new).2 BR;simp only[cr,UI,Vo,hi,ua,ZC,J2,dh,hi5];show eg true _=_;simp only[il hi6,il hi7,lL,F5];rw[eD,eD,KZ yR];simp only[hff];rw[show Nat.mul m sz=m*sz from rfl,lA,lL];rw[il (show Nat.add n m<=1000000 from hn),tc];exact hr
 have hbb:∀{b:Nat}{o:Nat}{L:bE}{s:St},Inv Γ s (.aN (.slice (some ⟨b,o,none⟩) n c) e sz cs::L)->b<s.next:=λh=>(h.lt _ iV _ (by simp[It.aY,na])).1
 rcases sx.it _ iV with⟨h3,h4⟩|⟨b,n',k',w,h3,h4,h5,h6⟩
 .cases h3;subst h4
  rcases wc m with Fe|Fe
  .subst Fe;have x7:new=[]:=mT (by simpa using lA);subst x7;refine fS.pure (mD (.slice none 0 0,s1) rfl) ⟨_,_,_,?_,Qy,k s.next _ none 0 h2.old ag (λi hi=>by simp[aj] at hi)⟩;exact sx
  .refine fS.pure (mD (bV s1 m,s1.new (.cells new e true)) (by
    show eg true (bo (Nat.beq m 0) _ _)=_;rw[show Nat.beq m 0=false from V0 Fe];rfl)) ⟨.aN (.slice (some ⟨s1.next,0,none⟩) (0+m) eH) e sz ([]++new)::R,_,_,?_,Qy.trans (uV (.inr (.inr On)) (.inr On)),?_⟩
   .exact sx.jE.new (.inr ⟨s1.next,0+m,eH,true,rfl,by simp,by simpa using lA,.inr ⟨rfl,rfl⟩⟩) rfl
   .have:=k s.next (s1.new (.cells new e true)).next (some ⟨s1.next,0,none⟩) eH h2.old (by rw[lW];omega) (λi hi=>by right;simpa[aj,On] using hi)
    rw[show bV s1 m= .slice (some ⟨s1.next,0,none⟩) (0+m) eH from by simp[bV]];exact this
 .cases h3
  have Sz:=hbb sx;have Dj:∀{β:Type}(k:aQ->TypeId->Bool->St->Option β),s1.row b k=k cs e w (s1.aV b):=λk=>by unfold St.row St.look;rw[h4];rfl
  have Dk:Inv Γ (s1.aV b) (.aN (.slice (some ⟨b,0,none⟩) n c) e sz cs::R):=sx.aV (sx.may iV (by simp[It.aY,na]));have Oo:kJ s (s1.aV b) (λi=>i∈aj a2\/i∈aj (some ⟨b,0,none⟩)\/i=s.next) (λi=>i∈aj (some ⟨b,0,none⟩)\/i=s.next):=Qy.trans (cX Sz (.inr (.inl (by simp[aj]))));rcases wc m with Fe|Fe
  .subst Fe;have x7:new=[]:=mT (by simpa using lA);subst x7;refine fS.pure (mD (.slice (some ⟨b,0,none⟩) n c,s1.aV b) ?_) ⟨_,_,_,?_,Oo,k s.next _ (some ⟨b,0,none⟩) c h2.old (by rw[cw];omega) (λi hi=>.inl hi)⟩
   .rw[ka,Dj];rcases h6 with⟨rfl,h6⟩|⟨rfl,rfl⟩
    .rw[show Nat.ble eH c=false from by rw[<-jR,lR];omega];show bo (Nat.ble (Nat.add c 0) c) _ _=_;rw[il (show Nat.add c 0<=c from cA _)];rfl
    .show eg (true&&Nat.beq e e&&Nat.beq eH eH&&Nat.beq 0 0) (bo (Nat.beq (ek cs) (Nat.mul n sz)) _ _)=_;rw[dh,h5,show Nat.mul n sz=n*sz from rfl];simp only[lL];rfl
   .rw[ix];exact Dk
  .have hmf:Nat.beq m 0=false:=V0 Fe;rcases h6 with⟨rfl,h6⟩|⟨rfl,rfl⟩
   .refine fS.pure (mD (.slice (some ⟨s1.next,0,none⟩) (c+m) eH,(s1.aV b).new (.cells (cs++new) e true)) ?_) ⟨_,_,_,?_,Oo.trans (uV (.inr (.inr (by simpa using On))) (.inr (by simpa using On))),k s.next _ (some ⟨s1.next,0,none⟩) eH h2.old (by simp;omega) (λi hi=>by right;simpa[aj,On] using hi)⟩
    .rw[ka,Dj];rw[show Nat.ble eH c=false from by rw[<-jR,lR];omega];show bo (Nat.ble (Nat.add c m) c) _ (ob (iS (Nat.mul c sz) (dY 0 cs)) _)=_;rw[show Nat.ble (Nat.add c m) c=false from by rw[<-jR,lR];show ¬c+m<=c;omega];rw[sw (cs:=cs) (o:=0) (m:=Nat.mul c sz) (by rw[CB];exact qG (by rw[h5];exact cA _)) h5];show aL (bV (s1.aV b) (Nat.add c m)) _=_;unfold bV;rw[cw];rfl
    .have:=Dk.jE.new (o:=.cells (cs++new) e true) (x:=.aN (.slice (some ⟨s1.next,0,none⟩) (c+m) eH) e sz (cs++new)) (.inr ⟨s1.next,c+m,eH,true,rfl,by simp,by rw[bJ,h5,lA,mK],.inr ⟨rfl,rfl⟩⟩) (by simp[It.aY,na]);exact this
   .refine fS.pure (mD (.slice (some ⟨s1.next,0,none⟩) (n+m) eH,((s1.aV b).put b none).new (.cells (cs++new) e true)) ?_) ⟨_,_,_,?_,(Oo.trans (jZ (by simpa using Sz) (.inr (.inl (by simp[aj]))) (.inl (by simp[aj])))).trans (uV (.inr (.inr (by simpa using On))) (.inr (by simpa using On))),k s.next _ (some ⟨s1.next,0,none⟩) eH h2.old (by simp;omega) (λi hi=>by right;simpa[aj,On] using hi)⟩
    .rw[ka,Dj];show eg (true&&Nat.beq e e&&Nat.beq eH eH&&Nat.beq 0 0) (bo (Nat.beq (ek cs) (Nat.mul n sz)) _ _)=_;rw[dh,h5,show Nat.mul n sz=n*sz from rfl];simp only[lL];show bo (Nat.beq m 0) _ _=_;rw[hmf];show aL (bV ((s1.aV b).put b none) (Nat.add n m)) _=_;unfold bV;rw[dZ,cw];rfl
    .have h7:=Dk.kill (o:=none) (b:=b) (by simp[It.aY,na]);have:=h7.new (o:=.cells (cs++new) e true) (x:=.aN (.slice (some ⟨s1.next,0,none⟩) (n+m) eH) e sz (cs++new)) (.inr ⟨s1.next,n+m,eH,true,rfl,by simp,by rw[bJ,h5,lA,mK],.inr ⟨rfl,rfl⟩⟩) (by simp[It.aY,na]);exact this
def fH (E:dA)(X:dM)(f:FuncId)(args:aQ)(s:St)(Lm:bE)(A:List Nat)(Q:Value->bE->Prop):Prop:=
 (∀x∈Lm,x.ok s)->(∀x∈Lm,∀b∈x.aY,b<s.next)->(Lm.flatMap It.aY).Nodup->sr E X f args s λv s'=>∃L',Inv ⟨s,Lm.flatMap It.aY,A⟩ s' L'/\Q v L'
theorem fH.mono {f:FuncId}{args:aQ}{Lm:bE}{A:List Nat}{Q Q':Value->bE->Prop}(h:fH E X f args s Lm A Q)(k:∀v L,Q v L->Q' v L):fH E X f args s Lm A Q':=λh1 h2 h3=>(h h1 h2 h3).mono λv s' ⟨L',h4,h5⟩=>⟨L',h4,k _ _ h5⟩
inductive kL (l:Kn):List Operand->aQ->Prop
 |nil:kL l [] []
 |cons {x:Operand} {v:Value} {xs:List Operand} {vs:aQ} (h:Ev l x v) (k:kL l xs vs):kL l (x::xs) (v::vs)
theorem kL.eval {xs:List Operand}{vs:aQ}{tm:Tm}(h:kL l xs vs)(hl:mM l tm):xs.map (aM tm)=vs:=by
 induction h with
 |nil=>rfl
 |cons h _ ih=>rw[vp,ih,h.eval hl]
theorem WO.call {f:FuncId}{xs:List Operand}{ts:Array TypeId}{vs:aQ}{Lm:bE}{A:List Nat}{Q:Value->bE->Prop}(hx:kL l xs vs)(hp:L.Perm (Lm++R))(hA:∀s,Inv Γ s L->∀b∈A,b<s.next/\(b∈Γ.A\/b∈Γ.M\/Γ.s0.next<=b))(h:∀s,Inv Γ s L->fH E X f vs s Lm A Q)
  (k:∀v L' m m',kq L m->m<=m'->Q v L'->K v (L'++R) m m' (λi=>i∈A\/i∈Lm.flatMap It.aY\/(m<=i/\i<m')) (λi=>i∈Lm.flatMap It.aY\/(m<=i/\i<m'))):WO E X Γ l (.call ⟨.value (.func f),⟨xs⟩,ts⟩) L K:=λtm s h1 h2=>by
 have NG:=h2.cR hp;obtain⟨v,s',hr,L',hI,hq⟩:=h s h2 (λx hx=>NG.it x (cP _ hx)) (λx hx b hb=>(NG.lt x (cP _ hx) b hb).1) (by have:=NG.nd;rw[CD] at this;exact(qP.1 this).1);have hMl:∀b∈Lm.flatMap It.aY,b<s.next/\(Γ.s0.next<=b\/b∈Γ.M):=λb hb=>by
  obtain⟨x,hx,hb⟩:=ph.1 hb;exact NG.lt x (cP _ hx) b hb
 have agL:∀x∈R,∀b∈x.aY,b∉Lm.flatMap It.aY:=λx hx b hb hm=>by
  have:=NG.nd;rw[CD] at this;exact(qP.1 this).2.2 b hm b (ph.2 ⟨x,hx,hb⟩) rfl
 have hle:s.next<=s'.next:=hI.le
 have amO:=h2.le;refine fS.call (first:=[]) (cap:=[]) (K:=_) (by rfl) ⟨v,s',?_,?_⟩
 .have:([]:aQ)++(w9 (aM tm) xs++[])=vs:=by rw[qT,hx.eval h1];simp
  rw[this];exact hr
 .refine⟨L'++R,_,_,⟨λb hb hm=>?_,ag,λx hx=>?_,λx hx b hb=>?_,?_,λb hb=>?_,λb hb=>?_,λb hb=>?_,λb hb=>?_⟩,⟨hle,λb hb=>?_,λb hb=>?_⟩,k v L' s.next s'.next h2.old hle hq⟩
  .rw[hI.fr b (by show b<s.next;omega) (λhm'=>?_)]
   .exact h2.fr b hb hm
   .rcases(hMl b hm').2 with h3|h3
    .omega
    .exact hm h3
  .rcases eX.1 hx with hx|hx
   .exact hI.it x hx
   .exact It.yO (NG.it x (dz _ hx)) λb hb=>hI.fr b ((NG.lt x (dz _ hx) b hb).1) (agL x hx b hb)
  .rcases eX.1 hx with hx|hx
   .obtain⟨h3,h4⟩:=hI.lt x hx b hb;refine⟨h3,?_⟩;rcases h4 with h4|h4
    .exact .inl (by have h4:s.next<=b:=h4;omega)
    .exact(hMl b h4).2
   .obtain⟨h3,h4⟩:=NG.lt x (dz _ hx) b hb;exact⟨ag,h4⟩
  .rw[CD,qP];refine⟨hI.nd,by have:=NG.nd;rw[CD] at this;exact(qP.1 this).2.1,λb hb c hc=>?_⟩;rintro rfl;obtain⟨x,hx,hb⟩:=ph.1 hb;obtain⟨y,hy,hc⟩:=ph.1 hc;rcases(hI.lt x hx b hb).2 with h4|h4
   .have:=(NG.lt y (dz _ hy) b hc).1;have h4:s.next<=b:=h4
    omega
   .exact agL y hy b hc h4
  .rcases hI.cO b hb with h3|h3|h3|h3
   .exact h2.cO b h3
   .exact .inr (hA s h2 b h3).2
   .exact .inr (.inr (hMl b h3).2.symm)
   .exact .inr (.inr (.inr (by have h3:s.next<=b:=h3;omega)))
  .rcases hI.wr b hb with h3|h3|h3
   .exact h2.wr b h3
   .exact .inr (hMl b h3).2.symm
   .exact .inr (.inr (by have h3:s.next<=b:=h3;omega))
  .rcases hI.top b hb with h3|h3
   .rcases h2.top b h3 with h3|h3
    .exact .inl h3
    .exact .inr ag
   .exact .inr h3
  .rcases hI.Dg b hb with h3|h3
   .rcases h2.Dg b h3 with h3|h3
    .exact .inl h3
    .exact .inr ag
   .exact .inr h3
  .rcases hI.cO b hb with h3|h3|h3|h3
   .exact .inl h3
   .exact .inr ⟨.inl h3,by have:=(hA s h2 b h3).1;omega⟩
   .exact .inr ⟨.inr (.inl h3),by have:=(hMl b h3).1;omega⟩
   .rcases hI.top b hb with h4|h4
    .exact .inl h4
    .exact .inr ⟨.inr (.inr ⟨h3,h4⟩),h4⟩
  .rcases hI.wr b hb with h3|h3|h3
   .exact .inl h3
   .exact .inr ⟨.inl h3,by have:=(hMl b h3).1;omega⟩
   .rcases hI.Dg b hb with h4|h4
    .exact .inl h4
    .exact .inr ⟨.inr ⟨h3,h4⟩,h4⟩
end
section
variable {E:dA}{X:dM}{Γ:ij}{l:Kn}{L L' R:bE}{KO:KO}{x y:Operand}{v u:Value}{t:TypeId}{s s':St}{a:aK}{n sz:Nat}{cs:aQ}{aB aO:List Oper}{K:Kn->bE->Prop}
inductive qi (E:dA)(l:Kn)(L:bE):List ResultVar->aQ->Prop
 |nil:qi E l L [] []
 |tmp {t:Nat} {v:Value} {rs:List ResultVar} {vs:aQ} (h:lk l t=some v) (k:qi E l L rs vs):qi E l L (.tmp t::rs) (v::vs)
 |cell {c b off:Nat} {t:TypeId} {cs:aQ} {e:TypeId} {w:Bool} {v:Value} {rs:List ResultVar} {vs:aQ} (ht:nN E t) (h:lk l c=some (.pointer (some ⟨b,off,none⟩))) (hm:It.box b cs e w∈L) (hv:jb cs off=some v) (k:qi E l L rs vs):qi E l L (.cell c t::rs) (v::vs)
 |acb {c b off m:Nat} {t:TypeId} {cs:aQ} {e:TypeId} {w:Bool} {r:aQ} {rs:List ResultVar} {vs:aQ} (ht:wm E t m) (h:lk l c=some (.pointer (some ⟨b,off,none⟩))) (hm:It.box b cs e w∈L) (hv:iS m (dY off cs)=some r) (k:qi E l L rs vs):qi E l L (.cell c t::rs) (.agg ⟨r⟩::vs)
theorem qi.eval {rs:List ResultVar}{vs:aQ}(h:qi E l L rs vs):∀{tm:Tm}{s:St},mM l tm->Inv Γ s L->∃s',CQ E tm rs s=some (vs,s')/\Inv Γ s' L:=by
 induction h with
 |nil=>exact λh1 h2=>⟨_,rfl,h2⟩
 |tmp h k ih=>
  intro tm s h1 h2;obtain⟨s',h3,h4⟩:=ih h1 h2;refine⟨s',?_,h4⟩;rw[vC];show ob (CQ E tm _ s) _=_;rw[h3];have:=h1 _ _ h;show some (lV (tm.get _)::_,_)=_;rw[show lV (tm.get _)=_ from this]
 |cell ht h hm hv k ih=>
  intro tm s h1 h2;obtain⟨s',h3,h4⟩:=ih h1 (h2.aV (h2.may hm (gR.2 rfl)));refine⟨s',?_,h4⟩;rw[vC];show Fa (lV (tm.get _)) _=_;rw[show lV (tm.get _)=_ from h1 _ _ h];show ob (mq E s _ _ _) _=_;rw[tz (h2.it _ hm) (by rw[<-dR];exact hv)];simp only[cr];rw[h3];rfl
 |acb ht h hm hv k ih=>
  intro tm s h1 h2;obtain⟨s',h3,h4⟩:=ih h1 (h2.aV (h2.may hm (gR.2 rfl)));refine⟨s',?_,h4⟩;rw[vC];show Fa (lV (tm.get _)) _=_;rw[show lV (tm.get _)=_ from h1 _ _ h];show ob (mq E s _ _ _) _=_;rw[vD (h2.it _ hm) hv];simp only[cr];rw[h3];rfl
def V1:Nat->aQ->Kn
 |_,[]=>[]
 |i,v::vs=>(i,v)::V1 (i+1) vs
theorem Qz:∀(vs:aQ)(i t:Nat)(v:Value),lk (V1 i vs) t=some v->i<=t/\vs[t-i]?=some v
 |[],i,t,v,h=>by cases h
 |u::vs,i,t,v,h=>by
  unfold V1 lk at h;split at h
  .rename_i hb;have:i=t:=by simpa using hb
   subst this;simp at h;subst h;simp
  .rename_i hb;obtain⟨h1,h2⟩:=Qz vs (i+1) t v h;refine⟨ag,?_⟩;have:t-i=t-(i+1)+1:=by omega
   rw[this,ZK];exact h2
def uW (E:dA)(rs:List ResultVar)(Q:Value->bE->Prop):Aq:=λe l L=>(e= .normal\/e= .ret)/\∃vs L2,qi E l L rs vs/\cz L2 L/\Q (gB vs) L2
theorem fH.body {f:FuncId}{fn:Func}{c:Code}{args:aQ}{Lm:bE}{A:List Nat}{Q:Value->bE->Prop}(hf:E.fn.get f=some fn)(hb:fn.body=some c)(hx:(Nat.beq f X.look||CR X f)=false)(hl:args.length<=fn.ntmps)
  (h:W E X ⟨s,Lm.flatMap It.aY,A⟩ c (V1 0 args) Lm (uW E fn.results.toList Q)):fH E X f args s Lm A Q:=λh1 h2 h3=>by
 refine sr.body hf hb hx hl ((h (l5 args 0 .nil) s (λt v ht=>?_) ⟨λ_ _ _=>rfl,cA _,h1,λx hx b hb=>⟨h2 x hx b hb,.inr (ph.2 ⟨x,hx,hb⟩)⟩,h3,λb hb=>.inl hb,λb hb=>.inl hb,λb hb=>.inl hb,λb hb=>.inl hb⟩).mono ?_)
 .obtain⟨h4,h5⟩:=Qz args 0 t v ht;show lV (T.get _ _)=_;rw[uQ];have h6:t<args.length:=by
   have:=(ug.1 h5).1;omega
  rw[if_pos ⟨h4,ag⟩,h5];rfl
 .rintro e tm s1 ⟨l',L',h4,h5,he,vs,L2,hr,hle,hq⟩;obtain⟨s2,h6,h7⟩:=hr.eval h4 h5;exact⟨he,vs,s2,h6,L2,h7.sub hle,hq⟩
theorem WD.nil {j nx:Nat}{seen:List Sn}(h:K l L):WD E X Γ aB [] j seen nx l L K:=λtm s sn h1 h2 _ h3=>⟨0,tm,s,⟨l,L,h1,h2,h⟩,λ_ _ _ _=>rfl⟩
theorem Inv.clear {s:St}(h:Inv Γ s L):Inv Γ (eF s) L:=by
 cases s
 exact⟨h.fr,h.le,h.it,h.lt,h.nd,λb hb=>absurd hb (by simp[eF,In]),λb hb=>absurd hb (by simp[eF,In]),λb hb=>absurd hb (by simp[eF,In]),λb hb=>absurd hb (by simp[eF,In])⟩
theorem SB {n mask a r:Nat}{R Wr:Fp}{m:Nat}(hr:∀b,In a b->R b/\b<m)(hw:∀b,In r b->Wr b/\b<m):∀{seen:List Sn},kY n mask R Wr seen->∀{sn:List Seen},Sw seen sn n->Ac mask a r sn=true:=by
 intro seen ha sn;have bS:∀x∈seen,Nat.testBit mask x.i=true\/((∀b,b<n->x.W b->¬R b)/\(∀b,b<n->x.R b->¬Wr b)):=by
  induction seen with
  |nil=>intro x hx;cases hx
  |cons y l ih=>
   intro x hx;rcases bR.1 hx with rfl|hx
   .exact ha.1
   .exact ih ha.2 x hx
 intro hs;induction sn with
 |nil=>rfl
 |cons y sn ih=>
  show bo (bo (Nat.beq (Nat.land y.wr a) 0) (Nat.beq (Nat.land y.cO r) 0) false||Nat.testBit mask y.i) (Ac mask a r sn) false=true;rw[ih λz hz=>hs z (lu _ hz)];obtain⟨x,hx,hi,kQ,nU⟩:=hs y iV;have hz:∀p q:Nat,(∀b,In p b->¬In q b)->Nat.beq (Nat.land p q) 0=true:=λp q h=>by
   have:p&&& q=0:=by
    apply Nat.eq_of_testBit_eq;intro i;rw[Nat.testBit_and,Nat.zero_testBit];by_cases h1:p.testBit i=true
    .have:=h i h1;rw[h1,yf];simpa[In] using this
    .simp[h1]
   show Nat.beq (p&&& q) 0=true;rw[this];rfl
  rcases bS x hx with h|⟨h1,h2⟩
  .rw[hi] at h;rw[h,Bool.or_true];rfl
  .rw[hz y.wr a (λb hb lB=>h1 b (nU b hb).2 (nU b hb).1 (hr b lB).1),hz y.cO r (λb hb lB=>h2 b (kQ b hb).2 (kQ b hb).1 (hw b lB).1)];rfl
theorem Sw.le {seen:List Sn}{sn:List Seen}{n m:Nat}(h:Sw seen sn n)(hn:n<=m)(y:Sn):Sw (y::seen) sn m:=λz hz=>by
 obtain⟨x,h1,h2,h3,h4⟩:=h z hz;exact⟨x,lu _ h1,h2,λb hb=>⟨(h3 b hb).1,by have:=(h3 b hb).2;omega⟩,λb hb=>⟨(h4 b hb).1,by have:=(h4 b hb).2;omega⟩⟩
theorem FG.cons {tm:Tm}{s:St}{sn:List Seen}{o:Oper}{j:Nat}{K:Tm->St->Prop}(hw:ie aB tm o.guard=true)(h:fS E X (aM tm) (eF s) o.op λv s'=>∃s2 sn2,FG E X aB aO (j+1) (tm.gY o.dst v) s2 sn2 K/\∀k:St->List Seen->R3,uD aB j s s' sn k=k s2 sn2):FG E X aB (o::aO) j tm s sn K:=by
 obtain⟨N,v,s1,⟨s2,sn2,⟨M,tm3,s3,hk,nG⟩,hd⟩,hr⟩:=h;refine⟨max N M,tm3,s3,hk,λn hn lf hl=>?_⟩;rw[xj,hw,gu,hr n ag lf ag];show uD aB j s s1 sn (λs seen=>tm.put o.dst v λtm=>uE E _ aB aO (Nat.succ j) tm s seen)=_;rw[hd];rw[Tm.put_eq];exact nG n ag lf ag
theorem FG.pass {tm:Tm}{s:St}{sn:List Seen}{o:Oper}{j:Nat}{K:Tm->St->Prop}(hw:ie aB tm o.guard=false)(h:FG E X aB aO (j+1) (tm.gY o.dst (.tuple ⟨[]⟩)) s sn K):FG E X aB (o::aO) j tm s sn K:=by
 obtain⟨M,tm3,s3,hk,nG⟩:=h;refine⟨M,tm3,s3,hk,λn hn lf hl=>?_⟩;rw[xj,hw,eJ,Tm.put_eq];exact nG n hn lf hl
theorem WD.step {o:Oper}{j nx:Nat}{seen:List Sn}{l2:Value->Kn}(hl:∀v tm,mM l tm->mM (l2 v) (tm.gY o.dst v))(hw:Want aB l o.guard true)(h:WO E X Γ l o.op L λv L' n n' R Wr=>n=nx->kY nx ((Region.before ⟨aB⟩).getD j 0) R Wr seen/\WD E X Γ aB aO (j+1) (⟨j,R,Wr⟩::seen) n' (l2 v) L' K):WD E X Γ aB (o::aO) j seen nx l L K:=λtm s sn h1 h2 SC h3=>by
 obtain⟨N,v,s',⟨L',R,Wr,h4,h5,h67⟩,hr⟩:=h tm (eF s) h1 h2.clear;have hcn:(eF s).next=s.next:=by cases s;rfl
 obtain⟨h6,h7⟩:=h67 (by rw[hcn,SC]);subst SC;have kQ:∀b,In s'.cO b->R b/\b<s'.next:=λb hb=>by
  rcases h5.cO b hb with h|h
  .cases s;simp[eF,In] at h
  .exact h
 have nU:∀b,In s'.wr b->Wr b/\b<s'.next:=λb hb=>by
  rcases h5.wr b hb with h|h
  .cases s;simp[eF,In] at h
  .exact h
 have V2:s.next<=s'.next:=by rw[<-hcn];exact h5.nx
 refine FG.cons (hw.eval h1) ⟨N,v,s',?_,hr⟩;obtain⟨hh,nn,a0,r0⟩:=s;obtain⟨hh',V3,a,r⟩:=s';have Qv:Sw (⟨j,R,Wr⟩::seen) sn V3:=h3.le V2 _;by_cases ha:a=0
 .refine⟨⟨hh',V3,a0,r0⟩,sn,?_,λk=>?_⟩
  .refine h7 _ _ _ (hl v tm h1) ?_ rfl Qv;exact⟨h4.fr,h4.le,h4.it,h4.lt,h4.nd,h2.cO,h2.wr,λb hb=>(h2.top b hb).imp id λ(hx:b<nn)=>by have V2:nn<=V3:=V2;show b<V3;omega,λb hb=>(h2.Dg b hb).imp id λ(hx:b<nn)=>by have V2:nn<=V3:=V2;show b<V3;omega⟩
  .show bo (Nat.beq a 0) _ _=_;rw[ha];rfl
 .refine⟨⟨hh',V3,a0||| a,r0||| r⟩,⟨j,a,r⟩::sn,?_,λk=>?_⟩
  .refine h7 _ _ _ (hl v tm h1) ?_ rfl ?_
   .refine⟨h4.fr,h4.le,h4.it,h4.lt,h4.nd,λb hb=>?_,λb hb=>?_,λb hb=>?_,λb hb=>?_⟩
    .rcases(rA _ _ _).1 hb with h|h
     .exact h2.cO b h
     .exact h4.cO b h
    .rcases(rA _ _ _).1 hb with h|h
     .exact h2.wr b h
     .exact h4.wr b h
    .rcases(rA _ _ _).1 hb with h|h
     .exact(h2.top b h).imp id λ(hx:b<nn)=>by have V2:nn<=V3:=V2;show b<V3;omega
     .exact h4.top b h
    .rcases(rA _ _ _).1 hb with h|h
     .exact(h2.Dg b h).imp id λ(hx:b<nn)=>by have V2:nn<=V3:=V2;show b<V3;omega
     .exact h4.Dg b h
   .intro z hz;rcases bR.1 hz with rfl|hz
    .exact⟨_,iV,rfl,kQ,nU⟩
    .exact Qv z hz
  .show bo (Nat.beq a 0) _ (bo (Ac ((Region.before ⟨aB⟩).getD j 0) a r sn) _ none)=_;rw[show Nat.beq a 0=false from V0 ag,SB kQ nU h6 h3];simp only[eJ,gu,Qi];rfl
theorem WD.cons {d:Nat}{o:Oper}{j nx:Nat}{seen:List Sn}(hd:o.dst=some d)(hw:Want aB l o.guard true)(h:WO E X Γ l o.op L λv L' n n' R Wr=>n=nx->kY nx ((Region.before ⟨aB⟩).getD j 0) R Wr seen/\WD E X Γ aB aO (j+1) (⟨j,R,Wr⟩::seen) n' ((d,v)::l) L' K):WD E X Γ aB (o::aO) j seen nx l L K:=
 WD.step (l2:=λv=>(d,v)::l) (λv tm h1=>by rw[hd];exact h1.cons d v) hw h
theorem WD.VW {o:Oper}{j nx:Nat}{seen:List Sn}(hd:o.dst=none)(hw:Want aB l o.guard true)(h:WO E X Γ l o.op L λv L' n n' R Wr=>n=nx->kY nx ((Region.before ⟨aB⟩).getD j 0) R Wr seen/\WD E X Γ aB aO (j+1) (⟨j,R,Wr⟩::seen) n' l L' K):WD E X Γ aB (o::aO) j seen nx l L K:=
 WD.step (l2:=λv=>l) (λv tm h1=>by rw[hd];exact h1) hw h
theorem WD.pass {d:Nat}{o:Oper}{j nx:Nat}{seen:List Sn}(hd:o.dst=some d)(hw:Want aB l o.guard false)(h:WD E X Γ aB aO (j+1) seen nx ((d,.tuple ⟨[]⟩)::l) L K):WD E X Γ aB (o::aO) j seen nx l L K:=λtm s sn h1 h2 SC h3=>by
 exact FG.pass (hw.eval h1) (by rw[hd];exact h _ _ _ (h1.cons d _) h2 SC h3)
end
theorem aU {E:dA}{X:dM}(fn:Func){f:FuncId}{c:Code}{args:aQ}{s:St}{Lm:bE}{A:List Nat}{Q:Value->bE->Prop}(h:W E X ⟨s,Lm.flatMap It.aY,A⟩ c (V1 0 args) Lm (uW E fn.results.toList Q))(hf:E.fn.get f=some fn:=by kernel_rfl)(hb:fn.body=some c:=by exact rfl)(hx:(Nat.beq f X.look||CR X f)=false:=by decide)(hl:args.length<=fn.ntmps:=by exact qF rfl):fH E X f args s Lm A Q:=fH.body hf hb hx hl h
section
variable {k:Kn->bE->Prop}{Q:Aq}{l:Kn}{L:bE}{i id:Nat}
theorem aq (h:k l L):KY Q k .normal l L:=h
theorem Oq (h:Q (.exit i) l L):KY Q k (.exit i) l L:=h
theorem kb (h:Q .ret l L):KY Q k .ret l L:=h
theorem dH (h:Q .normal l L):pc id Q .normal l L:=h
theorem iN (h:Q .ret l L):pc id Q .ret l L:=h
theorem Bh (h:Q .normal l L):pc id Q (.exit id) l L:=by
 show if id=id then Q .normal l L else Q (.exit id) l L
 rw[if_pos rfl];exact h
end
section
variable {E:dA}{X:dM}{Γ:ij}{l:Kn}{L:bE}{aB aO:List Oper}{K:Kn->bE->Prop}{d j dj i nx:Nat}{op:Op}{ty:TypeId}{pos:String}{after:Array Edge}{w t:Bool}{seen:List Sn}
theorem ws (h:WO E X Γ l op L λv L' _ _ _ _=>WS E X Γ aB aO ((d,v)::l) L' K):WS E X Γ aB (⟨some d,op,ty,pos,after,none⟩::aO) l L K:=WS.cons rfl .none h
theorem ws0 (h:WO E X Γ l op L λv L' _ _ _ _=>WS E X Γ aB aO l L' K):WS E X Γ aB (⟨none,op,ty,pos,after,none⟩::aO) l L K:=WS.VW rfl .none h
theorem Ck {b:Bool}(hd:mr aB j=some d)(h:lk l d=some (.bool t))(hb:(if t then w else !w)=b):Want aB l (some (j,w)) b:=by
 subst hb;exact Want.some hd h
theorem wsg (hd:mr aB j=some dj)(hl:lk l dj=some (.bool t))(h1:t=w->WO E X Γ l op L λv L' _ _ _ _=>WS E X Γ aB aO ((d,v)::l) L' K)(h2:t= !w->WS E X Γ aB aO ((d,.tuple ⟨[]⟩)::l) L K):WS E X Γ aB (⟨some d,op,ty,pos,after,some (j,w)⟩::aO) l L K:=by
 by_cases h:t=w
 .exact WS.cons rfl (Ck hd hl (by subst h;cases t<;>rfl)) (h1 h)
 .exact WS.pass rfl (Ck hd hl (by cases t<;>cases w<;>simp_all)) (h2 (by cases t<;>cases w<;>simp_all))
theorem wd (h:WO E X Γ l op L λv L' n n' R Wr=>n=nx->kY nx ((Region.before ⟨aB⟩).getD i 0) R Wr seen/\WD E X Γ aB aO (i+1) (⟨i,R,Wr⟩::seen) n' ((d,v)::l) L' K):WD E X Γ aB (⟨some d,op,ty,pos,after,none⟩::aO) i seen nx l L K:=WD.cons rfl .none h
theorem wd0 (h:WO E X Γ l op L λv L' n n' R Wr=>n=nx->kY nx ((Region.before ⟨aB⟩).getD i 0) R Wr seen/\WD E X Γ aB aO (i+1) (⟨i,R,Wr⟩::seen) n' l L' K):WD E X Γ aB (⟨none,op,ty,pos,after,none⟩::aO) i seen nx l L K:=WD.VW rfl .none h
theorem wdg (hd:mr aB j=some dj)(hl:lk l dj=some (.bool t))(h1:t=w->WO E X Γ l op L λv L' n n' R Wr=>n=nx->kY nx ((Region.before ⟨aB⟩).getD i 0) R Wr seen/\WD E X Γ aB aO (i+1) (⟨i,R,Wr⟩::seen) n' ((d,v)::l) L' K)(h2:t= !w->WD E X Γ aB aO (i+1) seen nx ((d,.tuple ⟨[]⟩)::l) L K):WD E X Γ aB (⟨some d,op,ty,pos,after,some (j,w)⟩::aO) i seen nx l L K:=by
 by_cases h:t=w
 .exact WD.cons rfl (Ck hd hl (by subst h;cases t<;>rfl)) (h1 h)
 .exact WD.pass rfl (Ck hd hl (by cases t<;>cases w<;>simp_all)) (h2 (by cases t<;>cases w<;>simp_all))
end
section
variable {E:dA}{t:TypeId}
noncomputable def agM (E:dA)(t:TypeId):Option Bool:=ob (ja E t) λd=>some (z8 d)
theorem nb (h:agM E t=some false):nN E t:=by
 obtain⟨d,h1,h2⟩:=aC h;exact⟨d,h1,j6 h2⟩
noncomputable def akp (E:dA)(t:TypeId):Option (Bool×Nat):=ob (ja E t) λd=>ob (size E t) λn=>some (z8 d,n)
theorem rE {n:Nat}(h:akp E t=some (true,n)):wm E t n:=by
 obtain⟨d,h1,h2⟩:=aC h;obtain⟨m,h3,h4⟩:=aC h2;have:=j6 h4;simp only[cx] at this;exact⟨d,h1,this.1,by rw[h3,this.2]⟩
noncomputable def akq (E:dA)(t:TypeId)(i:Nat):Option Nat:=ob (ja E t) λd=>match d with
 |.struct ⟨fs⟩=>ob (jb fs i) λf=>ob (size E f.type) λsz=>eg (Nat.ble (nat_lit 1) sz) (some f.offset)
 |_=>none
theorem dL {i off:Nat}(h:akq E t i=some off):iM E t i off:=by
 obtain⟨d,h1,h2⟩:=aC h;split at h2
 .rename_i fs;obtain⟨f,h3,h4⟩:=aC h2;obtain⟨sz,h5,h6⟩:=aC h4;obtain⟨h7,h8⟩:=bp h6;rw[dR] at h3;exact⟨fs,f,sz,h1,h3,h5,qF h7,j6 h8⟩
 .cases h2
noncomputable def akr (E:dA)(t:TypeId):Option (Nat×Nat×aQ):=ob (ja E t) λd=>match d with
 |.slice e=>ob (E.ty.get e) λi=>ob i.zero λv=>eg (Nat.beq (ek (bW v)) i.size&&Nat.ble (nat_lit 1) i.size&&Nat.ble i.bytes (nat_lit 1000000)) (some (e,i.size,bW v))
 |_=>none
theorem tA {e sz:Nat}{z:aQ}(h:akr E t=some (e,sz,z)):uk E t e sz z:=by
 obtain⟨d,h1,h2⟩:=aC h;split at h2
 .rename_i e';obtain⟨i,h3,h4⟩:=aC h2;obtain⟨v,h5,h6⟩:=aC h4;obtain⟨h7,h8⟩:=bp h6;simp only[bU] at h7;have:=j6 h8;simp only[cx] at this;obtain⟨rfl,rfl,rfl⟩:=this;exact⟨h1,i,v,h3,rfl,h5,rfl,by have:=o7 h7.1.1;simpa using this,qF h7.1.2,qF h7.2⟩
 .cases h2
theorem oB {e sz:Nat}{z:aQ}(h:uk E t e sz z):po E t e sz:=by
 obtain⟨h1,i,v,h2,h3,h4,h5,h6,h7,h8⟩:=h.h;exact⟨h1,i,v,h2,h3,h4,by rw[h5,h6],h7,h8⟩
noncomputable def adQ (E:dA)(t:TypeId):Option (aQ):=ob (zero E t) λv=>some (bW v)
theorem kZ {z:aQ}(h:adQ E t=some z):ss E t z:=by
 obtain⟨v,h1,h2⟩:=aC h;exact⟨v,h1,j6 h2⟩
noncomputable def aam (E:dA)(t:TypeId):Option (List (Nat×Nat)×aQ):=ob (ja E t) λd=>match d with
 |.struct ⟨fs⟩=>ob (places E fs) λpl=>ob (zero E t) λv=>some (pl,bW v)
 |_=>none
theorem j2 {pl:List (Nat×Nat)}{z:aQ}(h:aam E t=some (pl,z)):mh E t pl z:=by
 obtain⟨d,h1,h2⟩:=aC h;split at h2
 .rename_i fs;obtain⟨p,h3,h4⟩:=aC h2;obtain⟨v,h5,h6⟩:=aC h4;have:=j6 h6;simp only[cx] at this;exact⟨fs,v,h1,by rw[h3,this.1],h5,this.2⟩
 .cases h2
end
theorem cz.nil (L:bE):cz [] L:=⟨[],.refl _,List.nil_sublist _⟩
theorem cz.cons {x:It}{L R L2:bE}(h:Om x L R)(k:cz L2 R):cz (x::L2) L:=by
 obtain⟨l,hp,hs⟩:=k;induction h generalizing l L2 with
 |here=>exact⟨x::l,hp.cons _,hs.cons_cons _⟩
 |there h ih=>
  rename_i y L R;cases hs with
  |cons _ hs=>
   obtain⟨l',h1,h2⟩:=ih l hp hs;exact⟨l',h1,h2.cons _⟩
  |cons_cons _ hs=>
   rename_i l0;obtain⟨l',h1,h2⟩:=ih (L2:=l0) l0 (.refl _) hs;refine⟨y::l',?_,h2.cons_cons _⟩;exact((h1.cons _).trans (.swap _ _ _)).trans (hp.cons _)
theorem cz.refl (L:bE):cz L L:=⟨L,.refl _,.refl _⟩
class TT (E:dA)(t:TypeId)(e sz:outParam Nat)(α:outParam Type)(enc:outParam (ak α sz)):Prop where
 h:∃z,uk E t e sz z/\∃d:α,ak.cells (sz:=sz) d=z
theorem TT.elem {E:dA}{t e sz:Nat}{α:Type}{enc:ak α sz}(h:TT E t e sz α enc):po E t e sz:=by
 obtain⟨z,h1,_⟩:=h.h;exact oB h1
section
variable {E:dA}{X:dM}{Γ:ij}{l:Kn}{L L' R:bE}{K:KO}{x y:Operand}{v u:Value}{t t2:TypeId}{s s':St}{a a2:aK}{n sz:Nat}{α:Type}{enc:ak α sz}
inductive EvE (l:Kn)(enc:ak α sz):Nat->List (Nat×Operand)->List α->Prop
 |nil {i:Nat}:EvE l enc i [] []
 |cons {i:Nat} {x:Operand} {v:Value} {p:α} {ps:List (Nat×Operand)} {xs:List α} (h:Ev l x v) (hv:bW v=ak.cells (sz:=sz) p) (k:EvE l enc (i+1) ps xs):EvE l enc i ((i,x)::ps) (p::xs)
theorem EvE.vals {ps:List (Nat×Operand)}{xs:List α}{i:Nat}(h:EvE l enc i ps xs):∃vs:List (Nat×Value),Sy l ps vs/\∀(done aO:aQ),done.length=i*sz->aO.length=xs.length*sz->rX (oG sz) vs (done++aO)=some (done++ai (sz:=sz) xs):=by
 induction h with
 |nil=>exact⟨[],.nil,λdone aO h1 h2=>by
   have:aO=[]:=mT (by simpa using h2);subst this;rfl⟩
 |cons h hv k ih=>
  rename_i i x v p ps xs;obtain⟨vs,h1,h2⟩:=ih;refine⟨(i,v)::vs,.cons h h1,λdone aO h3 h4=>?_⟩;show ob (some (Nat.mul i sz,sz)) (λq=>eg (Nat.beq (ek (bW v)) q.2)<| ob (fP q.1 (bW v) (done++aO)) λcs=>rX (oG sz) vs cs)=_;simp only[cr,dh,hv,ak.len,lL];rw[eD];have hr:aO.length=xs.length*sz+sz:=by rw[h4,cY,mK,Nat.one_mul]
  have dK:fP (Nat.mul i sz) (ak.cells (sz:=sz) p) (done++aO)=some (done++ak.cells (sz:=sz) p++aO.drop sz):=by
   have hl:Nat.mul i sz+(ak.cells (sz:=sz) p).length<=(done++aO).length:=by
    rw[ak.len,bJ,h3];show i*sz+sz<=_;omega
   have:∀(k:Nat)(c d:aQ),c.length=k->d.length>=(ak.cells (sz:=sz) p).length->fP k (ak.cells (sz:=sz) p) (c++d)=some (c++ak.cells (sz:=sz) p++d.drop (ak.cells (sz:=sz) p).length):=by
    intro k;induction k with
    |zero=>
     intro c d hc hd;have:c=[]:=mT hc;subst this;show pr _ _=_;rw[Qj,pT,if_pos hd];simp
    |succ k ih=>
     intro c d hc hd;cases c with
     |nil=>simp at hc
     |cons y c=>
      show ob (fP k _ (c++d)) (λr=>some (y::r))=_;rw[ih c d (by simpa using hc) hd];rfl
   have h5:=this (Nat.mul i sz) done aO h3 (by rw[ak.len];omega);rw[ak.len] at h5;exact h5
  rw[dK,cr,h2 (done++ak.cells (sz:=sz) p) (aO.drop sz) (by rw[bJ,ak.len,h3,mK,Nat.one_mul]) (by rw[gd,hr];omega),dE,kG]
theorem WO.lit {m e:Nat}{ps:List (Nat×Operand)}{xs:List α}[ht:TT E t e sz α enc](hp:EvE l enc 0 ps xs)(hm:m=xs.length)(hb:Nat.ble (Nat.mul m sz) 16777216=true)
  (k:∀b,kq L b->K (.slice (some ⟨b,0,none⟩) xs.length m) (.aN (.slice (some ⟨b,0,none⟩) xs.length m) e sz (ai (sz:=sz) xs)::L) b (b+1) (λi=>i=b) (λi=>i=b)):WO E X Γ l (.buildSlice t m ⟨ps⟩) L K:=by
 obtain⟨z,h1,d,h2⟩:=ht.h;obtain⟨vs,h3,h4⟩:=hp.vals;subst hm;refine WO.buildSlice (ht:=h1) hb h3 (cs:=ai (sz:=sz) xs) ?_ (bh _) k;have:=h4 [] (lU z xs.length) (by simp) (by rw[<-h2,Dh,bh];simp);simpa using this
theorem WO.QA {e c c2:Nat}{p q:List α}[ht:TT E t e sz α enc][ht2:TT E t2 e sz α enc](hx:Ev l x (.slice a p.length c))(hy:Ev l y (.slice a2 q.length c2))(hr:Om (.aN (.slice a p.length c) e sz (ai (sz:=sz) p)) L R)(hs:jY Γ L a2 q.length sz (ai (sz:=sz) q))(hn:p.length+q.length<=1000000)
  (k:∀b b' a' c',kq L b->b<=b'->(∀i∈aj a',i∈aj a\/i=b)->K (.slice a' (p++q).length c') (.aN (.slice a' (p++q).length c') e sz (ai (sz:=sz) (p++q))::R) b b' (λi=>i∈aj a2\/i∈aj a\/i=b) (λi=>i∈aj a\/i=b)):WO E X Γ l (.call ⟨.builtin .append,⟨[x,y]⟩,⟨[t,t2]⟩⟩) L K:=by
 obtain⟨z,h1,d,h2⟩:=ht.h;obtain⟨z2,h3,d2,h4⟩:=ht2.h;have hz:z2=z:=by
  obtain⟨_,i,v,h5,_,h6,h7,_⟩:=h1.h;obtain⟨_,i',v',h5',_,h6',NZ,_⟩:=h3.h;rw[h5] at h5';cases h5';rw[h6] at h6';cases h6';rw[<-h7,<-NZ]
 subst hz;refine WO.append (ht:=h1) (ht2:=h3) hx hy hr hs (Ar _) hn λb b' a' c' h5 h5' h6=>?_
 have:=k b b' a' c' h5 h5' h6;rw[rb,bJ] at this;exact this
theorem WO.agO {d:α}{m e:Nat}{k1 k2:IntKind}[ht:TT E t e sz α enc](hd:∀z,uk E t e sz z->ak.cells (sz:=sz) d=z)(hx:Ev l x (.int k1 (m:Int)))(hy:Ev l y (.int k2 (m:Int)))(hm:m<=1000000)
  (k:∀b c,kq L b->K (.slice (some ⟨b,0,none⟩) (List.replicate m d).length c) (.aN (.slice (some ⟨b,0,none⟩) (List.replicate m d).length c) e sz (ai (sz:=sz) (List.replicate m d))::L) b (b+1) (λi=>i=b) (λi=>i=b)):WO E X Γ l (.makeSlice t x y) L K:=by
 obtain⟨z,h1,_⟩:=ht.h;refine WO.makeSlice (ht:=h1) (hd z h1) hx hy hm λb h2=>?_
 have:=k b m h2;rw[ry] at this;exact this
end
section
variable {E:dA}{X:dM}{Γ:ij}{l:Kn}{L:bE}{aB aO:List Oper}{K:Kn->bE->Prop}{d j dj i n nx mask:Nat}{op:Op}{ty:TypeId}{pos:String}{after:Array Edge}{w t:Bool}{seen:List Sn}
theorem aks (hd:mr aB j=some dj)(hl:lk l dj=some (.bool t))(ht:t=w)(h1:WO E X Γ l op L λv L' _ _ _ _=>WS E X Γ aB aO ((d,v)::l) L' K):WS E X Γ aB (⟨some d,op,ty,pos,after,some (j,w)⟩::aO) l L K:=wsg hd hl (λ_=>h1) (λh=>by subst ht;cases t<;>cases h)
theorem akt (hd:mr aB j=some dj)(hl:lk l dj=some (.bool t))(ht:t= !w)(h2:WS E X Γ aB aO ((d,.tuple ⟨[]⟩)::l) L K):WS E X Γ aB (⟨some d,op,ty,pos,after,some (j,w)⟩::aO) l L K:=wsg hd hl (λh=>by subst ht;cases w<;>cases h) (λ_=>h2)
theorem aku (hd:mr aB j=some dj)(hl:lk l dj=some (.bool t))(ht:t=w)(h1:WO E X Γ l op L λv L' n n' R Wr=>n=nx->kY nx ((Region.before ⟨aB⟩).getD i 0) R Wr seen/\WD E X Γ aB aO (i+1) (⟨i,R,Wr⟩::seen) n' ((d,v)::l) L' K):WD E X Γ aB (⟨some d,op,ty,pos,after,some (j,w)⟩::aO) i seen nx l L K:=wdg hd hl (λ_=>h1) (λh=>by subst ht;cases t<;>cases h)
theorem akv (hd:mr aB j=some dj)(hl:lk l dj=some (.bool t))(ht:t= !w)(h2:WD E X Γ aB aO (i+1) seen nx ((d,.tuple ⟨[]⟩)::l) L K):WD E X Γ aB (⟨some d,op,ty,pos,after,some (j,w)⟩::aO) i seen nx l L K:=wdg hd hl (λh=>by subst ht;cases w<;>cases h) (λ_=>h2)
theorem aan {P:Prop}(h:P):kY n mask Z Z seen/\P:=by
 refine⟨?_,h⟩;induction seen with
 |nil=>trivial
 |cons x l ih=>exact⟨.inr ⟨λ_ _ _ h=>h,λ_ _ _ h=>h⟩,ih⟩
theorem SD {R Wr:Fp}{P:Prop}(h:P):kY n mask R Wr []/\P:=⟨trivial,h⟩
theorem Ot {R Wr:Fp}{P:Prop}{k:Nat}(h:kY n mask R Wr seen/\P):kY n mask R Wr (⟨k,Z,Z⟩::seen)/\P:=⟨⟨.inr ⟨λ_ _ h=>h.elim,λ_ _ h=>h.elim⟩,h.1⟩,h.2⟩
theorem K0 {R R':Fp}{P:Prop}{k:Nat}(h:kY n mask R Z seen/\P):kY n mask R Z (⟨k,R',Z⟩::seen)/\P:=⟨⟨.inr ⟨λ_ _ h=>h.elim,λ_ _ _ h=>h⟩,h.1⟩,h.2⟩
theorem I0 {R Wr R' W':Fp}{P:Prop}{k:Nat}(hb:Nat.testBit mask k=true)(h:kY n mask R Wr seen/\P):kY n mask R Wr (⟨k,R',W'⟩::seen)/\P:=⟨⟨.inl hb,h.1⟩,h.2⟩
theorem V4 {R Wr R' W':Fp}{P:Prop}{k:Nat}(h1:∀b,b<n->W' b->¬R b)(h2:∀b,b<n->R' b->¬Wr b)(h:kY n mask R Wr seen/\P):kY n mask R Wr (⟨k,R',W'⟩::seen)/\P:=⟨⟨.inr ⟨h1,h2⟩,h.1⟩,h.2⟩
theorem SE {P:Prop}(h:P):kY n mask (λi=>i=n) (λi=>i=n) seen/\P:=by
 refine⟨?_,h⟩;induction seen with
 |nil=>trivial
 |cons x l ih=>exact⟨.inr ⟨λb h1 _ h2=>by omega,λb h1 _ h2=>by omega⟩,ih⟩
end
section
variable {E:dA}{X:dM}{Γ:ij}{l:Kn}{L:bE}{K:KO}{x y:Operand}{t:TypeId}
theorem WO.min {k:IntKind}{a b:Int}{t2:TypeId}(hx:Ev l x (.int k a))(hy:Ev l y (.int k b))(h:∀n,K (.int k (min a b)) L n n Z Z):WO E X Γ l (.call ⟨.builtin .min,⟨[x,y]⟩,⟨[t,t2]⟩⟩) L K:=WO.val (λtm s call hl=>by
 show ZQ (aM tm x) (aM tm y) s=_;rw[hx.eval hl,hy.eval hl];show eg (pY k k) (aL (.int k (bo (UB b a) b a)) s)=_;rw[uU,eD,rC,dO];unfold aL
 congr 3
 by_cases h:b<a<;>simp[h]<;>omega) h
theorem WO.max {k:IntKind}{a b:Int}{t2:TypeId}(hx:Ev l x (.int k a))(hy:Ev l y (.int k b))(h:∀n,K (.int k (max a b)) L n n Z Z):WO E X Γ l (.call ⟨.builtin .max,⟨[x,y]⟩,⟨[t,t2]⟩⟩) L K:=WO.val (λtm s call hl=>by
 show ZR (aM tm x) (aM tm y) s=_;rw[hx.eval hl,hy.eval hl];show eg (pY k k) (aL (.int k (bo (UB a b) b a)) s)=_;rw[uU,eD,rC,dO];unfold aL
 congr 3
 by_cases h:a<b<;>simp[h]<;>omega) h
theorem WO.conv {k1 k2:IntKind}{n m:Int}{t2:TypeId}[h1:xq E t k1][h2:xq E t2 k2]{k:IntKind}(hx:Ev l x (.int k n))(hm:k2.wrap n=m)(h:∀i,K (.int k2 m) L i i Z Z):WO E X Γ l (.convert t t2 x) L K:=WO.val (λtm s call hl=>by
 show wC E s t t2 (aM tm x)=_;rw[hx.eval hl];unfold wC;rw[h1.h,h2.h];show aL (.int k2 (pX k2 n)) s=_;rw[jU,hm];rfl) h
theorem pA (z:List UInt8)[enc:ak UInt8 1](he:∀c,ak.cells c=[bv c]):strCells z=ai z:=by
 induction z with
 |nil=>rfl
 |cons c z ih=>rw[dE,he,<-ih];rfl
theorem SF (z:List UInt8)[enc:ak UInt8 1](he:∀c,ak.cells c=[bv c]):A7 (ai z)=some z:=by
 induction z with
 |nil=>rfl
 |cons c z ih=>
  rw[dE,he];show eg (Nat.ble (Nat.succ c.toNat) 256) (ob (A7 (ai z)) λr=>some (UInt8.ofNat c.toNat::r))=_;rw[ih,il (show Nat.succ c.toNat<=256 from by have:=c.toNat_lt;omega)];simp[eD]
theorem WO.str {a:aK}{c e:Nat}{p:List UInt8}{t2:TypeId}{enc:ak UInt8 1}[h1:TT E t e 1 UInt8 enc][h2:yP E t2][h3:xq E e .u8](he:∀c,ak.cells c=[bv c])(hx:Ev l x (.slice a p.length c))(hh:jY Γ L a p.length 1 (ai p))(k:∀n,K (sv p) L n n (λi=>i∈aj a) Z):WO E X Γ l (.convert t t2 x) L K:=λtm s hl hi=>by
 obtain⟨z,hr,_⟩:=h1.h;obtain⟨yR,lF⟩:=hh.row hi;refine fS.pure (v:=sv p) (s':=kC s a) (λcall=>?_) ⟨L,(λi=>i∈aj a),Z,hi.kC lF,xu (λb hb=>(lF b hb).1) (λb hb=>hb),by rw[xr];exact k _⟩;show wC E s t t2 (aM tm x)=_;rw[hx.eval hl];unfold wC;rw[hr.h.1,h2.h];show ob (ja E e) (λd=>eg (isByte d)<| NR s a p.length)=_;rw[h3.h];show eg true _=_;rw[eD];obtain⟨h4,h5⟩:=yR;rcases h5 with⟨h5,rfl|⟨b,o,q,rfl,h6⟩⟩|⟨b,o,c',e',w,rfl,h6,h7,h8⟩
 .have:p=[]:=mT h5;subst this;rfl
 .have:p=[]:=mT h5;subst this;rfl
 .show s.row b (λc _ _ s=>ob (iS p.length (dY o c)) λl=>ob (A7 l) λbs=>aL (.string ⟨⟨bs⟩⟩) s)=_;unfold St.row St.look;rw[h7];simp only[cr];rw[sw (m:=p.length) (by simpa using h8) (by simpa using h4),cr,SF p he];rfl
theorem WO.bytes {e:Nat}{z:List UInt8}{t2:TypeId}{enc:ak UInt8 1}[h1:yP E t][h2:TT E t2 e 1 UInt8 enc][h3:xq E e .u8](he:∀c,ak.cells c=[bv c])(hx:Ev l x (sv z))(hz:z.length<=1000000)(k:∀b,kq L b->K (.slice (some ⟨b,0,none⟩) z.length eH) (.box b (ai z) e false::L) b (b+1) (λi=>i=b) (λi=>i=b)):WO E X Γ l (.convert t t2 x) L K:=
 WO.news (mk:=λb=>.slice (some ⟨b,0,none⟩) z.length eH) (ob:=λ_=>.cells (ai z) e false) (it:=λb=>.box b (ai z) e false) (λtm s call hl _=>by
   obtain⟨zz,hr,_⟩:=h2.h;obtain⟨hr1,i,v,nG,hr3,_⟩:=hr.h;show wC E s t t2 (aM tm x)=_;rw[hx.eval hl];unfold wC;rw[hr1,h1.h];show ob (ja E e) (λd=>eg (isByte d)<| ob (size E e) λsz=>eg (Nat.beq sz 1&&Nat.ble (ek z) 1000000)<| aL (bV s (ek z)) (s.new (.cells (strCells z) e false)))=_;rw[h3.h];show eg true _=_;rw[eD];have hs:size E e=some 1:=by unfold size;rw[nG];simp[hr3]
   rw[hs,cr,dh,il hz];show eg true _=_;rw[eD,pA z he];rfl) (λs b h=>h) (λb=>rfl) k
theorem wrap_u8 (c:UInt8):IntKind.wrap .i64 (c.toNat:Int)=(c.toNat:Int):=qh ⟨by have:=c.toNat_lt;omega,by have:=c.toNat_lt;omega⟩
end
section
variable {E:dA}{X:dM}{Γ:ij}{l:Kn}{L:bE}{K:KO}{f:FuncId}{xs:List Operand}{ts:Array TypeId}{vs:aQ}{r:Value}{A:List Nat}
abbrev qj (E:dA)(X:dM)(f:FuncId)(vs:aQ)(s:St)(A:List Nat)(r:Value):Prop:=fH E X f vs s [] A λv L=>v=r/\L=[]
abbrev fa {α:Type}{sz:Nat}[ak α sz](E:dA)(X:dM)(f:FuncId)(vs:aQ)(s:St)(A:List Nat)(e:TypeId)(p:List α):Prop:=fH E X f vs s [] A λv L=>∃a k,v= .slice a p.length k/\L=[.aN v e sz (ai (sz:=sz) p)]
theorem WO.ub (hx:kL l xs vs)(h:∀s,Inv Γ s L->(∀b∈A,Fi Γ s b)/\qj E X f vs s A r)(k:∀m m',kq L m->m<=m'->K r L m m' (λi=>i∈A\/i∈([]:bE).flatMap It.aY\/(m<=i/\i<m')) (λi=>i∈([]:bE).flatMap It.aY\/(m<=i/\i<m'))):WO E X Γ l (.call ⟨.value (.func f),⟨xs⟩,ts⟩) L K:=
 WO.call (Lm:=[]) (R:=L) hx (.refl _) (λs hi=>(h s hi).1) (λs hi=>(h s hi).2) (by rintro v L' m m' ho hm ⟨rfl,rfl⟩;exact k m m' ho hm)
theorem WO.bI (hx:kL l xs vs)(h:∀s,qj E X f vs s [] r)(k:∀m m',kq L m->m<=m'->K r L m m' (λi=>i∈([]:List Nat)\/i∈([]:bE).flatMap It.aY\/(m<=i/\i<m')) (λi=>i∈([]:bE).flatMap It.aY\/(m<=i/\i<m'))):WO E X Γ l (.call ⟨.value (.func f),⟨xs⟩,ts⟩) L K:=
 WO.ub hx (λs _=>⟨(λb hb=>by cases hb),h s⟩) k
theorem WO.K1 {α:Type}{sz:Nat}{enc:ak α sz}{e:TypeId}{p:List α}(hx:kL l xs vs)(h:∀s,Inv Γ s L->(∀b∈A,Fi Γ s b)/\fa E X f vs s A e p)(k:∀m m' a c,kq L m->m<=m'->K (.slice a p.length c) (.aN (.slice a p.length c) e sz (ai (sz:=sz) p)::L) m m' (λi=>i∈A\/i∈([]:bE).flatMap It.aY\/(m<=i/\i<m')) (λi=>i∈([]:bE).flatMap It.aY\/(m<=i/\i<m'))):WO E X Γ l (.call ⟨.value (.func f),⟨xs⟩,ts⟩) L K:=
 WO.call (Lm:=[]) (R:=L) hx (.refl _) (λs hi=>(h s hi).1) (λs hi=>(h s hi).2) (by rintro v L' m m' ho hm ⟨a,c,rfl,rfl⟩;exact k m m' a c ho hm)
theorem WO.I1 {α:Type}{sz:Nat}{enc:ak α sz}{e:TypeId}{p:List α}(hx:kL l xs vs)(h:∀s,fa E X f vs s [] e p)(k:∀m m' a c,kq L m->m<=m'->K (.slice a p.length c) (.aN (.slice a p.length c) e sz (ai (sz:=sz) p)::L) m m' (λi=>i∈([]:List Nat)\/i∈([]:bE).flatMap It.aY\/(m<=i/\i<m')) (λi=>i∈([]:bE).flatMap It.aY\/(m<=i/\i<m'))):WO E X Γ l (.call ⟨.value (.func f),⟨xs⟩,ts⟩) L K:=
 WO.K1 hx (λs _=>⟨(λb hb=>by cases hb),h s⟩) k
theorem WO.adR {a:aK}{n sz:Nat}{cs:aQ}(hx:kL l xs vs)(hh:jY Γ L a n sz cs)(h:∀s,bO s a n sz cs->qj E X f vs s (aj a) r)(k:∀m m',kq L m->m<=m'->K r L m m' (λi=>i∈aj a\/i∈([]:bE).flatMap It.aY\/(m<=i/\i<m')) (λi=>i∈([]:bE).flatMap It.aY\/(m<=i/\i<m'))):WO E X Γ l (.call ⟨.value (.func f),⟨xs⟩,ts⟩) L K:=
 WO.ub hx (λs hi=>⟨(hh.row hi).2,h s (hh.row hi).1⟩) k
theorem WO.adS {a:aK}{n Sx:Nat}{cs:aQ}{α:Type}{sz:Nat}{enc:ak α sz}{e:TypeId}{p:List α}(hx:kL l xs vs)(hh:jY Γ L a n Sx cs)(h:∀s,bO s a n Sx cs->fa E X f vs s (aj a) e p)(k:∀m m' a' c,kq L m->m<=m'->K (.slice a' p.length c) (.aN (.slice a' p.length c) e sz (ai (sz:=sz) p)::L) m m' (λi=>i∈aj a\/i∈([]:bE).flatMap It.aY\/(m<=i/\i<m')) (λi=>i∈([]:bE).flatMap It.aY\/(m<=i/\i<m'))):WO E X Γ l (.call ⟨.value (.func f),⟨xs⟩,ts⟩) L K:=
 WO.K1 hx (λs hi=>⟨(hh.row hi).2,h s (hh.row hi).1⟩) k
theorem Rd.of {s:St}{a:aK}{n sz:Nat}{cs:aQ}{A:List Nat}(h:bO s a n sz cs)(hA:∀b∈aj a,b∈A):Rd ⟨s,([]:bE).flatMap It.aY,A⟩ a n sz cs:=⟨h,hA,λ_ _ h=>by cases h⟩
theorem K2 {n n' mask:Nat}{seen:List Sn}{P:Prop}(h:P):kY n mask (λi=>i∈([]:List Nat)\/i∈([]:bE).flatMap It.aY\/(n<=i/\i<n')) (λi=>i∈([]:bE).flatMap It.aY\/(n<=i/\i<n')) seen/\P:=by
 refine⟨?_,h⟩;induction seen with
 |nil=>trivial
 |cons x l ih=>exact⟨.inr ⟨λb h1 _ h2=>by simp at h2;omega,λb h1 _ h2=>by simp at h2;omega⟩,ih⟩
end
section
variable {E:dA}{X:dM}{Γ:ij}{l:Kn}{L:bE}{Q:Aq}{a b:Code}{x:Operand}{t:Bool}
theorem W.agP (hx:Ev l x (.bool t))(ht:t=true)(h:W E X Γ a l L Q):W E X Γ (.cond x a b) l L Q:=W.cond hx (λ_=>h) (λh'=>by rw[ht] at h';cases h')
theorem W.agQ (hx:Ev l x (.bool t))(ht:t=false)(h:W E X Γ b l L Q):W E X Γ (.cond x a b) l L Q:=W.cond hx (λh'=>by rw[ht] at h';cases h') (λ_=>h)
theorem WO.akw {y:Operand}{t t2:TypeId}{K:KO}{a b:Bool}[h:VX E t](hx:Ev l x (.bool a))(hy:Ev l y (.bool b))(k:∀n,K (.bool (a== b)) L n n Z Z):WO E X Γ l (.binOp .eql t x y t2) L K:=WO.bin hx hy (λcc=>by
 show ob (ja E t) (λd=>CM .eql (ZN E d (.bool a) (.bool b)))=_;rw[h.h];rfl) k
theorem WO.akx {y:Operand}{t t2:TypeId}{K:KO}{a b:Bool}[h:VX E t](hx:Ev l x (.bool a))(hy:Ev l y (.bool b))(k:∀n,K (.bool (a != b)) L n n Z Z):WO E X Γ l (.binOp .neq t x y t2) L K:=WO.bin hx hy (λcc=>by
 show ob (ja E t) (λd=>CM .neq (ZN E d (.bool a) (.bool b)))=_;rw[h.h];rfl) k
theorem I2 {t:TypeId}{xs:aQ}{ks:List Nat}:∀{l:List (TypeId×List Nat)},(t,ks)∈l->eV xs ks=true->yn t xs l=true
 |p::l,h,hk=>by
  show bo (bo (Nat.beq t p.1) (eV xs p.2) false) true (yn t xs l)=true;rcases bR.1 h with h|h
  .subst h;rw[lL,hk];rfl
  .rw[I2 h hk];cases bo (Nat.beq t p.1) (eV xs p.2) false<;>rfl
theorem WO.agR {y:Operand}{t t2:TypeId}{K:KO}{xs ys:aQ}{ks:List Nat}[h:TEq E t ks]{r:Bool}(hx:Ev l x (.agg ⟨xs⟩))(hy:Ev l y (.agg ⟨ys⟩))(hk:eV xs ks=true)(hr:fO xs ys=some r)(k:∀n,K (.bool r) L n n Z Z):WO E X Γ l (.binOp .eql t x y t2) L K:=WO.bin hx hy (λcc=>by
 show eg (yn t xs E.eqs) (CM .eql (fO xs ys))=_;rw[I2 h.h hk,eD,hr];rfl) k
theorem WO.adT {y:Operand}{t t2:TypeId}{K:KO}{xs ys:aQ}{ks:List Nat}[h:TEq E t ks]{r:Bool}(hx:Ev l x (.agg ⟨xs⟩))(hy:Ev l y (.agg ⟨ys⟩))(hk:eV xs ks=true)(hr:fO xs ys=some r)(k:∀n,K (.bool !r) L n n Z Z):WO E X Γ l (.binOp .neq t x y t2) L K:=WO.bin hx hy (λcc=>by
 show eg (yn t xs E.eqs) (CM .neq (fO xs ys))=_;rw[I2 h.h hk,eD,hr];rfl) k
end
theorem Au {n:Int}(h:0<=n/\n<=255):IntKind.wrap .u8 n=n:=by
 refine' zaO
section
variable {E:dA}{X:dM}{Γ:ij}{l:Kn}{L:bE}{K:KO}{x y:Operand}{t t2:TypeId}{a b:Int}
theorem WO.aky (hx:Ev l x (.int .u8 a))(hy:Ev l y (.int .u8 b))(hf:0<=a-b/\a-b<=255)(h:∀n,K (.int .u8 (a-b)) L n n Z Z):WO E X Γ l (.binOp .sub t x y t2) L K:=WO.bin hx hy (λcc=>by
 show some (Value.int .u8 (pX .u8 (a-b)))=_;rw[jU,Au hf]) h
end
section
variable {E:dA}{X:dM}{Γ:ij}{l:Kn}{L:bE}{Q:Aq}{a:Code}{id:Nat}
def QB (id:Nat)(Q:Aq)(I V5:Kn->bE->Prop):Aq
 |.normal,l,L=>I l L
 |.exit i,l,L=>if i=id then V5 l L else pc id Q (.exit i) l L
 |.ret,l,L=>pc id Q .ret l L
variable {I V5:Kn->bE->Prop}
theorem eB (h:I l L):QB id Q I V5 .normal l L:=h
theorem ke (h:pc id Q .ret l L):QB id Q I V5 .ret l L:=h
theorem Ou (h:V5 l L):QB id Q I V5 (.exit id) l L:=by
 show if id=id then V5 l L else pc id Q (.exit id) l L
 rw[if_pos rfl];exact h
theorem W.bN (I:Nat->Kn->bE->Prop)(V5:Kn->bE->Prop)(k:Nat)(h0:I k l L)(step:∀k l L,I k l L->W E X Γ a l L (QB id Q (λl L=>∃j,j<k/\I j l L) V5))(h:∀l L,V5 l L->Q .normal l L):W E X Γ (.loop a) l L (pc id Q):=
 W.loop I k h0 λk l L hI=>(step k l L hI).mono λe l L hq=>by
   cases e with
   |normal=>exact hq
   |ret=>exact hq
   |exit i=>
    show pc id Q (.exit i) l L;have hq:if i=id then V5 l L else pc id Q (.exit i) l L:=hq
    by_cases hi:i=id
    .subst hi;rw[if_pos rfl] at hq;exact Bh (h l L hq)
    .rw[if_neg hi] at hq;exact hq
end
theorem WO.agS {E:dA}{X:dM}{Γ:ij}{l:Kn}{L:bE}{K:KO}{x:Operand}{t t2:TypeId}{n:Int}[h1:xq E t .i64][h2:xq E t2 .u8](hx:Ev l x (iv n))(hn:0<=n/\n<=255)(h:∀i,K (bv (UInt8.ofNat n.toNat)) L i i Z Z):WO E X Γ l (.convert t t2 x) L K:=by
 refine WO.conv (h1:=h1) (h2:=h2) (k:=.i64) hx (Au hn) λi=>?_
 have:=h i;unfold bv at this;have h3:(((UInt8.ofNat n.toNat).toNat:Nat):Int)=n:=by
  rw[UInt8.toNat_ofNat_of_lt' (by show _<256;omega)];omega
 rw[h3] at this;exact this
noncomputable def QC (bM:Nat->Option (Nat×Nat)):List (Nat×Value)->aQ->Option (aQ)
 |[],cells=>some cells
 |(i,v)::l,cells=>match bM i with
  |none=>none
  |some (o,n)=>match Nat.beq (ek (bW v)) n with
   |false=>none
   |true=>match fP o (bW v) cells with
    |none=>none
    |some cs=>QC bM l cs
termination_by structural l=>l
theorem K3 (bM:Nat->Option (Nat×Nat)):∀(l:List (Nat×Value))(cells:aQ),rX bM l cells=QC bM l cells
 |[],cells=>rfl
 |(i,v)::l,cells=>by
  show ob (bM i) (λq=>eg (Nat.beq (ek (bW v)) q.2)<| ob (fP q.1 (bW v) cells) λcs=>rX bM l cs)=_;unfold QC;cases bM i with
  |none=>rfl
  |some q=>
   obtain⟨o,n⟩:=q;simp only[cr];cases Nat.beq (ek (bW v)) n with
   |false=>rfl
   |true=>
    rw[eD];cases fP o (bW v) cells with
    |none=>rfl
    |some cs=>exact K3 bM l cs
theorem WO.adU {E:dA}{X:dM}{Γ:ij}{l:Kn}{L:bE}{K:KO}{t:TypeId}{cs:aQ}{ps:List (Nat×Operand)}{vs:List (Nat×Value)}{pl:List (Nat×Nat)}{z:aQ}[ht:mh E t pl z](hp:Sy l ps vs)(hf:QC (jb pl) vs z=some cs)(k:∀n,K (.agg ⟨cs⟩) L n n Z Z):WO E X Γ l (.build t ⟨ps⟩) L K:=WO.build hp (by rw[K3];exact hf) k
section
variable {E:dA}{X:dM}{Γ:ij}{l:Kn}{L:bE}{K:KO}{f:FuncId}{xs:List Operand}{ts:Array TypeId}{vs:aQ}{A:List Nat}
abbrev kr {α:Type}{sz:Nat}[ak α sz](E:dA)(X:dM)(f:FuncId)(vs:aQ)(s:St)(A:List Nat)(e:TypeId)(p:List α)(b:Bool):Prop:=fH E X f vs s [] A λv L=>∃a k,v= .tuple ⟨[.slice a p.length k,.bool b]⟩/\L=[.aN (.slice a p.length k) e sz (ai (sz:=sz) p)]
theorem WO.V6 {α:Type}{sz:Nat}{enc:ak α sz}{e:TypeId}{p:List α}{b:Bool}(hx:kL l xs vs)(h:∀s,Inv Γ s L->(∀b∈A,Fi Γ s b)/\kr E X f vs s A e p b)(k:∀m m' a c,kq L m->m<=m'->K (.tuple ⟨[.slice a p.length c,.bool b]⟩) (.aN (.slice a p.length c) e sz (ai (sz:=sz) p)::L) m m' (λi=>i∈A\/i∈([]:bE).flatMap It.aY\/(m<=i/\i<m')) (λi=>i∈([]:bE).flatMap It.aY\/(m<=i/\i<m'))):WO E X Γ l (.call ⟨.value (.func f),⟨xs⟩,ts⟩) L K:=
 WO.call (Lm:=[]) (R:=L) hx (.refl _) (λs hi=>(h s hi).1) (λs hi=>(h s hi).2) (by rintro v L' m m' ho hm ⟨a,c,rfl,rfl⟩;exact k m m' a c ho hm)
theorem WO.yS {α:Type}{sz:Nat}{enc:ak α sz}{e:TypeId}{p:List α}{b:Bool}(hx:kL l xs vs)(h:∀s,kr E X f vs s [] e p b)(k:∀m m' a c,kq L m->m<=m'->K (.tuple ⟨[.slice a p.length c,.bool b]⟩) (.aN (.slice a p.length c) e sz (ai (sz:=sz) p)::L) m m' (λi=>i∈([]:List Nat)\/i∈([]:bE).flatMap It.aY\/(m<=i/\i<m')) (λi=>i∈([]:bE).flatMap It.aY\/(m<=i/\i<m'))):WO E X Γ l (.call ⟨.value (.func f),⟨xs⟩,ts⟩) L K:=
 WO.V6 hx (λs _=>⟨(λb hb=>by cases hb),h s⟩) k
end
section
variable {E:dA}{l:Kn}{L:bE}{rs:List ResultVar}{x:Ex}{a:aK}{k e sz:Nat}{α:Type}{enc:ak α sz}{p q:List α}{b b':Bool}{v r:Value}
theorem akz (hx:x= .normal\/x= .ret)(hr:qi E l L rs [.slice a q.length k])(hL:cz [.aN (.slice a q.length k) e sz (ai (sz:=sz) q)] L)(h:p=q):uW E rs (λv L=>∃a k,v= .slice a p.length k/\L=[.aN v e sz (ai (sz:=sz) p)]) x l L:=by
 subst h;exact⟨hx,_,_,hr,hL,a,k,rfl,rfl⟩
theorem GR (hx:x= .normal\/x= .ret)(hr:qi E l L rs [.slice a q.length k,.bool b'])(hL:cz [.aN (.slice a q.length k) e sz (ai (sz:=sz) q)] L)(h:p=q)(hb:b=b'):uW E rs (λv L=>∃a k,v= .tuple ⟨[.slice a p.length k,.bool b]⟩/\L=[.aN (.slice a p.length k) e sz (ai (sz:=sz) p)]) x l L:=by
 subst h;subst hb;exact⟨hx,_,_,hr,hL,a,k,rfl,rfl⟩
end
theorem Rd.lt {Γ:ij}{a:aK}{n sz:Nat}{cs:aQ}(h:Rd Γ a n sz cs):∀b∈aj a,b<Γ.s0.next:=λb hb=>by
 rcases h.row.2 with⟨_,rfl|⟨b',o,q,rfl,h1⟩⟩|⟨b',o,c,e,w,rfl,h1,_⟩
 .cases hb
 .have:b=b':=by simpa[aj] using hb
  subst this;exact h1
 .have:b=b':=by simpa[aj] using hb
  subst this;exact h1
theorem tC (a:aK)(n c:Nat):na (.slice a n c)=aj a:=by cases a<;>rfl
section
variable {E:dA}{X:dM}{Γ:ij}{l:Kn}{L:bE}{K:KO}{x o:Operand}{t:TypeId}{p:List UInt8}{i j:Nat}{k:IntKind}
theorem WO.V7 [ht:yP E t](hx:Ev l x (sv p))(ho:Ev l o (.int k (i:Int)))(hi:i<=p.length)(h:∀n,K (sv (p.drop i)) L n n Z Z):WO E X Γ l (.slice t x (some o) none none) L K:=
 WO.IZ hx (.inr ⟨o,k,rfl,ho⟩) (.inl ⟨rfl,rfl⟩) hi (cA _) (by rw[qG (by simp)];exact h)
theorem WO.V8 [ht:yP E t](hx:Ev l x (sv p))(ho:Ev l o (.int k (j:Int)))(hj:j<=p.length)(h:∀n,K (sv (p.take j)) L n n Z Z):WO E X Γ l (.slice t x none (some o) none) L K:=
 WO.IZ (i:=0) hx (.inl ⟨rfl,rfl⟩) (.inr ⟨o,k,rfl,ho⟩) (iJ _) hj (by rw[CB,Nat.sub_zero];exact h)
end
section
variable {E:dA}{X:dM}{Γ:ij}{l:Kn}{L:bE}{aB aO:List Oper}{K:Kn->bE->Prop}{d j dj i nx:Nat}{op:Op}{ty:TypeId}{pos:String}{after:Array Edge}{w:Bool}{seen:List Sn}
theorem akA (hd:mr aB j=some dj)(hl:lk l dj=some (.tuple ⟨[]⟩))(h2:WS E X Γ aB aO ((d,.tuple ⟨[]⟩)::l) L K):WS E X Γ aB (⟨some d,op,ty,pos,after,some (j,w)⟩::aO) l L K:=WS.pass rfl (.undef hd hl) h2
theorem akB (hd:mr aB j=some dj)(hl:lk l dj=some (.tuple ⟨[]⟩))(h2:WD E X Γ aB aO (i+1) seen nx ((d,.tuple ⟨[]⟩)::l) L K):WD E X Γ aB (⟨some d,op,ty,pos,after,some (j,w)⟩::aO) i seen nx l L K:=WD.pass rfl (.undef hd hl) h2
end
theorem WO.xv {E:dA}{X:dM}{Γ:ij}{l:Kn}{L:bE}{K:KO}{x:Operand}{t:TypeId}{a:aK}{n sz:Nat}{α:Type}{enc:ak α sz}{p:List α}{i c e:Nat}{k:IntKind}{j:Int}[ht:po E t e sz](hx:Ev l x (.slice a n c))(hj:j=(i:Int))(hh:jY Γ L a n sz (ai (sz:=sz) p))(hi:i<p.length)(hk:∀n,K (de a i sz 0) L n n Z Z):WO E X Γ l (.indexAddr t x (.const (.int k j))) L K:=by
 subst hj;exact WO.indexAddr hx .const hh hi hk
section
variable {E:dA}{X:dM}{Γ:ij}{l:Kn}{L:bE}{K:KO}{x y o o':Operand}{t:TypeId}{p:List UInt8}{j j':Int}{k k':IntKind}
theorem nZ (h:Ev l y (.int k j))(hj:0<=j):Ev l y (.int k ((j.toNat:Nat):Int)):=by rw[yi hj];exact h
theorem WO.adV [ht:yP E t](hx:Ev l x (sv p))(hy:Ev l y (.int k j))(hj:0<=j/\j<p.length)(h:∀n,K (bv (p.getD j.toNat 0)) L n n Z Z):WO E X Γ l (.index t x y) L K:=WO.index hx (nZ hy hj.1) ag h
theorem WO.aao [ht:yP E t](hx:Ev l x (sv p))(ho:Ev l o (.int k j))(hj:0<=j/\j<=p.length)(h:∀n,K (sv (p.drop j.toNat)) L n n Z Z):WO E X Γ l (.slice t x (some o) none none) L K:=WO.V7 hx (nZ ho hj.1) ag h
theorem WO.aap [ht:yP E t](hx:Ev l x (sv p))(ho:Ev l o (.int k j))(hj:0<=j/\j<=p.length)(h:∀n,K (sv (p.take j.toNat)) L n n Z Z):WO E X Γ l (.slice t x none (some o) none) L K:=WO.V8 hx (nZ ho hj.1) ag h
theorem WO.aaq [ht:yP E t](hx:Ev l x (sv p))(ho:Ev l o (.int k j))(A9:Ev l o' (.int k' j'))(hj:0<=j/\j<=j'/\j'<=p.length)(h:∀n,K (sv ((p.drop j.toNat).take (j'.toNat-j.toNat))) L n n Z Z):WO E X Γ l (.slice t x (some o) (some o') none) L K:=WO.IZ hx (.inr ⟨o,k,rfl,nZ ho hj.1⟩) (.inr ⟨o',k',rfl,nZ A9 ag⟩) ag ag h
theorem WO.Ov {a:aK}{n sz:Nat}{α:Type}{enc:ak α sz}{q:List α}{c e:Nat}[ht:po E t e sz](hx:Ev l x (.slice a n c))(hy:Ev l y (.int k j))(hh:jY Γ L a n sz (ai (sz:=sz) q))(hi:0<=j/\j<q.length)(hk:∀n,K (de a j.toNat sz 0) L n n Z Z):WO E X Γ l (.indexAddr t x y) L K:=WO.indexAddr hx (nZ hy hi.1) hh ag hk
end
class TD (E:dA)(t:TypeId)(sz:Nat)(α:Type)(enc:ak α sz)(d:outParam α):Prop where
 h:∃e z,uk E t e sz z/\ak.cells (sz:=sz) d=z
section
variable {E:dA}{X:dM}{Γ:ij}{l:Kn}{L:bE}{K:KO}{x y:Operand}{t:TypeId}{sz:Nat}{α:Type}{enc:ak α sz}
theorem WO.make {d:α}{j:Int}{e:Nat}{k1 k2:IntKind}[ht:TT E t e sz α enc][hd:TD E t sz α enc d](hx:Ev l x (.int k1 j))(hy:Ev l y (.int k2 j))(hm:0<=j/\j<=1000000)
  (k:∀b c,kq L b->K (.slice (some ⟨b,0,none⟩) (List.replicate j.toNat d).length c) (.aN (.slice (some ⟨b,0,none⟩) (List.replicate j.toNat d).length c) e sz (ai (sz:=sz) (List.replicate j.toNat d))::L) b (b+1) (λi=>i=b) (λi=>i=b)):WO E X Γ l (.makeSlice t x y) L K:=by
 refine WO.agO (m:=j.toNat) (d:=d) (λz hz=>?_) (nZ hx hm.1) (nZ hy hm.1) ag k;obtain⟨e',z',h1,h2⟩:=hd.h;obtain⟨h3,i,v,h4,_,h5,h6,_⟩:=h1.h;obtain⟨SG,i',v',h4',_,h5',h6',_⟩:=hz.h;have he:e'=e:=by
  have:=h3.symm.trans SG
  injection this with this
  injection this
 subst he;rw[h4] at h4';cases h4';rw[h5] at h5';cases h5';rw[h2,<-h6,h6']
end
theorem pL (a b:UInt8):(a<b)↔a.toNat<b.toNat:=RJ
theorem qk:∀p q:List UInt8,(!(Op.bytesLess p q||decide (p=q)))=Op.bytesLess q p
 |[],[]=>by simp[Op.bytesLess]
 |[],_::_=>by simp[Op.bytesLess]
 |_::_,[]=>by simp[Op.bytesLess]
 |a::p,b::q=>by
  have ih:=qk p q;have hd:decide (a::p=b::q)=(decide (a=b)&&decide (p=q)):=by
   by_cases h1:a=b<;>by_cases h2:p=q<;>simp[h1,h2]
  rw[hd];show(!((decide (a<b)||(a== b&&Op.bytesLess p q))||(decide (a=b)&&decide (p=q))))=(decide (b<a)||(b== a&&Op.bytesLess q p));rw[<-ih];by_cases h:a=b
  .subst h;have:¬(a<a):=by rw[pL];omega
   simp[this]
  .have h':¬b=a:=λe=>h e.symm
   have fK:a.toNat≠b.toNat:=λe=>h (w6.1 e)
   have h1:(a== b)=false:=by simpa using h
   have h2:(b== a)=false:=by simpa using h'
   by_cases h3:a<b
   .have:¬b<a:=by rw[pL] at *;omega
    simp[h,h1,h2,h3,this]
   .have:b<a:=by rw[pL] at *;omega
    simp[h,h1,h2,h3,this]
section
variable {E:dA}{X:dM}{Γ:ij}{l:Kn}{L L' R:bE}{K:KO}{x y:Operand}{v u:Value}{t t2:TypeId}{s s':St}{a:aK}{n sz:Nat}{cs:aQ}{p q:List UInt8}
theorem WO.akC (hx:Ev l x (sv p))(hy:Ev l y (sv q))(h:∀n,K (.bool (Op.bytesLess q p)) L n n Z Z):WO E X Γ l (.binOp .gtr t x y t2) L K:=WO.bin hx hy (λcc=>by
 show some (Value.bool (!(bo (ot p q) true (gp p q))))=_;rw[s8,eR,<-qk p q];have:∀a b:Bool,bo a true b=(a||b):=by intro a b;cases a<;>rfl
 rw[this]
 congr 4
 rw[oZ];simp) h
end
def QD (a:aK)(k:Nat):aK:=match a with
 |some ⟨b,o,none⟩=>some ⟨b,o+k,none⟩
 |a=>a
structure Dl (sz:Nat)(a:aK)(i n:Nat)(a':aK):Prop where
 h:a'=QD a (i*sz)\/(n=0/\(a'=a\/∃b o o' r,a=some ⟨b,o,none⟩/\a'=some ⟨b,o',some r⟩))
structure Sub {α:Type}(sz:Nat)(a:aK)(p:List α)(a':aK)(q:List α):Prop where
 h:∃i n,q=(p.drop i).take n/\i+n<=p.length/\Dl sz a i n a'
theorem aar {a:aK}{k:Nat}:aj (QD a k)=aj a:=by
 unfold QD;split<;>rfl
theorem Dl.aY {sz i n:Nat}{a a':aK}(h:Dl sz a i n a'):aj a'=aj a:=by
 rcases h.h with rfl|⟨_,rfl|⟨b,o,o',r,rfl,rfl⟩⟩
 .exact aar
 .rfl
 .rfl
section
variable {α:Type}{sz:Nat}{enc:ak α sz}{p q:List α}{a a':aK}{s:St}
theorem Sub.aY (h:Sub sz a p a' q):aj a'=aj a:=by
 obtain⟨_,_,_,_,h⟩:=h.h;exact h.aY
theorem bO.sub (h:bO s a p.length sz (ai (sz:=sz) p))(hs:Sub sz a p a' q):bO s a' q.length sz (ai (sz:=sz) q):=by
 obtain⟨i,n,rfl,Iw,hs⟩:=hs.h;refine⟨bh _,?_⟩;have c8:((p.drop i).take n).length=n:=by rw[cZ,gd];omega
 rcases hs.h with rfl|⟨rfl,rfl|⟨b,o,o',r,rfl,rfl⟩⟩
 .rcases h.2 with⟨h0,rfl|⟨b,o,r,rfl,hb⟩⟩|⟨b,o,c,e,w,rfl,h1,h2,h3⟩
  .exact .inl ⟨ag,.inl rfl⟩
  .exact .inl ⟨ag,.inr ⟨b,o,r,rfl,hb⟩⟩
  .refine .inr ⟨b,o+i*sz,c,e,w,rfl,h1,h2,?_⟩;rw[c8,<-pK,<-su,<-h3,List.drop_take,NO,mm]
   congr 1
   have:n*sz<=p.length*sz-i*sz:=by rw[<-Nat.sub_mul];exact Kc _ ag
   omega
 .rcases h.2 with⟨h0,h1⟩|⟨b,o,c,e,w,rfl,h1,h2,h3⟩
  .exact .inl ⟨by simp,h1⟩
  .exact .inr ⟨b,o,c,e,w,rfl,h1,h2,by simp[ai]⟩
 .refine .inl ⟨by simp,.inr ⟨b,o',r,rfl,?_⟩⟩;rcases h.2 with⟨h0,h1|⟨b,o,r,h1,hb⟩⟩|⟨b,o,c,e,w,h1,h2,h3,h4⟩
  .cases h1
  .cases h1
  .cases h1;exact h2
end
def FH (s:St)(a:aK)(n c e sz:Nat):Prop:=(a=none/\n=0/\c=0)\/∃b o cs w,a=some ⟨b,o,none⟩/\b<s.next/\s.heap.get b=some (.cells cs e w)/\((n<=c/\c<eH)\/(w=true/\eH<=c/\o=(c-eH)*sz/\o+n*sz<=cs.length))
theorem yN.slv {s:St}{a:aK}{n c e sz:Nat}{cs:aQ}(h:yN s (.slice a n c) e sz cs)(hb:∀b∈aj a,b<s.next):FH s a n c e sz:=by
 rcases h with⟨h1,rfl⟩|⟨b,m,k,w,h1,h2,h3,h4⟩
 .cases h1;exact .inl ⟨rfl,rfl,rfl⟩
 .cases h1
  refine .inr ⟨b,0,cs,w,rfl,hb b (by simp[aj]),h2,?_⟩;rcases h4 with⟨rfl,h4⟩|⟨rfl,h4⟩
  .exact .inl ⟨cA _,h4⟩
  .exact .inr ⟨h4,cA _,by simp,by rw[h3];omega⟩
section
variable {E:dA}{X:dM}{Γ:ij}{l:Kn}{L L' R:bE}{K:KO}{x y o o':Operand}{t:TypeId}{s s':St}{a:aK}{n c sz e:Nat}{α:Type}{enc:ak α sz}{p:List α}
structure V9 (l:Kn)(len:Nat)(lo hi:Option Operand)(i j:Nat):Prop where
 lo:(lo=none/\i=0)\/∃o k,lo=some o/\Ev l o (.int k (i:Int))
 hi:(hi=none/\j=len)\/∃o k,hi=some o/\Ev l o (.int k (j:Int))
 h:i<=j/\j<=len
theorem pM {β:Type}{tm:Tm}{lo hi:Option Operand}{i j len cap:Nat}(h:V9 l len lo hi i j)(hl:mM l tm)(hc:len<=cap)(k:Nat->Nat->Nat->Option β):bounds len cap (dB (aM tm) lo) (dB (aM tm) hi) none k=k i j cap:=by
 have h1:hiV len cap (dB (aM tm) hi) none=some j:=by
  rcases h.hi with⟨rfl,rfl⟩|⟨o,k,rfl,ho⟩
  .rfl
  .show pw (aM tm o) cap=_;rw[ho.eval hl];show bo (Nat.ble j cap) (some j) none=_;rw[il (by have:=h.h;omega)];rfl
 have h2:RO (dB (aM tm) lo) j 0=some i:=by
  rcases h.lo with⟨rfl,rfl⟩|⟨o,k,rfl,ho⟩
  .rfl
  .show pw (aM tm o) j=_;rw[ho.eval hl];show bo (Nat.ble i j) (some i) none=_;rw[il h.h.1];rfl
 show ob (some cap) (λm=>ob (hiV len m (dB (aM tm) hi) none) λh=>ob (RO (dB (aM tm) lo) h 0) λl=>k l h m)=_;simp only[cr,h1,h2]
theorem K4 {tm:Tm}{lo hi:Option Operand}{i j len:Nat}(h:V9 l len lo hi i j)(hl:mM l tm)(hz:nO (dB (aM tm) lo) (dB (aM tm) hi) none=true):i=0/\j=0:=by
 obtain⟨h1,h2,h3,_⟩:=h;rcases h1 with⟨rfl,rfl⟩|⟨o,k,rfl,ho⟩
 .rcases h2 with⟨rfl,rfl⟩|⟨o,k,rfl,ho⟩
  .cases hz
  .simp only[dB,ho.eval hl] at hz;cases j with
   |zero=>exact⟨rfl,rfl⟩
   |succ j=>cases hz
 .exact absurd hz (by show ¬(nO (some _) _ _=true);simp[nO])
theorem Cl [ht:TT E t e sz α enc]{tm:Tm}{lo hi:Option Operand}{i j:Nat}(h:V9 l n lo hi i j)(hl:mM l tm)(hv:FH s a n c e sz):
  ∃a' c' s',kj E s t (.slice a n c) (dB (aM tm) lo) (dB (aM tm) hi) none=some (.slice a' (j-i) c',s')/\(s'=s\/∃b∈aj a,s'=s.aV b)/\Dl sz a i (j-i) a'/\(0<j-i->a'=QD a (i*sz)/\((c<eH/\c'=c-i)\/(eH<=c/\c'=c+i))):=by
 obtain⟨z,hr,_⟩:=ht.h;obtain⟨hu,ii,z1,J0,ua,ZC,J2,hi5,hi6,hi7⟩:=hr.h;have iW:size E e=some sz:=by unfold size;rw[J0];simp[ua]
 have sS:=h.h;have Dm:∀a,n<=c->ep sz a n c (dB (aM tm) lo) (dB (aM tm) hi) none=some (.slice (bo (Nat.beq c i) a (rW a (Nat.mul i sz))) (j-i) (c-i)):=λa hc=>by
  unfold ep;rw[pM h hl hc];rfl
 have IS:∀a,(a=none\/∃b o,a=some ⟨b,o,none⟩)->n<=c->Dl sz a i (j-i) (bo (Nat.beq c i) a (rW a (Nat.mul i sz))):=λa ha hc=>by
  cases hci:Nat.beq c i with
  |true=>
   have:c=i:=o7 hci;exact⟨.inr ⟨ag,.inl rfl⟩⟩
  |false=>
   refine⟨.inl ?_⟩;show rW a (Nat.mul i sz)=_;rcases ha with rfl|⟨b,o,rfl⟩
   .rfl
   .show bo (Nat.beq (i*sz) 0) (some (⟨b,o,none⟩:Addr)) (some (⟨b,o+i*sz,none⟩:Addr))=some (⟨b,o+i*sz,none⟩:Addr);cases hb:Nat.beq (i*sz) 0 with
    |true=>have:i*sz=0:=o7 hb
           rw[this];rfl
    |false=>rfl
 have hnz:∀a,(a=none\/∃b o,a=some ⟨b,o,none⟩)->n<=c->0<j-i->bo (Nat.beq c i) a (rW a (Nat.mul i sz))=QD a (i*sz):=λa ha hc h0=>by
  cases hci:Nat.beq c i with
  |true=>
   have:c=i:=o7 hci;omega
  |false=>
   show rW a (Nat.mul i sz)=_;rcases ha with rfl|⟨b,o,rfl⟩
   .rfl
   .show bo (Nat.beq (i*sz) 0) (some (⟨b,o,none⟩:Addr)) (some (⟨b,o+i*sz,none⟩:Addr))=some (⟨b,o+i*sz,none⟩:Addr);cases hb:Nat.beq (i*sz) 0 with
    |true=>have:i*sz=0:=o7 hb
           rw[this];rfl
    |false=>rfl
 unfold kj;rw[hu];show ∃a' c' s',eg (Ii a) (ob (size E e) λsz=>bo (Nat.ble eH c) (bo (nO (dB (aM tm) lo) (dB (aM tm) hi) none) (nP a c s) (iE e sz a n c (dB (aM tm) lo) (dB (aM tm) hi) none s)) (ob (ep sz a n c (dB (aM tm) lo) (dB (aM tm) hi) none) λv=>aL v s))=_/\_;rw[iW];rcases hv with⟨rfl,rfl,rfl⟩|⟨b,o,cs,w,rfl,hb,hg,⟨hc,hu⟩|⟨rfl,hu,ho,c8⟩⟩
 .refine⟨bo (Nat.beq 0 i) none (rW none (Nat.mul i sz)),0-i,s,?_,.inl rfl,IS none (.inl rfl) (cA _),λh0=>by omega⟩;show(ob (ep sz none 0 0 _ _ none) λv=>aL v s)=_;rw[Dm none (cA _)];rfl
 .refine⟨bo (Nat.beq c i) (some ⟨b,o,none⟩) (rW (some ⟨b,o,none⟩) (Nat.mul i sz)),c-i,s,?_,.inl rfl,IS _ (.inr ⟨b,o,rfl⟩) hc,λh0=>⟨hnz _ (.inr ⟨b,o,rfl⟩) hc h0,.inl ⟨hu,rfl⟩⟩⟩;rw[show Nat.ble eH c=false from by rw[<-jR,lR];omega];show(ob (ep sz (some ⟨b,o,none⟩) n c _ _ none) λv=>aL v s)=_;rw[Dm _ hc];rfl
 .rw[il hu];show ∃a' c' s',bo (nO (dB (aM tm) lo) (dB (aM tm) hi) none) (nP (some ⟨b,o,none⟩) c s) (iE e sz (some ⟨b,o,none⟩) n c (dB (aM tm) lo) (dB (aM tm) hi) none s)=_/\_;cases hz:nO (dB (aM tm) lo) (dB (aM tm) hi) none with
  |true=>
   obtain⟨rfl,rfl⟩:=K4 h hl hz;exact⟨some ⟨b,o,none⟩,c,s,rfl,.inl rfl,Dl.mk (.inr ⟨rfl,.inl rfl⟩),λh0=>absurd h0 ag⟩
  |false=>
   show ∃a' c' s',iE e sz (some ⟨b,o,none⟩) n c (dB (aM tm) lo) (dB (aM tm) hi) none s=_/\_;have nV:iE e sz (some ⟨b,o,none⟩) n c (dB (aM tm) lo) (dB (aM tm) hi) none s=bo (Nat.beq i 0||Nat.ble (Nat.succ i) j) (aL (.slice (some ⟨b,o+i*sz,none⟩) (j-i) (c+i)) (s.aV b)) (aL (.slice (some ⟨b,o+i*sz,some o⟩) 0 (c+i)) (s.aV b)):=by
    unfold iE;show s.row b (λc' e' w s=>eg (bo w true (Nat.beq sz 1)&&Nat.beq e' e&&Nat.beq o (Nat.mul (Nat.sub c eH) sz)&&Nat.ble (Nat.add o (Nat.mul n sz)) (ek c')) (bounds n n (dB (aM tm) lo) (dB (aM tm) hi) none λl h _=>_))=_;unfold St.row St.look;rw[hg];simp only[cr];rw[show Nat.mul (Nat.sub c eH) sz=o from ho.symm,lL,lL,dh,il (show Nat.add o (Nat.mul n sz)<=cs.length from c8)];show bounds n n _ _ none _=_;rw[pM h hl (cA _)];rfl
   rw[nV];cases mR:(Nat.beq i 0||Nat.ble (Nat.succ i) j) with
   |true=>exact⟨some ⟨b,o+i*sz,none⟩,c+i,s.aV b,rfl,.inr ⟨b,by simp[aj],rfl⟩,Dl.mk (.inl rfl),λ_=>⟨rfl,.inr ⟨hu,rfl⟩⟩⟩
   |false=>
    have h0:j-i=0:=by
     have h1:Nat.ble (Nat.succ i) j=false:=by
      cases hh:Nat.ble (Nat.succ i) j with
      |true=>rw[hh,Bool.or_true] at mR;cases mR
      |false=>rfl
     have h2:¬i+1<=j:=λh=>by rw[il (show Nat.succ i<=j from h)] at h1;cases h1
     omega
    rw[h0];exact⟨some ⟨b,o+i*sz,some o⟩,c+i,s.aV b,rfl,.inr ⟨b,by simp[aj],rfl⟩,Dl.mk (.inr ⟨rfl,.inr ⟨b,o,_,_,rfl,rfl⟩⟩),λh0=>absurd h0 ag⟩
end
structure Part (e sz:Nat)(a:aK)(n c:Nat)(a':aK)(n' c':Nat):Prop where
 h:0<n'->∀s,FH s a n c e sz->FH s a' n' c' e sz
theorem Part.refl {e sz:Nat}{a:aK}{n c:Nat}:Part e sz a n c a n c:=⟨λ_ _ h=>h⟩
theorem Part.of {e sz n c c' i j:Nat}{a a':aK}(mR:i<=j/\j<=n)(h:0<j-i->a'=QD a (i*sz)/\((c<eH/\c'=c-i)\/(eH<=c/\c'=c+i))):Part e sz a n c a' (j-i) c':=⟨λh0 s hv=>by
 obtain⟨rfl,hc⟩:=h h0;rcases hv with⟨rfl,rfl,rfl⟩|⟨b,o,cs,w,rfl,hb,hg,hr⟩
 .omega
 .refine .inr ⟨b,o+i*sz,cs,w,rfl,hb,hg,?_⟩;rcases hr with⟨h1,h2⟩|⟨h1,h2,h3,h4⟩
  .rcases hc with⟨_,rfl⟩|⟨h3,_⟩
   .exact .inl ⟨ag,ag⟩
   .omega
  .rcases hc with⟨h5,_⟩|⟨_,rfl⟩
   .omega
   .refine .inr ⟨h1,ag,?_,?_⟩
    .rw[h3,show c+i-eH=(c-eH)+i by omega,mK]
    .have:i*sz+(j-i)*sz=j*sz:=by rw[<-mK];congr 1;omega
     have:j*sz<=n*sz:=Kc _ mR.2;omega⟩
theorem aas {a:aK}{i j:Nat}:QD (QD a i) j=QD a (i+j):=by
 rcases a with _|⟨b,o,_|q⟩<;>simp[QD,Nat.add_assoc]
theorem Sub.trans {α:Type}{sz:Nat}{p0 p q:List α}{a0 a a':aK}{i n:Nat}(h0:0<p.length)(h:Sub sz a0 p0 a p)(hq:(p.drop i).take n=q)(hn:i+n<=p.length)(h':Dl sz a i n a'):Sub sz a0 p0 a' q:=by
 obtain⟨i0,n0,rfl,Iw,hs⟩:=h.h;have c8:((p0.drop i0).take n0).length=n0:=by rw[cZ,gd];omega
 rw[c8] at h0 hn;have ha:a=QD a0 (i0*sz):=by
  rcases hs.h with h|⟨h,_⟩
  .exact h
  .omega
 subst ha;have hq':q=(p0.drop (i0+i)).take n:=by
  rw[<-hq,List.drop_take,NO,mm]
  congr 1;omega
 rcases h'.h with rfl|⟨rfl,rfl|⟨b,o,o',r,h1,rfl⟩⟩
 .exact⟨⟨i0+i,n,hq',ag,⟨.inl (by rw[aas,mK])⟩⟩⟩
 .exact⟨⟨i0,0,by rw[hq'];simp,ag,⟨.inl rfl⟩⟩⟩
 .refine⟨⟨i0,0,by rw[hq'];simp,ag,⟨.inr ⟨rfl,.inr ?_⟩⟩⟩⟩;rcases a0 with _|⟨b0,o0,_|q0⟩
  .cases h1
  .cases h1;exact⟨_,_,_,_,rfl,rfl⟩
  .cases h1
section
variable {E:dA}{X:dM}{Γ:ij}{l:Kn}{L L' R:bE}{K:KO}{x y o o':Operand}{t:TypeId}{s s':St}{a a' a0:aK}{c0:Nat}{n c sz e:Nat}{α:Type}{enc:ak α sz}{p q p0:List α}{lo hi:Option Operand}{i j:Nat}{k k':IntKind}{u v:Int}
theorem jY.akD (hs:Sub sz a p a' q)(h:It.aN (.slice a p.length c) e sz (ai (sz:=sz) p)∈L):jY Γ L a' q.length sz (ai (sz:=sz) q):=
 .sub h (λs hr=>hr.sub hs) (by rw[hs.aY];exact λb hb=>hb)
theorem Dn (h:i<=j/\j<=p.length):((p.drop i).take (j-i)).length=j-i:=by rw[cZ,gd];omega
theorem WO.adW [ht:TT E t e sz α enc](hx:Ev l x (.slice a p.length c))(hm:It.aN (.slice a p.length c) e sz (ai (sz:=sz) p)∈L)(hb:V9 l p.length lo hi i j)(hq:(p.drop i).take (j-i)=q)
  (h:∀m a' c',Sub sz a p a' q->Part e sz a p.length c a' q.length c'->K (.slice a' q.length c') L m m (λb=>b∈aj a) Z):WO E X Γ l (.slice t x lo hi none) L K:=λtm s hl hi=>by
 have h1:∀b∈aj a,Fi Γ s b:=λb hb=>hi.may hm (by
  cases a with
  |none=>simp[aj] at hb
  |some a=>simpa[It.aY,na,aj] using hb)
 have hv:=yN.slv (hi.it _ hm) λb hb=>(h1 b hb).1
 obtain⟨a',c',s',h2,h3,h4,h5⟩:=Cl (ht:=ht) hb hl hv;have hs:Sub sz a p a' q:=⟨⟨i,j-i,hq.symm,by have:=hb.h;omega,h4⟩⟩;have c8:q.length=j-i:=by rw[<-hq];exact Dn hb.h
 have uu:Part e sz a p.length c a' q.length c':=by rw[c8];exact Part.of hb.h h5
 refine' zaF
 .exact fS.pure mD ⟨L,_,Z,hi,kJ.id,h _ _ _ hs uu⟩
 .exact fS.pure mD ⟨L,_,Z,hi.aV (h1 b lB),cX (h1 b lB).1 lB,by rw[cw];exact h _ _ _ hs uu⟩
theorem WO.akE [ht:TT E t e sz α enc](hx:Ev l x (.slice a p.length c))(Wa:0<p.length)(hs0:Sub sz a0 p0 a p)(aat:Part e sz a0 p0.length c0 a p.length c)(hm:It.aN (.slice a0 p0.length c0) e sz (ai (sz:=sz) p0)∈L)(hb:V9 l p.length lo hi i j)(hq:(p.drop i).take (j-i)=q)
  (h:∀m a' c',Sub sz a0 p0 a' q->Part e sz a0 p0.length c0 a' q.length c'->K (.slice a' q.length c') L m m (λb=>b∈aj a0) Z):WO E X Γ l (.slice t x lo hi none) L K:=λtm s hl hi=>by
 have h1:∀b∈aj a0,Fi Γ s b:=λb hb=>hi.may hm (by
  cases a0 with
  |none=>simp[aj] at hb
  |some a=>simpa[It.aY,na,aj] using hb)
 have hv:=aat.h Wa s (yN.slv (hi.it _ hm) λb hb=>(h1 b hb).1);obtain⟨a',c',s',h2,h3,h4,h5⟩:=Cl (ht:=ht) hb hl hv;have hs:Sub sz a0 p0 a' q:=Sub.trans Wa hs0 hq (by have:=hb.h;omega) h4;have c8:q.length=j-i:=by rw[<-hq];exact Dn hb.h
 have uu:Part e sz a0 p0.length c0 a' q.length c':=⟨λh0 s hv=>by rw[c8] at h0⊢;exact(Part.of hb.h h5).h h0 s (aat.h Wa s hv)⟩;have mD:∀call:dJ,Fb E call (aM tm) s (.slice t x lo ‹Option Operand› none)=some (.slice a' q.length c',s'):=λcall=>by
  show kj E s t (aM tm x) _ _ none=_;rw[hx.eval hl,h2,c8]
 rw[hs0.aY] at h3;rcases h3 with rfl|⟨b,lB,rfl⟩
 .exact fS.pure mD ⟨L,_,Z,hi,kJ.id,h _ _ _ hs uu⟩
 .exact fS.pure mD ⟨L,_,Z,hi.aV (h1 b lB),cX (h1 b lB).1 lB,by rw[cw];exact h _ _ _ hs uu⟩
theorem Rd.may {cs:aQ}(h:Rd Γ a n sz cs)(hi:Inv Γ s L):∀b∈aj a,Fi Γ s b:=(jY.row (.rd h) hi).2
theorem FH.inv (h:FH Γ.s0 a n c e sz)(hi:Inv Γ s L)(hM:∀b∈aj a,b∉Γ.M):FH s a n c e sz:=by
 rcases h with h|⟨b,o,cs,w,rfl,h1,h2,h3⟩
 .exact .inl h
 .have:=hi.le;exact .inr ⟨b,o,cs,w,rfl,ag,by rw[hi.fr b h1 (hM b (by simp[aj]))];exact h2,h3⟩
theorem Rd.sub (h:Rd Γ a p.length sz (ai (sz:=sz) p))(hs:Sub sz a p a' q):Rd Γ a' q.length sz (ai (sz:=sz) q):=
 ⟨h.row.sub hs,by rw[hs.aY];exact h.A,by rw[hs.aY];exact h.M⟩
theorem WO.agT [ht:TT E t e sz α enc](hx:Ev l x (.slice a p.length c))(hm:Rd Γ a p.length sz (ai (sz:=sz) p))(hv:FH Γ.s0 a p.length c e sz)(hb:V9 l p.length lo hi i j)(hq:(p.drop i).take (j-i)=q)
  (h:∀m a' c',Rd Γ a' q.length sz (ai (sz:=sz) q)->K (.slice a' q.length c') L m m (λb=>b∈aj a) Z):WO E X Γ l (.slice t x lo hi none) L K:=λtm s hl hi=>by
 have h1:=hm.may hi;obtain⟨a',c',s',h2,h3,h4,_⟩:=Cl (ht:=ht) hb hl (hv.inv hi hm.M);have hs:Sub sz a p a' q:=⟨⟨i,j-i,hq.symm,by have:=hb.h;omega,h4⟩⟩;have c8:q.length=j-i:=by rw[<-hq];exact Dn hb.h
 refine' zaF
 .exact fS.pure mD ⟨L,_,Z,hi,kJ.id,h _ _ _ (hm.sub hs)⟩
 .exact fS.pure mD ⟨L,_,Z,hi.aV (h1 b lB),cX (h1 b lB).1 lB,by rw[cw];exact h _ _ _ (hm.sub hs)⟩
theorem acd (ho:Ev l o (.int k u))(hj:0<=u/\u<=(n:Int)):V9 l n (some o) none u.toNat n:=⟨.inr ⟨o,k,rfl,nZ ho hj.1⟩,.inl ⟨rfl,rfl⟩,ag⟩
theorem QE (ho:Ev l o (.int k u))(hj:0<=u/\u<=(n:Int)):V9 l n none (some o) 0 u.toNat:=⟨.inl ⟨rfl,rfl⟩,.inr ⟨o,k,rfl,nZ ho hj.1⟩,ag⟩
theorem agU (ho:Ev l o (.int k u))(A9:Ev l o' (.int k' v))(hj:0<=u/\u<=v/\v<=(n:Int)):V9 l n (some o) (some o') u.toNat v.toNat:=⟨.inr ⟨o,k,rfl,nZ ho hj.1⟩,.inr ⟨o',k',rfl,nZ A9 ag⟩,ag⟩
theorem Wb:(p.drop i).take (p.length-i)=p.drop i:=qG (by rw[gd];omega)
theorem Ow:(p.drop 0).take (j-0)=p.take j:=by simp
theorem WO.agV [ht:TT E t e sz α enc](hx:Ev l x (.slice a p.length c))(ho:Ev l o (.int k u))(hm:It.aN (.slice a p.length c) e sz (ai (sz:=sz) p)∈L)(hj:0<=u/\u<=(p.length:Int))
  (h:∀m a' c',Sub sz a p a' (p.drop u.toNat)->Part e sz a p.length c a' (p.drop u.toNat).length c'->K (.slice a' (p.drop u.toNat).length c') L m m (λb=>b∈aj a) Z):WO E X Γ l (.slice t x (some o) none none) L K:=WO.adW hx hm (acd ho hj) Wb h
theorem WO.agW [ht:TT E t e sz α enc](hx:Ev l x (.slice a p.length c))(ho:Ev l o (.int k u))(hm:It.aN (.slice a p.length c) e sz (ai (sz:=sz) p)∈L)(hj:0<=u/\u<=(p.length:Int))
  (h:∀m a' c',Sub sz a p a' (p.take u.toNat)->Part e sz a p.length c a' (p.take u.toNat).length c'->K (.slice a' (p.take u.toNat).length c') L m m (λb=>b∈aj a) Z):WO E X Γ l (.slice t x none (some o) none) L K:=WO.adW hx hm (QE ho hj) Ow h
theorem WO.agX [ht:TT E t e sz α enc](hx:Ev l x (.slice a p.length c))(ho:Ev l o (.int k u))(A9:Ev l o' (.int k' v))(hm:It.aN (.slice a p.length c) e sz (ai (sz:=sz) p)∈L)(hj:0<=u/\u<=v/\v<=(p.length:Int))
  (h:∀m a' c',Sub sz a p a' ((p.drop u.toNat).take (v.toNat-u.toNat))->Part e sz a p.length c a' ((p.drop u.toNat).take (v.toNat-u.toNat)).length c'->K (.slice a' ((p.drop u.toNat).take (v.toNat-u.toNat)).length c') L m m (λb=>b∈aj a) Z):WO E X Γ l (.slice t x (some o) (some o') none) L K:=WO.adW hx hm (agU ho A9 hj) rfl h
theorem WO.agY [ht:TT E t e sz α enc](hx:Ev l x (.slice a p.length c))(ho:Ev l o (.int k u))(hs0:Sub sz a0 p0 a p)(aat:Part e sz a0 p0.length c0 a p.length c)(hm:It.aN (.slice a0 p0.length c0) e sz (ai (sz:=sz) p0)∈L)(Wa:0<p.length)(hj:0<=u/\u<=(p.length:Int))
  (h:∀m a' c',Sub sz a0 p0 a' (p.take u.toNat)->Part e sz a0 p0.length c0 a' (p.take u.toNat).length c'->K (.slice a' (p.take u.toNat).length c') L m m (λb=>b∈aj a0) Z):WO E X Γ l (.slice t x none (some o) none) L K:=WO.akE hx Wa hs0 aat hm (QE ho hj) Ow h
theorem WO.agZ [ht:TT E t e sz α enc](hx:Ev l x (.slice a p.length c))(ho:Ev l o (.int k u))(hm:Rd Γ a p.length sz (ai (sz:=sz) p))(hv:FH Γ.s0 a p.length c e sz)(hj:0<=u/\u<=(p.length:Int))
  (h:∀m a' c',Rd Γ a' (p.drop u.toNat).length sz (ai (sz:=sz) (p.drop u.toNat))->K (.slice a' (p.drop u.toNat).length c') L m m (λb=>b∈aj a) Z):WO E X Γ l (.slice t x (some o) none none) L K:=WO.agT hx hm hv (acd ho hj) Wb h
theorem WO.ag0 [ht:TT E t e sz α enc](hx:Ev l x (.slice a p.length c))(ho:Ev l o (.int k u))(hm:Rd Γ a p.length sz (ai (sz:=sz) p))(hv:FH Γ.s0 a p.length c e sz)(hj:0<=u/\u<=(p.length:Int))
  (h:∀m a' c',Rd Γ a' (p.take u.toNat).length sz (ai (sz:=sz) (p.take u.toNat))->K (.slice a' (p.take u.toNat).length c') L m m (λb=>b∈aj a) Z):WO E X Γ l (.slice t x none (some o) none) L K:=WO.agT hx hm hv (QE ho hj) Ow h
end
section
variable {E:dA}{X:dM}{Γ:ij}{l:Kn}{L:bE}{K:KO}{f:FuncId}{xs:List Operand}{ts:Array TypeId}{vs:aQ}{r:Value}{A:List Nat}
abbrev ace {α:Type}{sz:Nat}[ak α sz](E:dA)(X:dM)(f:FuncId)(vs:aQ)(s:St)(A:List Nat)(e:TypeId)(p:List α):Prop:=fH E X f vs s [] A λv L=>∃a k a0,∃p0:List α,∃k0,v= .slice a p.length k/\L=[.aN (.slice a0 p0.length k0) e sz (ai (sz:=sz) p0)]/\Sub sz a0 p0 a p/\Part e sz a0 p0.length k0 a p.length k
theorem WO.adX {α:Type}{sz:Nat}{enc:ak α sz}{e:TypeId}{p:List α}(hx:kL l xs vs)(h:∀s,ace E X f vs s [] e p)(k:∀m m' a c a0 (p0:List α) c0,Sub sz a0 p0 a p->Part e sz a0 p0.length c0 a p.length c->kq L m->m<=m'->K (.slice a p.length c) (.aN (.slice a0 p0.length c0) e sz (ai (sz:=sz) p0)::L) m m' (λi=>i∈([]:List Nat)\/i∈([]:bE).flatMap It.aY\/(m<=i/\i<m')) (λi=>i∈([]:bE).flatMap It.aY\/(m<=i/\i<m'))):WO E X Γ l (.call ⟨.value (.func f),⟨xs⟩,ts⟩) L K:=
 WO.call (Lm:=[]) (R:=L) hx (.refl _) (λs hi b hb=>by cases hb) (λs hi=>h s) (by rintro v L' m m' ho hm ⟨a,c,a0,p0,c0,rfl,rfl,hs,hp⟩;exact k m m' a c a0 p0 c0 hs hp ho hm)
theorem aau (a:aK):QD a 0=a:=by
 rcases a with _|⟨b,o,_|q⟩<;>rfl
theorem Sub.all {α:Type}{sz:Nat}{a:aK}{p:List α}:Sub sz a p a p:=⟨⟨0,p.length,by simp,ag,⟨.inl (by rw[Ih,aau])⟩⟩⟩
theorem akF {α:Type}{sz e:Nat}{enc:ak α sz}{p q p0:List α}{a a0:aK}{k k0:Nat}{rs:List ResultVar}{x:Ex}(hx:x= .normal\/x= .ret)(hr:qi E l L rs [.slice a q.length k])(hs:Sub sz a0 p0 a q)(uu:Part e sz a0 p0.length k0 a q.length k)(hL:cz [.aN (.slice a0 p0.length k0) e sz (ai (sz:=sz) p0)] L)(h:p=q):
  uW E rs (λv L=>∃a k a0,∃p0:List α,∃k0,v= .slice a p.length k/\L=[.aN (.slice a0 p0.length k0) e sz (ai (sz:=sz) p0)]/\Sub sz a0 p0 a p/\Part e sz a0 p0.length k0 a p.length k) x l L:=by
 subst h;exact⟨hx,_,_,hr,hL,a,k,a0,p0,k0,rfl,rfl,hs,uu⟩
end
section
variable {E:dA}{X:dM}{Γ:ij}{l:Kn}{L:bE}{K:KO}{f:FuncId}{xs:List Operand}{ts:Array TypeId}{vs:aQ}{r:Value}{A:List Nat}
theorem WO.l8 {a:aK}{n sz:Nat}{cs:aQ}(hx:kL l xs vs)(h:∀s,bO s a n sz cs->qj E X f vs s (aj a) r)(hh:jY Γ L a n sz cs)(k:∀m m',kq L m->m<=m'->K r L m m' (λi=>i∈aj a\/i∈([]:bE).flatMap It.aY\/(m<=i/\i<m')) (λi=>i∈([]:bE).flatMap It.aY\/(m<=i/\i<m'))):WO E X Γ l (.call ⟨.value (.func f),⟨xs⟩,ts⟩) L K:=WO.adR hx hh h k
theorem WO.I3 {a:aK}{n Sx:Nat}{cs:aQ}{α:Type}{sz:Nat}{enc:ak α sz}{e:TypeId}{p:List α}(hx:kL l xs vs)(h:∀s,bO s a n Sx cs->fa E X f vs s (aj a) e p)(hh:jY Γ L a n Sx cs)(k:∀m m' a' c,kq L m->m<=m'->K (.slice a' p.length c) (.aN (.slice a' p.length c) e sz (ai (sz:=sz) p)::L) m m' (λi=>i∈aj a\/i∈([]:bE).flatMap It.aY\/(m<=i/\i<m')) (λi=>i∈([]:bE).flatMap It.aY\/(m<=i/\i<m'))):WO E X Γ l (.call ⟨.value (.func f),⟨xs⟩,ts⟩) L K:=WO.adS hx hh h k
end
theorem xw (vs:aQ):∀(n:Nat)(l:aQ),n+vs.length<=l.length->fP n vs l=some (l.take n++vs++l.drop (n+vs.length))
 |n,l,h=>by
  cases hp:fP n vs l with
  |some r=>rw[(nS n vs hp).2]
  |none=>
   exfalso
   revert hp h
   induction n generalizing l with
   |zero=>
    intro h hp;induction vs generalizing l with
    |nil=>cases hp
    |cons v vs ih=>
     cases l with
     |nil=>simp at h
     |cons x l=>
      refine ih l (by simpa using h) ?_;cases hq:fP 0 vs l with
      |none=>rfl
      |some r=>
       have:fP 0 (v::vs) (x::l)=ob (fP 0 vs l) λr=>some (v::r):=rfl
       rw[this,hq] at hp;cases hp
   |succ n ih=>
    intro h hp;cases l with
    |nil=>simp at h
    |cons x l=>
     refine ih l (by simp at h;omega) ?_;cases hq:fP n vs l with
     |none=>rfl
     |some r=>
      have:fP (n+1) vs (x::l)=ob (fP n vs l) λr=>some (x::r):=rfl
      rw[this,hq] at hp;cases hp
section
variable {E:dA}{X:dM}{Γ:ij}{l:Kn}{L L' R:bE}{K:KO}{x y o:Operand}{t t2:TypeId}{s:St}{a a2:aK}{n c sz e:Nat}{α:Type}{enc:ak α sz}{p q:List α}{k:IntKind}{i j:Nat}
theorem K5 [ht:TT E t e sz α enc]{tm:Tm}(h:V9 l n none (some o) 0 j)(hl:mM l tm)(hv:FH s a n c e sz):
  ∃s',kj E s t (.slice a n c) (dB (aM tm) none) (dB (aM tm) (some o)) none=some (.slice a j c,s')/\(s'=s\/∃b∈aj a,s'=s.aV b):=by
 obtain⟨z,hr,_⟩:=ht.h;obtain⟨hu,ii,z1,J0,ua,ZC,J2,hi5,hi6,hi7⟩:=hr.h;have iW:size E e=some sz:=by unfold size;rw[J0];simp[ua]
 have sS:=h.h;have UJ:∀a:aK,(a=none\/∃b o,a=some ⟨b,o,none⟩)->rW a (Nat.mul 0 sz)=a:=λa ha=>by
  rw[show Nat.mul 0 sz=0 from Ih _];rcases ha with rfl|⟨b,o,rfl⟩<;>rfl
 have Dm:∀a:aK,(a=none\/∃b o,a=some ⟨b,o,none⟩)->n<=c->ep sz a n c (dB (aM tm) none) (dB (aM tm) (some o)) none=some (.slice a j c):=λa ha hc=>by
  unfold ep;rw[pM h hl hc];show some (Value.slice (bo (Nat.beq c 0) a (rW a (Nat.mul 0 sz))) (j-0) (c-0))=_;rw[UJ a ha];cases Nat.beq c 0<;>rfl
 unfold kj;rw[hu];show ∃s',eg (Ii a) (ob (size E e) λsz=>bo (Nat.ble eH c) (bo (nO (dB (aM tm) none) (dB (aM tm) (some o)) none) (nP a c s) (iE e sz a n c (dB (aM tm) none) (dB (aM tm) (some o)) none s)) (ob (ep sz a n c (dB (aM tm) none) (dB (aM tm) (some o)) none) λv=>aL v s))=_/\_;rw[iW];rcases hv with⟨rfl,rfl,rfl⟩|⟨b,o',cs,w,rfl,hb,hg,⟨hc,hu⟩|⟨rfl,hu,ho,c8⟩⟩
 .refine⟨s,?_,.inl rfl⟩;show(ob (ep sz none 0 0 _ _ none) λv=>aL v s)=_;rw[Dm none (.inl rfl) (cA _)];rfl
 .refine⟨s,?_,.inl rfl⟩;rw[show Nat.ble eH c=false from by rw[<-jR,lR];omega];show(ob (ep sz (some ⟨b,o',none⟩) n c _ _ none) λv=>aL v s)=_;rw[Dm _ (.inr ⟨b,o',rfl⟩) hc];rfl
 .rw[il hu];show ∃s',bo (nO (dB (aM tm) none) (dB (aM tm) (some o)) none) (nP (some ⟨b,o',none⟩) c s) (iE e sz (some ⟨b,o',none⟩) n c (dB (aM tm) none) (dB (aM tm) (some o)) none s)=_/\_;cases hz:nO (dB (aM tm) none) (dB (aM tm) (some o)) none with
  |true=>
   obtain⟨_,rfl⟩:=K4 h hl hz;exact⟨s,rfl,.inl rfl⟩
  |false=>
   refine⟨s.aV b,?_,.inr ⟨b,by simp[aj],rfl⟩⟩;show iE e sz (some ⟨b,o',none⟩) n c (dB (aM tm) none) (dB (aM tm) (some o)) none s=_;unfold iE;show s.row b (λc' e' w s=>eg (bo w true (Nat.beq sz 1)&&Nat.beq e' e&&Nat.beq o' (Nat.mul (Nat.sub c eH) sz)&&Nat.ble (Nat.add o' (Nat.mul n sz)) (ek c')) (bounds n n (dB (aM tm) none) (dB (aM tm) (some o)) none λl h _=>_))=_;unfold St.row St.look;rw[hg];simp only[cr];rw[show Nat.mul (Nat.sub c eH) sz=o' from ho.symm,lL,lL,dh,il (show Nat.add o' (Nat.mul n sz)<=cs.length from c8)];show bounds n n _ _ none _=_;rw[pM h hl (cA _)];show aL (Value.slice (some ⟨b,o'+0*sz,none⟩) (j-0) (c+0)) (s.aV b)=_;rw[Ih];rfl
theorem WO.adY [ht:TT E t e sz α enc](hx:Ev l x (.slice a p.length c))(ho:Ev l o (.int k (i:Int)))(hm:It.aN (.slice a p.length c) e sz (ai (sz:=sz) p)∈L)(hj:i<=p.length)
  (h:∀m,K (.slice a i c) L m m (λb=>b∈aj a) Z):WO E X Γ l (.slice t x none (some o) none) L K:=λtm s hl hi=>by
 have h1:∀b∈aj a,Fi Γ s b:=λb hb=>hi.may hm (by
  cases a with
  |none=>simp[aj] at hb
  |some a=>simpa[It.aY,na,aj] using hb)
 refine' zar
 .exact fS.pure mD ⟨L,_,Z,hi,kJ.id,h _⟩
 .exact fS.pure mD ⟨L,_,Z,hi.aV (h1 b lB),cX (h1 b lB).1 lB,by rw[cw];exact h _⟩
theorem nc:∀p q:List α,ai (sz:=sz) (p++q)=ai (sz:=sz) p++ai (sz:=sz) q
 |[],q=>rfl
 |x::p,q=>by rw[BI,dE,dE,nc p q,kG]
theorem WO.SH {c2:Nat}[ht:TT E t e sz α enc][ht2:TT E t2 e sz α enc](hx:Ev l x (.slice a i c))(hy:Ev l y (.slice a2 q.length c2))(hr:Om (.aN (.slice a p.length c) e sz (ai (sz:=sz) p)) L R)(hs:jY Γ L a2 q.length sz (ai (sz:=sz) q))(hn:i<p.length/\i+q.length<=p.length/\p.length<=1000000)
  (k:∀b b' a' c' a0 (p0:List α) c0,kq L b->b<=b'->(∀i∈aj a0,i∈aj a\/i=b)->Sub sz a0 p0 a' (p.take i++q)->K (.slice a' (p.take i++q).length c') (.aN (.slice a0 p0.length c0) e sz (ai (sz:=sz) p0)::R) b b' (λi=>i∈aj a2\/i∈aj a\/i=b) (λi=>i∈aj a\/i=b)):WO E X Γ l (.call ⟨.builtin .append,⟨[x,y]⟩,⟨[t,t2]⟩⟩) L K:=λtm s h1 h2=>by
 obtain⟨z,Dq,d,_⟩:=ht.h;obtain⟨z2,akG,d2,_⟩:=ht2.h;obtain⟨UI,ii,z1,hi,ua,ZC,J2,hi5,hi6,hi7⟩:=Dq.h;obtain⟨Vo,_⟩:=akG.h;have hm:It.aN (.slice a p.length c) e sz (ai (sz:=sz) p)∈L:=hr.cR.mem_iff.2 (by simp);obtain⟨yR,lF⟩:=hs.row h2;have hinv:Inv Γ (kC s a2) L:=h2.kC lF;have sx:=hinv.cR hr.cR;have Qy:kJ s (kC s a2) (λi=>i∈aj a2\/i∈aj a\/i=s.next) (λi=>i∈aj a\/i=s.next):=xu (λb hb=>(lF b hb).1) (λb hb=>.inl hb);have hh1:(kC s a2).heap=s.heap:=Di;have On:(kC s a2).next=s.next:=xr
 generalize tc:kC s a2=s1 at hinv sx Qy hh1 On;have lA:(ai (sz:=sz) q).length=q.length*sz:=yR.1;have htk:(p.take i).length=i:=by rw[cZ];omega
 have c8:(p.take i++q).length=i+q.length:=by rw[bJ,htk]
 have mD:∀(r:Value×St),oF e sz a i c q.length (ai (sz:=sz) q) s1=some r->∀call:dJ,Fb E call (aM tm) s (.call ⟨.builtin .append,⟨[x,y]⟩,⟨[t,t2]⟩⟩)=some r:=by
  intro r hr call;show vq E s [t,t2] (aM tm x) (aM tm y)=_;rw[hx.eval h1,hy.eval h1];unfold vq;show ob (some t) (λt=>ob (ja E t) λd=>match d with
   |.slice elem=>ob (some t2) λxt=>ob (ja E xt) λxd=>eg (!isInt xd)<| ob (E.ty.get elem) λii=>ob ii.zero λz=>eg (Nat.ble (nat_lit 1) ii.size&&Nat.ble ii.bytes (nat_lit 1000000)&&Nat.beq (ek (bW z)) ii.size)<| Kr s ii.size (.slice a2 q.length c2) λn' new s=>eg (Nat.beq (ek new) (Nat.mul n' ii.size))<| eg (jv new)<| match Value.slice a i c with
    |.slice base len cap=>eg (Nat.ble (Nat.add len n') (nat_lit 1000000))<| oF elem ii.size base len cap n' new s
    |_=>none
   |_=>none)=_
  have hff:jv (ai (sz:=sz) q)=true:=(mv _).2 (Ar _);simp only[cr,UI,Vo,hi,ua,ZC,J2,dh,hi5];show eg true _=_;simp only[il hi6,il hi7,lL,F5];rw[eD,eD,KZ yR];simp only[hff];rw[show Nat.mul q.length sz=q.length*sz from rfl,lA,lL];rw[il (show Nat.add i q.length<=1000000 by show i+q.length<=_;omega),tc];exact hr
 have hbb:∀{b:Nat}{o:Nat}{L:bE}{s:St},Inv Γ s (.aN (.slice (some ⟨b,o,none⟩) p.length c) e sz (ai (sz:=sz) p)::L)->b<s.next:=λh=>(h.lt _ iV _ (by simp[It.aY,na])).1
 have ag1:(ai (sz:=sz) p).take (Nat.mul i sz)=ai (sz:=sz) (p.take i):=pK p i;have rD:=bh (sz:=sz) p;have ZB:i*sz+q.length*sz<=p.length*sz:=by rw[<-mK];exact Kc _ hn.2.1
 rcases sx.it _ iV with⟨h3,h4⟩|⟨b,n',k',w,h3,h4,h5,h6⟩
 .exfalso;have:=(Value.slice.inj h3).2.1;omega
 .cases h3
  have Sz:=hbb sx;have Dj:∀{β:Type}(k:aQ->TypeId->Bool->St->Option β),s1.row b k=k (ai (sz:=sz) p) e w (s1.aV b):=λk=>by unfold St.row St.look;rw[h4];rfl
  have Dk:Inv Γ (s1.aV b) (.aN (.slice (some ⟨b,0,none⟩) p.length c) e sz (ai (sz:=sz) p)::R):=sx.aV (sx.may iV (by simp[It.aY,na]));have Oo:kJ s (s1.aV b) (λi=>i∈aj a2\/i∈aj (some ⟨b,0,none⟩)\/i=s.next) (λi=>i∈aj (some ⟨b,0,none⟩)\/i=s.next):=Qy.trans (cX Sz (.inr (.inl (by simp[aj]))));rcases h6 with⟨rfl,h6⟩|⟨rfl,rfl⟩
  .have hcu:Nat.ble eH p.length=false:=by rw[<-jR,lR];omega
   have adA:Nat.ble (Nat.add i q.length) p.length=true:=il (show i+q.length<=_ from hn.2.1);rcases wc q.length with Fe|Fe
   .have hq0:q=[]:=mT Fe;subst hq0;refine fS.pure (mD (.slice (some ⟨b,0,none⟩) i p.length,s1.aV b) ?_) ⟨_,_,_,Dk,Oo,?_⟩
    .rw[ka,Dj,hcu];show bo (Nat.ble (Nat.add i ([]:List α).length) p.length) _ _=_;rw[adA];rfl
    .have:=k s.next (s1.aV b).next (some ⟨b,0,none⟩) p.length (some ⟨b,0,none⟩) p p.length h2.old (by rw[cw];omega) (λi hi=>.inl hi) ⟨⟨0,i,by simp,ag,⟨.inl (by simp[QD])⟩⟩⟩
     rw[c8] at this;exact this
   .have SI:(p.take i++q++p.drop (i+q.length)).length=p.length:=by rw[bJ,c8,gd];omega
    have vv:ai (sz:=sz) (p.take i++q++p.drop (i+q.length))=(ai (sz:=sz) p).take (i*sz)++ai (sz:=sz) q++(ai (sz:=sz) p).drop (i*sz+(ai (sz:=sz) q).length):=by
     rw[nc,nc,<-pK,<-su,lA,mK]
    refine fS.pure (mD (.slice (some ⟨b,0,none⟩) (i+q.length) p.length,(s1.aV b).put b (some (.cells (ai (sz:=sz) (p.take i++q++p.drop (i+q.length))) e w))) ?_) ⟨.aN (.slice (some ⟨b,0,none⟩) (p.take i++q++p.drop (i+q.length)).length p.length) e sz (ai (sz:=sz) (p.take i++q++p.drop (i+q.length)))::R,_,_,?_,Oo.trans (jZ (by simpa using Sz) (.inr (.inl (by simp[aj]))) (.inl (by simp[aj]))),?_⟩
    .rw[ka,Dj,hcu];show bo (Nat.ble (Nat.add i q.length) p.length) (bo (Nat.beq q.length 0) _ (ob (fP (0+i*sz) (ai (sz:=sz) q) (ai (sz:=sz) p)) _)) _=_;rw[adA,V0 Fe,nF,xw _ _ _ (by rw[lA,rD];exact ZB),vv];rfl
    .refine Dk.put yQ.here (by simp[It.aY,na]) (by simp[It.aY,na]) ?_;exact .inr ⟨b,_,_,w,rfl,by simp,by rw[bh],.inl ⟨SI.symm,by rw[SI];exact h6⟩⟩
    .have:=k s.next ((s1.aV b).put b (some (.cells (ai (sz:=sz) (p.take i++q++p.drop (i+q.length))) e w))).next (some ⟨b,0,none⟩) p.length (some ⟨b,0,none⟩) (p.take i++q++p.drop (i+q.length)) p.length h2.old (by rw[dZ,cw];omega) (λi hi=>.inl hi) ⟨⟨0,i+q.length,by rw[CB,<-c8,List.take_left],by rw[SI];omega,⟨.inl (by simp[QD])⟩⟩⟩
     rw[c8] at this;exact this
  .refine fS.pure (mD (.slice (some ⟨s1.next,0,none⟩) (i+q.length) eH,((s1.aV b).put b none).new (.cells (ai (sz:=sz) (p.take i++q)) e true)) ?_) ⟨.aN (.slice (some ⟨s1.next,0,none⟩) (p.take i++q).length eH) e sz (ai (sz:=sz) (p.take i++q))::R,_,_,?_,(Oo.trans (jZ (by simpa using Sz) (.inr (.inl (by simp[aj]))) (.inl (by simp[aj])))).trans (uV (.inr (.inr (by simpa using On))) (.inr (by simpa using On))),?_⟩
   .rw[ka,Dj];show eg (true&&Nat.beq e e&&Nat.beq eH eH&&Nat.beq 0 0) (bo (Nat.beq (ek (ai (sz:=sz) p)) (Nat.mul i sz)) _ _)=_;have fK:Nat.beq (p.length*sz) (i*sz)=false:=by
     cases hb:Nat.beq (p.length*sz) (i*sz) with
     |false=>rfl
     |true=>
      have:=Nat.eq_of_mul_eq_mul_right enc.pos (o7 hb);omega
    have htn:iS (i*sz) (ai (sz:=sz) p)=some (ai (sz:=sz) (p.take i)):=sw (cs:=ai (sz:=sz) (p.take i)) (o:=0) (m:=i*sz) (by rw[CB];exact ag1) (by rw[bh,htk]);rw[dh,rD,show Nat.mul i sz=i*sz from rfl,fK];simp only[lL];show eg (Nat.ble (i*sz+ek (ai (sz:=sz) q)) (p.length*sz)) (ob (iS (i*sz) (ai (sz:=sz) p)) _)=_;rw[dh,lA,il ZB,htn];show aL (bV ((s1.aV b).put b none) (Nat.add i q.length)) _=_;rw[nc];unfold bV;rw[dZ,cw];rfl
   .have h7:=Dk.kill (o:=none) (b:=b) (by simp[It.aY,na]);have:=h7.new (o:=.cells (ai (sz:=sz) (p.take i++q)) e true) (x:=.aN (.slice (some ⟨s1.next,0,none⟩) (p.take i++q).length eH) e sz (ai (sz:=sz) (p.take i++q))) (.inr ⟨s1.next,_,eH,true,rfl,by simp,by rw[bh],.inr ⟨rfl,rfl⟩⟩) (by simp[It.aY,na]);exact this
   .have:=k s.next (((s1.aV b).put b none).new (.cells (ai (sz:=sz) (p.take i++q)) e true)).next (some ⟨s1.next,0,none⟩) eH (some ⟨s1.next,0,none⟩) (p.take i++q) eH h2.old (by simp;omega) (λi hi=>by right;simpa[aj,On] using hi) Sub.all
    rw[c8] at this;rw[c8];exact this
end
class GS (E:dA)(t:TypeId)(z:outParam Value):Prop where
 h:∃kt e,ja E t=some (.map kt e)/\ja E kt=some .string/\zero E e=some z
class QF (E:dA)(t:TypeId)(z:outParam Value):Prop where
 h:∃kt e k,ja E t=some (.map kt e)/\ja E kt=some (.int k)/\zero E e=some z
class QG (E:dA)(t:TypeId):Prop where
 h:∃d,ja E t=some d/\isIface d=false
class adZ (E:dA)(t:TypeId):Prop where
 h:∃u,ja E t=some (.pointer u)
section
variable {κ ν:Type}[DecidableEq κ]
def dr:List (κ×ν)->κ->Option ν
 |[],_=>none
 |p::m,k=>if k=p.1 then some p.2 else dr m k
def ew:List (κ×ν)->κ->ν->List (κ×ν)
 |[],k,v=>[(k,v)]
 |p::m,k,v=>if k=p.1 then(k,v)::m else p::ew m k v
def n3 (kf:κ->Value)(vf:ν->Value)(m:List (κ×ν)):List (Value×Value):=m.map λp=>(kf p.1,vf p.2)
theorem n4:∀(m:List (κ×ν))(k k':κ)(v:ν),dr (ew m k v) k'=if k'=k then some v else dr m k'
 |[],k,k',v=>by
  unfold ew dr;split<;>rfl
 |p::m,k,k',v=>by
  unfold ew;by_cases h:k=p.1
  .rw[if_pos h];unfold dr;by_cases h':k'=k
   .rw[if_pos h',if_pos h']
   .rw[if_neg h',if_neg h',if_neg (by rw[<-h];exact h')]
  .rw[if_neg h];unfold dr;by_cases h2:k'=p.1
   .rw[if_pos h2,if_pos h2,if_neg (λe=>h (e.symm.trans h2))]
   .rw[if_neg h2,if_neg h2,n4 m k k' v]
variable {kf:κ->Value}{vf:ν->Value}
theorem Av (hk:∀a b,kx (kf a) (kf b)=some (decide (a=b)))(k:κ):∀m:List (κ×ν),rY (kf k) (n3 kf vf m)=some ((dr m k).map vf)
 |[]=>rfl
 |p::m=>by
  show ob (kx (kf k) (kf p.1)) (λb=>bo b (some (some (vf p.2))) (rY (kf k) (n3 kf vf m)))=_;rw[hk,Av hk k m];show _=some ((if k=p.1 then some p.2 else dr m k).map vf);by_cases h:k=p.1
  .rw[if_pos h,dt h];rfl
  .rw[if_neg h,gS h];rfl
theorem K6 (hk:∀a b,kx (kf a) (kf b)=some (decide (a=b)))(k:κ)(v:ν):∀m:List (κ×ν),(dr m k).isSome=true->NS (kf k) (vf v) (n3 kf vf m)=some (n3 kf vf (ew m k v))
 |[],h=>by cases h
 |p::m,h=>by
  show ob (kx (kf k) (kf p.1)) (λb=>bo b (some ((kf k,vf v)::n3 kf vf m)) (ob (NS (kf k) (vf v) (n3 kf vf m)) λr=>some ((kf p.1,vf p.2)::r)))=_;rw[hk];unfold dr at h;unfold ew;by_cases h':k=p.1
  .rw[if_pos h'];simp only[h',decide_true];rfl
  .rw[if_neg h'] at h;rw[if_neg h',K6 hk k v m h];simp only[h',decide_false];rfl
theorem K7 (k:κ)(v:ν):∀m:List (κ×ν),dr m k=none->n3 kf vf m++[(kf k,vf v)]=n3 kf vf (ew m k v)
 |[],h=>rfl
 |p::m,h=>by
  unfold dr at h;unfold ew;by_cases h':k=p.1
  .rw[if_pos h'] at h;cases h
  .rw[if_neg h'] at h;rw[if_neg h'];show(kf p.1,vf p.2)::(n3 kf vf m++[(kf k,vf v)])=_;rw[K7 k v m h];rfl
theorem K8 (a b:List UInt8):kx (sv a) (sv b)=some (decide (a=b)):=by
 show some (gp a b)=_;rw[eR];by_cases h:a=b<;>simp[h]
theorem SJ (a b:Int):kx (iv a) (iv b)=some (decide (a=b)):=by
 show eg (pY .i64 .i64) (some (yl a b))=_;rw[jH];by_cases h:a=b
 .subst h;simp;rfl
 .rw[show(a== b)=false by simpa using h,gS h];rfl
end
section
variable {E:dA}{X:dM}{Γ:ij}{l:Kn}{L L' R:bE}{K:KO}{x y o fv:Operand}{t:TypeId}{ts:Array TypeId}{s:St}{b:Nat}{κ ν:Type}[DecidableEq κ]{kf:κ->Value}{vf:ν->Value}{m:List (κ×ν)}{k:κ}{v d:ν}{z:Value}{g:FuncId}{fi ca vs ws:aQ}{xs ys:List Operand}
theorem WO.makeMap (h:∀b,kq L b->K (.map (some b)) (.lp b (.map [])::L) b (b+1) (λi=>i=b) (λi=>i=b)):WO E X Γ l (.makeMap t none) L K:=
 WO.news (mk:=λb=>.map (some b)) (ob:=λ_=>.map []) (it:=λb=>.lp b (.map [])) (λtm s call hl _=>rfl) (λs b h=>h) (λb=>rfl) h
theorem Ox {kt e:TypeId}{kd:TypeDesc}(h1:ja E t=some (.map kt e))(h2:ja E kt=some kd)(h3:yo E kt kd (kf k)=true)(h4:zero E e=some z)(hk:∀a b,kx (kf a) (kf b)=some (decide (a=b)))(hz:vf d=z){o:gF}(ho:o= .map (n3 kf vf m))(hg:s.heap.get b=some o)(ok:Bool):
  yq E s t (.map (some b)) (kf k) ok=some (bo ok (.tuple ⟨[vf ((dr m k).getD d),.bool (dr m k).isSome]⟩) (vf ((dr m k).getD d)),s.aV b):=by
 subst ho;unfold yq;rw[h1];show ob (ja E kt) _=_;rw[h2];show eg (yo E kt kd (kf k)) _=_;rw[h3,eD,h4];show ob (s.look b) _=_;unfold St.look;rw[hg];show ob (rY (kf k) (n3 kf vf m)) _=_;rw[Av hk];cases dr m k with
 |none=>rw[<-hz];rfl
 |some v=>rfl
theorem WO.Wc {kt e:TypeId}{kd:TypeDesc}(h1:ja E t=some (.map kt e))(h2:ja E kt=some kd)(h3:yo E kt kd (kf k)=true)(h4:zero E e=some z)(hk:∀a b,kx (kf a) (kf b)=some (decide (a=b)))(hz:vf d=z)(hx:Ev l x (.map (some b)))(hy:Ev l y (kf k))(hm:It.lp b (.map (n3 kf vf m))∈L)(ok:Bool)
  (h:∀n,K (bo ok (.tuple ⟨[vf ((dr m k).getD d),.bool (dr m k).isSome]⟩) (vf ((dr m k).getD d))) L n n (λi=>i=b) Z):WO E X Γ l (.lookup t x y ok) L K:=λtm s hl hi=>by
 have lF:=hi.may hm (b:=b) (by simp[It.aY]);refine fS.pure (v:=bo ok (.tuple ⟨[vf ((dr m k).getD d),.bool (dr m k).isSome]⟩) (vf ((dr m k).getD d))) (s':=s.aV b) (λcall=>?_) ⟨L,(λi=>i=b),Z,hi.aV lF,cX lF.1 rfl,by rw[cw];exact h _⟩;show yq E s t (aM tm x) (aM tm y) ok=_;rw[hx.eval hl,hy.eval hl];exact Ox h1 h2 h3 h4 hk hz rfl (hi.it _ hm) ok
theorem WO.ad0 {kt e:TypeId}{kd:TypeDesc}(h1:ja E t=some (.map kt e))(h2:ja E kt=some kd)(h3:yo E kt kd (kf k)=true)(hk:∀a b,kx (kf a) (kf b)=some (decide (a=b)))(hx:Ev l x (.map (some b)))(hy:Ev l y (kf k))(hw:Ev l o (vf v))(hu:yQ (.lp b (.map (n3 kf vf m))) (.lp b (.map (n3 kf vf (ew m k v)))) L L')
  (h:∀n,K (.tuple ⟨[]⟩) L' n n (λi=>i=b) (λi=>i=b)):WO E X Γ l (.mapUpdate t x y o) L K:=λtm s hl hi=>by
 obtain⟨R,p1,p2⟩:=hu.cR;have hm:It.lp b (.map (n3 kf vf m))∈L:=p1.mem_iff.2 (by simp);have lF:=hi.may hm (b:=b) (by simp[It.aY]);refine fS.pure (v:=.tuple ⟨[]⟩) (s':=s.put b (some (.map (n3 kf vf (ew m k v))))) (λcall=>?_) ⟨L',(λi=>i=b),(λi=>i=b),hi.put hu rfl rfl (by show T.get (St.heap _) b=_;simp),jZ lF.1 rfl rfl,by rw[dZ];exact h _⟩;show sV E s t (aM tm x) (aM tm y) (aM tm o)=_;rw[hx.eval hl,hy.eval hl,hw.eval hl];unfold sV;rw[h1];show ob (ja E kt) _=_;rw[h2];show eg (yo E kt kd (kf k)) _=_;rw[h3,eD];show ob (s.look b) _=_;have hg:s.heap.get b=some (.map (n3 kf vf m)):=hi.it _ hm;unfold St.look;rw[hg];show ob (rY (kf k) (n3 kf vf m)) _=_;rw[Av hk];cases ha:dr m k with
 |none=>
  show aL (Value.tuple ⟨[]⟩) (s.put b (some (.map (n3 kf vf m++[(kf k,vf v)]))))=_;rw[K7 k v m ha];rfl
 |some w=>
  show ob (NS (kf k) (vf v) (n3 kf vf m)) _=_;rw[K6 hk k v m (by rw[ha];rfl)];rfl
omit [DecidableEq κ] in
theorem WO.ad1 {kt e:TypeId}(h1:ja E t=some (.map kt e))(hx:Ev l x (.map (some b)))(hm:It.lp b (.map (n3 kf vf m))∈L)
  (h:∀n,K (iv (m.length:Int)) L n n (λi=>i=b) Z):WO E X Γ l (.call ⟨.builtin .len,⟨[x]⟩,⟨[t]⟩⟩) L K:=λtm s hl hi=>by
 have lF:=hi.may hm (b:=b) (by simp[It.aY]);refine fS.pure (v:=iv (m.length:Int)) (s':=s.aV b) (λcall=>?_) ⟨L,(λi=>i=b),Z,hi.aV lF,cX lF.1 rfl,by rw[cw];exact h _⟩;show rZ E s .len [t] (aM tm x)=_;rw[hx.eval hl];show B6 E s t b=_;have hg:s.heap.get b=some (.map (n3 kf vf m)):=hi.it _ hm;unfold B6;rw[h1];show ob (s.look b) _=_;unfold St.look;rw[hg];show aL (Value.int .i64 (.ofNat (ek (n3 kf vf m)))) (s.aV b)=_;rw[dh];unfold n3;rw[ux];rfl
end
section
variable {E:dA}{X:dM}{Γ:ij}{l:Kn}{L L' R:bE}{K:KO}{x y o fv:Operand}{t:TypeId}{ts:Array TypeId}{s:St}{b:Nat}{g:FuncId}{fi ca vs ws:aQ}{xs ys:List Operand}
abbrev mII (m:List (Int×Int)):gF:=.map (n3 iv iv m)
abbrev mSI (m:List (List UInt8×Int)):gF:=.map (n3 sv iv m)
abbrev mSB (m:List (List UInt8×Bool)):gF:=.map (n3 sv Value.bool m)
theorem WO.ad2 [ht:QF E t (iv 0)]{m:List (Int×Int)}{k:Int}(hx:Ev l x (.map (some b)))(hy:Ev l y (iv k))(hm:It.lp b (mII m)∈L)(h:∀n,K (iv ((dr m k).getD 0)) L n n (λi=>i=b) Z):WO E X Γ l (.lookup t x y false) L K:=by
 obtain⟨kt,e,kd,h1,h2,h3⟩:=ht.h;exact WO.Wc h1 h2 rfl h3 SJ rfl hx hy hm false h
theorem WO.ad3 [ht:GS E t (iv 0)]{m:List (List UInt8×Int)}{k:List UInt8}(hx:Ev l x (.map (some b)))(hy:Ev l y (sv k))(hm:It.lp b (mSI m)∈L)(h:∀n,K (iv ((dr m k).getD 0)) L n n (λi=>i=b) Z):WO E X Γ l (.lookup t x y false) L K:=by
 obtain⟨kt,e,h1,h2,h3⟩:=ht.h;exact WO.Wc h1 h2 rfl h3 K8 rfl hx hy hm false h
theorem WO.ad4 [ht:GS E t (.bool false)]{m:List (List UInt8×Bool)}{k:List UInt8}(hx:Ev l x (.map (some b)))(hy:Ev l y (sv k))(hm:It.lp b (mSB m)∈L)(h:∀n,K (.bool ((dr m k).getD false)) L n n (λi=>i=b) Z):WO E X Γ l (.lookup t x y false) L K:=by
 obtain⟨kt,e,h1,h2,h3⟩:=ht.h;exact WO.Wc h1 h2 rfl h3 K8 rfl hx hy hm false h
theorem WO.ag2 {z:Value}[ht:QF E t z]{m:List (Int×Int)}{k v:Int}(hx:Ev l x (.map (some b)))(hy:Ev l y (iv k))(hw:Ev l o (iv v))(hu:yQ (.lp b (mII m)) (.lp b (mII (ew m k v))) L L')(h:∀n,K (.tuple ⟨[]⟩) L' n n (λi=>i=b) (λi=>i=b)):WO E X Γ l (.mapUpdate t x y o) L K:=by
 obtain⟨kt,e,kd,h1,h2,h3⟩:=ht.h;exact WO.ad0 h1 h2 rfl SJ hx hy hw hu h
theorem WO.ag3 {z:Value}[ht:GS E t z]{m:List (List UInt8×Int)}{k:List UInt8}{v:Int}(hx:Ev l x (.map (some b)))(hy:Ev l y (sv k))(hw:Ev l o (iv v))(hu:yQ (.lp b (mSI m)) (.lp b (mSI (ew m k v))) L L')(h:∀n,K (.tuple ⟨[]⟩) L' n n (λi=>i=b) (λi=>i=b)):WO E X Γ l (.mapUpdate t x y o) L K:=by
 obtain⟨kt,e,h1,h2,h3⟩:=ht.h;exact WO.ad0 h1 h2 rfl K8 hx hy hw hu h
theorem WO.ag4 {z:Value}[ht:GS E t z]{m:List (List UInt8×Bool)}{k:List UInt8}{v:Bool}(hx:Ev l x (.map (some b)))(hy:Ev l y (sv k))(hw:Ev l o (.bool v))(hu:yQ (.lp b (mSB m)) (.lp b (mSB (ew m k v))) L L')(h:∀n,K (.tuple ⟨[]⟩) L' n n (λi=>i=b) (λi=>i=b)):WO E X Γ l (.mapUpdate t x y o) L K:=by
 obtain⟨kt,e,h1,h2,h3⟩:=ht.h;exact WO.ad0 h1 h2 rfl K8 hx hy hw hu h
theorem WO.ag5 {z:Value}[ht:QF E t z]{m:List (Int×Int)}(hx:Ev l x (.map (some b)))(hm:It.lp b (mII m)∈L)(h:∀n,K (iv (m.length:Int)) L n n (λi=>i=b) Z):WO E X Γ l (.call ⟨.builtin .len,⟨[x]⟩,⟨[t]⟩⟩) L K:=by
 obtain⟨kt,e,kd,h1,h2,h3⟩:=ht.h;exact WO.ad1 h1 hx hm h
theorem Aw:∀vs:aQ,kL l (vs.map Operand.const) vs
 |[]=>.nil
 |v::vs=>.cons .const (Aw vs)
theorem WO.akH (hf:Ev l fv (.func (.func g) ⟨fi⟩ ⟨ca⟩))(hx:kL l xs vs)(k:WO E X Γ l (.call ⟨.value (.func g),⟨(fi++(vs++ca)).map Operand.const⟩,ts⟩) L K):WO E X Γ l (.call ⟨.value fv,⟨xs⟩,ts⟩) L K:=λtm s hl hi=>by
 obtain⟨N,v,s',hk,hr⟩:=k tm s hl hi;refine⟨N,v,s',hk,λn hn lf Cj=>(?_:_=_).trans (hr n hn lf Cj)⟩;generalize q9 E X lf [] n=call;show xb call (aM tm fv) (w9 (aM tm) xs) s=xb call (.func (.func g) #[] #[]) (w9 (aM tm) ((fi++(vs++ca)).map Operand.const)) s;rw[hf.eval hl,qT,qT,hx.eval hl,(Aw _).eval hl];show call g _ s=call g _ s;simp
theorem WO.invoke {mn:String}{it:TypeId}{a:Addr}(hr:Ev l fv (.iface it (.pointer (some a))))(hm:mc it mn E.rV=some g)(hx:kL l xs vs)(k:WO E X Γ l (.call ⟨.value (.func g),⟨(Value.pointer (some a)::vs).map Operand.const⟩,ts⟩) L K):WO E X Γ l (.call ⟨.invoke fv mn,⟨xs⟩,ts⟩) L K:=λtm s hl hi=>by
 obtain⟨N,v,s',hk,R6⟩:=k tm s hl hi;refine⟨N,v,s',hk,λn hn lf Cj=>(?_:_=_).trans (R6 n hn lf Cj)⟩;generalize q9 E X lf [] n=call;show B7 E call (aM tm fv) mn (w9 (aM tm) xs) s=xb call (.func (.func g) #[] #[]) (w9 (aM tm) ((Value.pointer (some a)::vs).map Operand.const)) s;rw[hr.eval hl,qT,qT,hx.eval hl,(Aw _).eval hl];unfold B7;show ob (mc it mn E.rV) _=_;rw[hm];show call g _ s=call g _ s;simp
theorem WO.makeFunc {fn:Fn}(hx:kL l xs vs)(hy:kL l ys ws)(k:∀n,K (.func fn ⟨vs⟩ ⟨ws⟩) L n n Z Z):WO E X Γ l (.makeFunc fn ⟨xs⟩ ⟨ys⟩) L K:=WO.val (λtm s call hl=>by
 show aL (Value.func fn ⟨w9 (aM tm) xs⟩ ⟨w9 (aM tm) ys⟩) s=_;rw[qT,qT,hx.eval hl,hy.eval hl];rfl) k
theorem WO.GU [ht:QG E t]{v:Value}(hx:Ev l x v)(k:∀n,K (.iface t v) L n n Z Z):WO E X Γ l (.makeInterface t x) L K:=WO.val (λtm s call hl=>by
 show NU E t (aM tm x) s=_;rw[hx.eval hl];obtain⟨d,h1,h2⟩:=ht.h;unfold NU;rw[h1];show eg (!isIface d) _=_;rw[h2];rfl) k
theorem WO.nilFunc {f:FuncId}{a b:Array Value}(hx:Ev l x (.func (.func f) a b))(k:∀n,K (.func (.func f) a b) L n n Z Z):WO E X Γ l (.nilCheck x) L K:=WO.val (λtm s call hl=>by
 show Gp E (aM tm x) s=_;rw[hx.eval hl];rfl) k
theorem WO.Wd [ht:adZ E t]{t2:TypeId}{p:aK}(hx:Ev l x (.pointer p))(hy:Ev l y (.pointer none))(k:∀n,K (.bool p.isNone) L n n Z Z):WO E X Γ l (.binOp .eql t x y t2) L K:=WO.bin hx hy (λcc=>by
 obtain⟨u,h1⟩:=ht.h;show ob (ja E t) (λd=>CM .eql (ZN E d (.pointer p) (.pointer none)))=_;rw[h1];cases p<;>rfl) k
end
end Go.Lg
namespace Go.Proofs
open Go Go.Ev Go.Lg
instance:iU a8 3 1:=⟨by kernel_rfl⟩
instance:nN a8 3:=nb cV
instance:ss a8 3 [.int .i64 0]:=kZ cV
instance:xq a8 3 .i64:=⟨by kernel_rfl⟩
instance:iU a8 4 1:=⟨by kernel_rfl⟩
instance:nN a8 4:=nb cV
instance:VX a8 4:=⟨by kernel_rfl⟩
instance:nN a8 5:=nb cV
instance:xq a8 5 .u8:=⟨by kernel_rfl⟩
instance:iU a8 9 1:=⟨by kernel_rfl⟩
instance:nN a8 9:=nb cV
instance:yP a8 9:=⟨by kernel_rfl⟩
instance:nN a8 22:=nb cV
instance We:uk a8 22 5 1 [.int .u8 0]:=tA cV
instance:po a8 22 5 1:=oB We
instance:iU a8 23 1:=⟨by kernel_rfl⟩
instance:nN a8 23:=nb cV
instance Wf:uk a8 23 39 2 [.string ⟨⟨[]⟩⟩,.int .i64 0]:=tA cV
instance:po a8 23 39 2:=oB Wf
instance:iU a8 24 1:=⟨by kernel_rfl⟩
instance:nN a8 24:=nb cV
instance Wg:uk a8 24 61 3 [.int .i64 0,.bool false,.string ⟨⟨[]⟩⟩]:=tA cV
instance:po a8 24 61 3:=oB Wg
instance:iU a8 26 2:=⟨by kernel_rfl⟩
instance:wm a8 26 2:=rE cV
instance:ss a8 26 [.slice none 0 0,.slice none 0 0]:=kZ cV
instance:mh a8 26 [(0,1),(1,1)] [.slice none 0 0,.slice none 0 0]:=j2 cV
instance:iM a8 26 0 0:=dL cV
instance:iM a8 26 1 1:=dL cV
instance:iU a8 28 5:=⟨by kernel_rfl⟩
instance:wm a8 28 5:=rE cV
instance:ss a8 28 [.int .i64 0,.string ⟨⟨[]⟩⟩,.string ⟨⟨[]⟩⟩,.int .i64 0,.string ⟨⟨[]⟩⟩]:=kZ cV
instance:mh a8 28 [(0,1),(1,1),(2,1),(3,1),(4,1)] [.int .i64 0,.string ⟨⟨[]⟩⟩,.string ⟨⟨[]⟩⟩,.int .i64 0,.string ⟨⟨[]⟩⟩]:=j2 cV
instance:iM a8 28 0 0:=dL cV
instance:iM a8 28 1 1:=dL cV
instance:iM a8 28 2 2:=dL cV
instance:iM a8 28 3 3:=dL cV
instance:iM a8 28 4 4:=dL cV
instance:iU a8 39 2:=⟨by kernel_rfl⟩
instance:wm a8 39 2:=rE cV
instance:ss a8 39 [.string ⟨⟨[]⟩⟩,.int .i64 0]:=kZ cV
instance:mh a8 39 [(0,1),(1,1)] [.string ⟨⟨[]⟩⟩,.int .i64 0]:=j2 cV
instance:iM a8 39 0 0:=dL cV
instance:iM a8 39 1 1:=dL cV
instance acf:uk a8 43 28 5 [.int .i64 0,.string ⟨⟨[]⟩⟩,.string ⟨⟨[]⟩⟩,.int .i64 0,.string ⟨⟨[]⟩⟩]:=tA cV
instance:po a8 43 28 5:=oB acf
instance:nN a8 46:=nb cV
instance Wh:uk a8 46 3 1 [.int .i64 0]:=tA cV
instance:po a8 46 3 1:=oB Wh
instance:iU a8 61 3:=⟨by kernel_rfl⟩
instance:wm a8 61 3:=rE cV
instance:ss a8 61 [.int .i64 0,.bool false,.string ⟨⟨[]⟩⟩]:=kZ cV
instance:mh a8 61 [(0,1),(1,1),(2,1)] [.int .i64 0,.bool false,.string ⟨⟨[]⟩⟩]:=j2 cV
instance:iM a8 61 0 0:=dL cV
instance:iM a8 61 1 1:=dL cV
instance:iM a8 61 2 2:=dL cV
instance:iU a8 70 1:=⟨by kernel_rfl⟩
instance:nN a8 70:=nb cV
instance Wi:uk a8 70 9 1 [.string ⟨⟨[]⟩⟩]:=tA cV
instance:po a8 70 9 1:=oB Wi
instance:mh a8 76 [(0,1),(1,1)] [.slice none 0 0,.int .i64 0]:=j2 cV
instance:iM a8 76 0 0:=dL cV
instance:iM a8 76 1 1:=dL cV
instance:iU a8 78 2:=⟨by kernel_rfl⟩
instance:wm a8 78 2:=rE cV
instance:ss a8 78 [.slice none 0 0,.slice none 0 0]:=kZ cV
instance:mh a8 78 [(0,1),(1,1)] [.slice none 0 0,.slice none 0 0]:=j2 cV
instance:iM a8 78 0 0:=dL cV
instance:iM a8 78 1 1:=dL cV
instance:iU a8 79 1:=⟨by kernel_rfl⟩
instance:nN a8 79:=nb cV
instance Wj:uk a8 79 83 5 [.int .i64 0,.int .i64 0,.int .i64 0,.int .i64 0,.int .i64 0]:=tA cV
instance:po a8 79 83 5:=oB Wj
instance:iU a8 81 8:=⟨by kernel_rfl⟩
instance:wm a8 81 8:=rE cV
instance:ss a8 81 [.slice none 0 0,.slice none 0 0,.slice none 0 0,.int .i64 0,.slice none 0 0,.int .i64 0,.slice none 0 0,.bool false]:=kZ cV
instance:mh a8 81 [(0,1),(1,2),(3,1),(4,1),(5,1),(6,1),(7,1)] [.slice none 0 0,.slice none 0 0,.slice none 0 0,.int .i64 0,.slice none 0 0,.int .i64 0,.slice none 0 0,.bool false]:=j2 cV
instance:iM a8 81 0 0:=dL cV
instance:iM a8 81 1 1:=dL cV
instance:iM a8 81 2 3:=dL cV
instance:iM a8 81 3 4:=dL cV
instance:iM a8 81 4 5:=dL cV
instance:iM a8 81 5 6:=dL cV
instance:iM a8 81 6 7:=dL cV
instance:iU a8 83 5:=⟨by kernel_rfl⟩
instance:wm a8 83 5:=rE cV
instance:ss a8 83 [.int .i64 0,.int .i64 0,.int .i64 0,.int .i64 0,.int .i64 0]:=kZ cV
instance:mh a8 83 [(0,1),(1,1),(2,1),(3,1),(4,1)] [.int .i64 0,.int .i64 0,.int .i64 0,.int .i64 0,.int .i64 0]:=j2 cV
instance:iM a8 83 0 0:=dL cV
instance:iM a8 83 1 1:=dL cV
instance:iM a8 83 2 2:=dL cV
instance:iM a8 83 3 3:=dL cV
instance:iM a8 83 4 4:=dL cV
instance:iU a8 85 7:=⟨by kernel_rfl⟩
instance:wm a8 85 7:=rE cV
instance:ss a8 85 [.int .i64 0,.int .i64 0,.int .i64 0,.int .i64 0,.int .i64 0,.int .i64 0,.int .i64 0]:=kZ cV
instance:mh a8 85 [(0,5),(5,1),(6,1)] [.int .i64 0,.int .i64 0,.int .i64 0,.int .i64 0,.int .i64 0,.int .i64 0,.int .i64 0]:=j2 cV
instance:iM a8 85 0 0:=dL cV
instance:iM a8 85 1 5:=dL cV
instance:iM a8 85 2 6:=dL cV
instance Wk:uk a8 127 130 10 [.int .i64 0,.int .i64 0,.int .i64 0,.int .i64 0,.int .i64 0,.int .i64 0,.int .i64 0,.int .i64 0,.int .i64 0,.int .i64 0]:=tA cV
instance:po a8 127 130 10:=oB Wk
instance:iU a8 130 10:=⟨by kernel_rfl⟩
instance:wm a8 130 10:=rE cV
instance:ss a8 130 [.int .i64 0,.int .i64 0,.int .i64 0,.int .i64 0,.int .i64 0,.int .i64 0,.int .i64 0,.int .i64 0,.int .i64 0,.int .i64 0]:=kZ cV
instance:mh a8 130 [(0,1),(1,1),(2,1),(3,7)] [.int .i64 0,.int .i64 0,.int .i64 0,.int .i64 0,.int .i64 0,.int .i64 0,.int .i64 0,.int .i64 0,.int .i64 0,.int .i64 0]:=j2 cV
instance:iM a8 130 0 0:=dL cV
instance:iM a8 130 1 1:=dL cV
instance:iM a8 130 2 2:=dL cV
instance:iM a8 130 3 3:=dL cV
instance:xq a8 132 .u64:=⟨by kernel_rfl⟩
instance:nN a8 134:=nb cV
instance:mh a8 156 [(0,8),(8,7),(15,1)] [.slice none 0 0,.slice none 0 0,.slice none 0 0,.int .i64 0,.slice none 0 0,.int .i64 0,.slice none 0 0,.bool false,.int .i64 0,.int .i64 0,.int .i64 0,.int .i64 0,.int .i64 0,.int .i64 0,.int .i64 0,.bool false]:=j2 cV
instance:iM a8 156 0 0:=dL cV
instance:iM a8 156 1 8:=dL cV
instance:iM a8 156 2 15:=dL cV
instance Wl:uk a8 194 200 2 [.string ⟨⟨[]⟩⟩,.int .i64 0]:=tA cV
instance:po a8 194 200 2:=oB Wl
instance:iU a8 200 2:=⟨by kernel_rfl⟩
instance:wm a8 200 2:=rE cV
instance:ss a8 200 [.string ⟨⟨[]⟩⟩,.int .i64 0]:=kZ cV
instance:mh a8 200 [(0,1),(1,1)] [.string ⟨⟨[]⟩⟩,.int .i64 0]:=j2 cV
instance:iM a8 200 0 0:=dL cV
instance:iM a8 200 1 1:=dL cV
instance:QF a8 63 (iv 0):=⟨3,3,.i64,by kernel_rfl,by kernel_rfl,by kernel_rfl⟩
instance:GS a8 64 (iv 0):=⟨9,3,by kernel_rfl,by kernel_rfl,by kernel_rfl⟩
instance:GS a8 65 (.bool false):=⟨9,4,by kernel_rfl,by kernel_rfl,by kernel_rfl⟩
instance:adZ a8 66:=⟨61,by kernel_rfl⟩
instance:QG a8 94:=⟨.pointer 26,by kernel_rfl,rfl⟩
instance:TEq a8 39 [1,0]:=⟨by decide⟩
instance:TEq a8 61 [0,2,1]:=⟨by decide⟩
instance:TEq a8 83 [0,0,0,0,0]:=⟨by decide⟩
end Go.Proofs
namespace Go.Pl
open Go Go.Ev Go.Lg Go.Proofs
def rF (p:jt):aQ:=[iv p.row,iv p.dg,iv p.size,iv p.sum,iv p.level]
def hU (t:bX):aQ:=[iv t.cy.row,iv t.cy.dg,iv t.cy.size,iv t.cy.sum,iv t.cy.level,iv t.depth,iv t.many]
def xx (n:iG):aQ:=[iv n.kind,iv n.bF,iv n.size,iv n.aS.cy.row,iv n.aS.cy.dg,iv n.aS.cy.size,iv n.aS.cy.sum,iv n.aS.cy.level,iv n.aS.depth,iv n.aS.many]
def Ds (e:aZ):aQ:=[sv e.name,iv e.id]
def Wm (e:a6):aQ:=[sv e.af,iv e.id]
def I4 (e:bC):aQ:=[iv e.id,.bool e.aD,sv e.aW]
def pd (o:Op):aQ:=[iv o.kind,sv o.af,sv o.to,iv o.at_,sv o.aW]
def pv (p:jt):Value:=.agg ⟨rF p⟩
def tv (t:bX):Value:=.agg ⟨hU t⟩
def nv (n:iG):Value:=.agg ⟨xx n⟩
def ov (o:Op):Value:=.agg ⟨pd o⟩
instance:ak aA 1:=⟨λs=>[sv s],[],λ_=>rfl,λs v h=>by simp at h;subst h;rfl,ag⟩
instance:ak Int 1:=⟨λs=>[iv s],0,λ_=>rfl,λs v h=>by simp at h;subst h;rfl,ag⟩
instance:ak UInt8 1:=⟨λs=>[bv s],0,λ_=>rfl,λs v h=>by simp at h;subst h;rfl,ag⟩
instance:ak jt 5:=⟨rF,bq,λ_=>rfl,λs v h=>by simp[rF] at h;rcases h with rfl|rfl|rfl|rfl|rfl<;>rfl,ag⟩
instance:ak aZ 2:=⟨Ds,⟨[],0⟩,λ_=>rfl,λs v h=>by simp[Ds] at h;rcases h with rfl|rfl<;>rfl,ag⟩
instance:ak a6 2:=⟨Wm,⟨[],0⟩,λ_=>rfl,λs v h=>by simp[Wm] at h;rcases h with rfl|rfl<;>rfl,ag⟩
instance:ak bC 3:=⟨I4,⟨0,false,[]⟩,λ_=>rfl,λs v h=>by simp[I4] at h;rcases h with rfl|rfl|rfl<;>rfl,ag⟩
instance:ak iG 10:=⟨xx,bu,λ_=>rfl,λs v h=>by simp[xx] at h;rcases h with rfl|rfl|rfl|rfl|rfl|rfl|rfl|rfl|rfl|rfl<;>rfl,ag⟩
instance:ak Op 5:=⟨pd,⟨0,[],[],0,[]⟩,λ_=>rfl,λs v h=>by simp[pd] at h;rcases h with rfl|rfl|rfl|rfl|rfl<;>rfl,ag⟩
instance:TT a8 70 9 1 aA inferInstance:=⟨_,Wi,[],rfl⟩
instance:TT a8 46 3 1 Int inferInstance:=⟨_,Wh,(0:Int),rfl⟩
instance:TT a8 22 5 1 UInt8 inferInstance:=⟨_,We,(0:UInt8),rfl⟩
instance:TT a8 79 83 5 jt inferInstance:=⟨_,Wj,bq,rfl⟩
instance:TT a8 23 39 2 a6 inferInstance:=⟨_,Wf,(⟨[],0⟩:a6),rfl⟩
instance:TT a8 24 61 3 bC inferInstance:=⟨_,Wg,(⟨0,false,[]⟩:bC),rfl⟩
instance:TT a8 43 28 5 Op inferInstance:=⟨_,acf,(⟨0,[],[],0,[]⟩:Op),rfl⟩
instance:TT a8 127 130 10 iG inferInstance:=⟨_,Wk,bu,rfl⟩
instance:TT a8 194 200 2 aZ inferInstance:=⟨_,Wl,(⟨[],0⟩:aZ),rfl⟩
instance:TD a8 70 1 aA inferInstance []:=⟨_,_,Wi,rfl⟩
instance:TD a8 46 1 Int inferInstance 0:=⟨_,_,Wh,rfl⟩
instance:TD a8 22 1 UInt8 inferInstance 0:=⟨_,_,We,rfl⟩
instance:TD a8 79 5 jt inferInstance bq:=⟨_,_,Wj,rfl⟩
instance:TD a8 23 2 a6 inferInstance ⟨[],0⟩:=⟨_,_,Wf,rfl⟩
instance:TD a8 24 3 bC inferInstance ⟨0,false,[]⟩:=⟨_,_,Wg,rfl⟩
@[simp] theorem ajz:(ak.ah (α:=aA) (sz:=1))=[]:=rfl
@[simp] theorem ajA:(ak.ah (α:=Int) (sz:=1))=0:=rfl
@[simp] theorem akI:(ak.ah (α:=UInt8) (sz:=1))=0:=rfl
@[simp] theorem ajB:(ak.ah (α:=jt) (sz:=5))=bq:=rfl
@[simp] theorem afN:(ak.ah (α:=aZ) (sz:=2))=⟨[],0⟩:=rfl
@[simp] theorem afO:(ak.ah (α:=a6) (sz:=2))=⟨[],0⟩:=rfl
@[simp] theorem afP:(ak.ah (α:=bC) (sz:=3))=⟨0,false,[]⟩:=rfl
@[simp] theorem ag6:(ak.ah (α:=iG) (sz:=10))=bu:=rfl
@[simp] theorem akJ:(ak.ah (α:=Op) (sz:=5))=⟨0,[],[],0,[]⟩:=rfl
abbrev bP:=@qj a8 bj
abbrev Bi:=@fH a8 bj
end Go.Pl
