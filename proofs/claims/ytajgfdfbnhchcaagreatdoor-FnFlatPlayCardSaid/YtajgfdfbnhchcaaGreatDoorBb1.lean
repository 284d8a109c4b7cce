/- Lemmas of the proof. No conditions. -/
import Derived.Test.YtajgfdfbnhchcaaGreatDoorBa1
set_option maxRecDepth 100000
set_option maxHeartbeats 4000000
set_option linter.unusedVariables false
set_option linter.unusedSimpArgs false
namespace Go
variable{P:Prop}
theorem zaq (h:P:=by
 have hv:=xL.slv (hi.it _ hm) λb hb=>(h1 b hb).1
 obtain⟨s',h2,h3⟩:=LK (ht:=ht) (j:=i) ⟨.inl ⟨rfl,rfl⟩,.inr ⟨o,k,rfl,ho⟩,ag⟩ hl hv;have mG:∀call:eX,FK E call (aO tm) s (.slice t x none (some o) none)=some (.slice a i c,s'):=λcall=>by
  show kv E s t (aO tm x) _ _ none=_;rw[hx.eval hl];exact h2
 rcases h3 with rfl|⟨b,lD,rfl⟩
 all_goals(rcases _ with h;exact h)):P:=h
theorem zaH (h:P:=by
 rw[hf];show(uT X f args s<| match fn.body with
   |none=>K4 X f args s
   |some c=>bo (Nat.beq f X.look) (De args s)<| dZ (Nat.ble (ec args) fn.ntmps)<| K5 E fn (lR E (pH E X lf [] n) lf c (kF args (nat_lit 0) .nil) s))=_
 all_goals(rcases _ with h;exact h)):P:=h
theorem zaI (h:P:=by
 have mG:∀call:eX,FK E call (aO tm) s (.slice t x lo ‹Option Operand› none)=some (.slice a' q.length c',s'):=λcall=>by
  show kv E s t (aO tm x) _ _ none=_;rw[hx.eval hl,h2,cX]
 rcases h3 with rfl|⟨b,lD,rfl⟩
 all_goals(rcases _ with h;exact h)):P:=h
theorem zaU (h:P:=by
 have h1:=h.1;have h2:=h.2;unfold IntKind.wrap;simp[IntKind.signed,IntKind.bits];omega
 all_goals(rcases _ with h;exact h)):P:=h
theorem zaX (h:P:=by
 have:=ke h2;simp only[cH] at this;obtain⟨rfl,rfl,rfl⟩:=this;exact⟨hc.1,λX A ρ w a Q hp gP ht hQ=>wp_block (hc.2 X A ρ w a _ hp gP ht hQ)⟩
 all_goals(rcases _ with h;exact h)):P:=h
theorem zaY (h:P:=by
 have:=ke h2;simp only[cH] at this;obtain⟨rfl,rfl,rfl⟩:=this;exact⟨hx.1,λX A ρ w a Q hp gP ht hQ=>wp_seq (hx.2 X A ρ w a _ hp gP ht hQ)⟩
 all_goals(rcases _ with h;exact h)):P:=h
theorem za1 (h:P:=by
 have:=ke h2;simp only[cH] at this;obtain⟨rfl,rfl,rfl⟩:=this;exact⟨FQ.1,λX A ρ w a Q hp gP ht hQ=>xH (FQ.2 X A ρ w a _ hp gP ht hQ)⟩
 all_goals(rcases _ with h;exact h)):P:=h
theorem za3 (h:P:=by
 obtain⟨_,i,v,h5,_,h6,h7,_⟩:=h1.h;obtain⟨_,i',v',h5',_,h6',OM,_⟩:=h3.h;rw[h5] at h5';cases h5';rw[h6] at h6';cases h6';rw[<-h7,<-OM]
 all_goals(rcases _ with h;exact h)):P:=h
end Go
namespace Go.Ev
open Go
variable {E:ig}{P:Program}{call:eX}{aE:List Oper}{TM:Nat->Tm}{S S':Nat->St}{V:Nat->Value}{X A0:Nat->Prop}{ρ0:iD}{w0:World}
section
variable {W:Nat}
def We (S:Nat->St)(k i:Nat):Prop:=(S k).next<=i/\i<(S (k+1)).next
def Dp (aE:List Oper)(S:Nat->St)(A0:Nat->Prop)(j:Nat):Nat->Prop:=λi=>A0 i\/∃k,anc aE j k/\We S k i
def DA (aE:List Oper)(S:Nat->St)(A0:Nat->Prop)(j:Nat):Nat->Prop:=λi=>Dp aE S A0 j i\/We S j i
def S8 (aE:List Oper)(S S':Nat->St)(A0:Nat->Prop)(L:Nat->Bool)(b:Nat)(o:gV)(D:Nat->Prop):Prop:=
 ((∀k,L k=true->¬In (S' k).wr b)/\(S 0).heap.get b=some o/\D=A0)\/
 ∃k,L k=true/\In (S' k).wr b/\(∀k',L k'=true->In (S' k').wr b->k'<=k)/\(S' k).heap.get b=some o/\D=DA aE S A0 k
structure Inv (P:Program)(aE:List Oper)(S S':Nat->St)(V:Nat->Value)(X A0:Nat->Prop)(ρ0:iD)(w0:World)(W:Nat)(L:Nat->Bool)(vals:Nat->Value)(w:World)(ρ:iD):Prop where
 same:∀i,(∀k,L k=true->¬We S k i)->ρ i=ρ0 i
 lz:∀b o D,X b->S8 aE S S' A0 L b o D->D b/\∃x,w.heap[(ρ b).1]?=some x/\FZ P D ρ (ρ b) o x
 inj:∀b b' o o' D D',X b->X b'->S8 aE S S' A0 L b o D->S8 aE S S' A0 L b' o' D'->(ρ b).1=(ρ b').1->b=b'
 vals:∀k,L k=true->VR (DA aE S A0 k) ρ (V k) (vals k)
 fU:Fr w0 w λr=>∃c o,In W c/\X c/\(S 0).heap.get c=some o/\(ρ0 c).1=r
 old:∀b o D,X b->S8 aE S S' A0 L b o D->b<(S 0).next->(S 0).heap.get b≠none
 bI:∀b o D,X b->S8 aE S S' A0 L b o D->(S 0).next<=b->w0.heap.size<=(ρ b).1\/∃c o,In W c/\X c/\(S 0).heap.get c=some o/\(ρ b).1=(ρ0 c).1
theorem dv.ag2 {j:Nat}(hS:(S (j+1)).next=(S' j).next):dv (Dp aE S A0 j) (S j).next (S' j).next=DA aE S A0 j:=by
 funext i
 unfold dv DA We;rw[hS]
section chain
theorem kT (hE:c8 E P)(hC:dP P call)(dS:pG E call aE 0 aE.length TM S V S'){j:Nat}(hj:j<aE.length):aG (S j) (S' j):=by
 obtain⟨o,ho⟩:∃o,aE[j]?=some o:=⟨aE[j],bd hj⟩;rcases(dS.step j o (iG _) hj ho).2.2 with⟨_,h⟩|⟨_,_,h⟩
 .exact(Jl hE hC h).1
 .rw[h];exact aG.refl _
theorem sE (hE:c8 E P)(hC:dP P call)(dS:pG E call aE 0 aE.length TM S V S'){j:Nat}(hj:j<aE.length){b:Nat}(h:In (S' j).wr b):In (S' j).cU b:=
 (kT hE hC dS hj).sub (λc hc=>by rw[(dS.clear j (iG _) (si hj)).2] at hc;exact absurd hc (rv c)) b h
theorem n9 (hE:c8 E P)(hC:dP P call)(dS:pG E call aE 0 aE.length TM S V S'){j:Nat}(hj:j<aE.length):(S (j+1)).next=(S' j).next/\(S (j+1)).heap=(S' j).heap:=by have _h1:=hE;have _h2:=hC;obtain⟨o,ho⟩:∃o,aE[j]?=some o:=⟨aE[j],bd hj⟩;rw[(dS.step j o (iG _) hj ho).2.1,jP];exact⟨rfl,rfl⟩
theorem fu (hE:c8 E P)(hC:dP P call)(dS:pG E call aE 0 aE.length TM S V S'){i j:Nat}(nD:i<=j)(hj:j<=aE.length):(S i).next<=(S j).next:=by
 induction j with
 |zero=>have:i=0:=by omega
        subst this;exact cG _
 |succ j ih=>
  rcases lA i (j+1) with h|h
  .refine gK (ih ag ag) ?_;rw[(n9 hE hC dS ag).1];exact(kT hE hC dS ag).next
  .have:i=j+1:=by omega
   subst this;exact cG _
theorem ry (hE:c8 E P)(hC:dP P call)(dS:pG E call aE 0 aE.length TM S V S')(lV:∀b,(S 0).next<=b->(S 0).heap.get b=none){j:Nat}(hj:j<=aE.length):∀b,(S j).next<=b->(S j).heap.get b=none:=by
 induction j with
 |zero=>exact lV
 |succ j ih=>
  obtain⟨h1,h2⟩:=n9 hE hC dS (j:=j) ag;rw[h1,h2];exact(kT hE hC dS ag).eg (ih ag)
theorem Dv (hE:c8 E P)(hC:dP P call)(dS:pG E call aE 0 aE.length TM S V S')(lV:∀b,(S 0).next<=b->(S 0).heap.get b=none){j:Nat}(hj:j<=aE.length){b:Nat}{o:gV}(h:(S j).heap.get b=some o):((∀k,k<j->¬In (S' k).wr b)/\(S 0).heap.get b=some o)\/∃k,k<j/\In (S' k).wr b/\(∀k',k'<j->In (S' k').wr b->k'<=k)/\(S' k).heap.get b=some o:=by
 induction j with
 |zero=>exact .inl ⟨λk hk=>by omega,h⟩
 |succ j ih=>
  obtain⟨h1,h2⟩:=n9 hE hC dS (j:=j) ag;rw[h2] at h;by_cases hw:In (S' j).wr b
  .exact .inr ⟨j,ag,hw,λk' FP _=>by omega,h⟩
  .have hg:=kT hE hC dS (j:=j) ag;have hb:b<(S j).next:=by
    rcases lA b (S j).next with h3|h3
    .exact h3
    .rcases lA b (S' j).next with h4|h4
     .exact absurd (hg.made b h3 h4) hw
     .rw[hg.eg (ry hE hC dS lV ag) b h4] at h;cases h
   rw[hg.kept b hb hw] at h;rcases ih ag h with⟨h3,h4⟩|⟨k,h3,h4,h5,h6⟩
   .refine .inl ⟨λk hk=>?_,h4⟩;rcases lA k j with h5|h5
    .exact h3 k h5
    .have:k=j:=by omega
     subst this;exact hw
   .refine .inr ⟨k,ag,h4,λk' FP Dw=>?_,h6⟩;rcases lA k' j with h7|h7
    .exact h5 k' h7 Dw
    .have:k'=j:=by omega
     subst this;exact absurd Dw hw
theorem vQ (hE:c8 E P)(hC:dP P call)(dG:∀j oj,aE[j]?=some oj->∀e∈oj.after,Region.binds .any e=true->e.on<j)(dS:pG E call aE 0 aE.length TM S V S')(lV:∀b,(S 0).next<=b->(S 0).heap.get b=none){L:Nat->Bool}{j:Nat}{oj:Oper}(y1:aE[j]?=some oj)(Wf:L j=false)(Vp:∀e∈oj.after,Region.binds .any e=true->L e.on=true)(hL:tH ⟨aE⟩ L)(Ot:∀k,L k=true->k<aE.length)
  {b:Nat}{o:gV}(kR:In (S' j).cU b)(h:(S j).heap.get b=some o):∃D,S8 aE S S' A0 L b o D/\∀i,D i->Dp aE S A0 j i:=by
 have hj:j<aE.length:=(te.1 y1).1;have u9:∀Oo,aE[j]?=some Oo->∀e∈Oo.after,Region.binds .any e=true->L e.on=true:=λOo h'=>by rw[y1] at h';cases h';exact Vp
 have later:∀k',L k'=true->In (S' k').wr b->k'<j:=λk' FP Dw=>by
  rcases CY k' j with h1|h1|h1
  .exact h1
  .subst h1;rw[Wf] at FP;cases FP
  .exfalso;have hkn:=Ot k' FP;rcases dS.apart j k' (iG _) h1 hkn with h2|h2
   .obtain⟨ok,fm⟩:∃o,aE[k']?=some o:=⟨aE[k'],bd hkn⟩;have h3:=xF dG fm h2 L hL (λOo h' e he hb=>hL k' Oo (by simpa using h') FP e he hb);rw[Wf] at h3;cases h3
   .exact h2.2 b ⟨kR,Dw⟩
 rcases Dv hE hC dS lV (si hj) h with⟨h1,h2⟩|⟨k,h1,h2,h3,h4⟩
 .exact⟨A0,.inl ⟨λk hk hw=>h1 k (later k hk hw) hw,h2,rfl⟩,λi hi=>.inl hi⟩
 .have aec:anc aE j k:=by
   rcases dS.apart k j (iG _) h1 hj with h5|h5
   .exact xF dG y1 h5
   .exact absurd ⟨h2,kR⟩ (h5.1 b)
  refine⟨DA aE S A0 k,.inr ⟨k,aec L hL u9,h2,λk' FP Dw=>h3 k' (later k' FP Dw) Dw,h4,rfl⟩,?_⟩;rintro i ((hi|⟨k2,hi,hr⟩)|hi)
  .exact .inl hi
  .exact .inr ⟨k2,Hh aec hi,hr⟩
  .exact .inr ⟨k,aec,hi⟩
end chain
end
variable {L:Nat->Bool}{vals:Nat->Value}{w:World}{ρ:iD}{j:Nat}{oj:Oper}
section
variable {W:Nat}
theorem Hk (hE:c8 E P)(hC:dP P call)(dS:pG E call aE 0 aE.length TM S V S'){k j:Nat}(S7:k≠j)(hk:k<aE.length)(hj:j<aE.length){i:Nat}(h:We S k i):¬We S j i:=by
 rintro⟨h1,h2⟩;obtain⟨h3,h4⟩:=h;rcases lA k j with h5|h5
 .have:=fu hE hC dS (i:=k+1) (j:=j) ag ag;omega
 .have:=fu hE hC dS (i:=j+1) (j:=k) ag ag;omega
theorem ag3 (hE:c8 E P)(hC:dP P call)(dG:∀j oj,aE[j]?=some oj->∀e∈oj.after,Region.binds .any e=true->e.on<j)(dS:pG E call aE 0 aE.length TM S V S')(hA:∀i,A0 i->i<(S 0).next){j:Nat}(hj:j<aE.length):∀i,Dp aE S A0 j i->i<(S j).next:=by
 rintro i (h|⟨k,hk,hr⟩)
 .have:=hA i h;have:=fu hE hC dS (i:=0) (j:=j) ag ag;omega
 .have S7:=Wd dG hk;have:=fu hE hC dS (i:=k+1) (j:=j) ag ag;have:=hr.2;omega
theorem S9 (hE:c8 E P)(hC:dP P call)(dG:∀j oj,aE[j]?=some oj->∀e∈oj.after,Region.binds .any e=true->e.on<j)(dS:pG E call aE 0 aE.length TM S V S')(lV:∀b,(S 0).next<=b->(S 0).heap.get b=none)(hX:∀k,k<aE.length->∀b,In (S' k).cU b->X b)(y1:aE[j]?=some oj)(Wf:L j=false)(Vp:∀e∈oj.after,Region.binds .any e=true->L e.on=true)(hL:tH ⟨aE⟩ L)(Ot:∀k,L k=true->k<aE.length)(hI:Inv P aE S S' V X A0 ρ0 w0 W L vals w ρ):fp P (In (S' j).cU) (Dp aE S A0 j) ρ (S j).heap.get w:=by
 have hj:j<aE.length:=(te.1 y1).1;refine⟨λb o kR h=>?_,λb b' o o' kR acF h h' e=>?_⟩
 .obtain⟨D,hc,jn⟩:=vQ (A0:=A0) hE hC dG dS lV y1 Wf Vp hL Ot kR h;obtain⟨h1,x,h2,h3⟩:=hI.lz b o D (hX j hj b kR) hc;exact⟨jn b h1,x,h2,h3.mono jn (λ_ _=>rfl)⟩
 .obtain⟨D,hc,_⟩:=vQ (A0:=A0) hE hC dG dS lV y1 Wf Vp hL Ot kR h;obtain⟨D',ux,_⟩:=vQ (A0:=A0) hE hC dG dS lV y1 Wf Vp hL Ot acF h';exact hI.inj b b' o o' D D' (hX j hj b kR) (hX j hj b' acF) hc ux e
theorem Lt (hE:c8 E P)(hC:dP P call)(dG:∀j oj,aE[j]?=some oj->∀e∈oj.after,Region.binds .any e=true->e.on<j)(dS:pG E call aE 0 aE.length TM S V S')(lV:∀b,(S 0).next<=b->(S 0).heap.get b=none)(hA:∀i,A0 i->i<(S 0).next)(hX:∀k,k<aE.length->∀b,In (S' k).cU b->X b)(hW:∀k,k<aE.length->∀b,In (S' k).wr b->In W b)(y1:aE[j]?=some oj)(Wf:L j=false)(Vp:∀e∈oj.after,Region.binds .any e=true->L e.on=true)(hL:tH ⟨aE⟩ L)(Ot:∀k,L k=true->k<aE.length)(hI:Inv P aE S S' V X A0 ρ0 w0 W L vals w ρ){w':World}{eK:iD}{v':Value}(hv:VR (dv (Dp aE S A0 j) (S j).next (S' j).next) eK (V j) v')(hG:Good P (In (S' j).cU) (Dp aE S A0 j) ρ (S j) (S' j) w w' eK):
  Inv P aE S S' V X A0 ρ0 w0 W (gQ L j true) (gQ vals j v') w' eK:=by
 have hj:j<aE.length:=(te.1 y1).1;obtain⟨Q9,G9⟩:=n9 hE hC dS hj;have Z7:=kT hE hC dS hj;have u9:∀k Oo,aE[k]?=some Oo->L k=true->∀e∈Oo.after,Region.binds .any e=true->L e.on=true:=λk Oo h' hk=>hL k Oo (by simpa using h') hk
 have jn:=λb=>sE hE hC dS hj (b:=b)
 have Gb:=λb o kR h=>vQ (A0:=A0) (b:=b) (o:=o) hE hC dG dS lV y1 Wf Vp hL Ot kR h
 have akP:(S 0).next<=(S j).next:=fu hE hC dS (iG _) (si hj)
 have AI:∀b o D,S8 aE S S' A0 (gQ L j true) b o D->(In (S' j).wr b/\(S' j).heap.get b=some o/\D=DA aE S A0 j)\/(¬In (S' j).wr b/\S8 aE S S' A0 L b o D):=by
  intro b o D hc;have hup:∀k,L k=true->gQ L j true k=true:=λk hk=>by unfold gQ;split<;>first|rfl|exact hk
  have Ta:gQ L j true j=true:=by simp[gQ]
  rcases hc with⟨h1,h2,h3⟩|⟨k,h1,h2,h3,h4,h5⟩
  .exact .inr ⟨h1 j Ta,.inl ⟨λk hk=>h1 k (hup k hk),h2,h3⟩⟩
  .by_cases hw:In (S' j).wr b
   .have S7:k=j:=by
     rcases CY k j with h6|h6|h6
     .have:=h3 j Ta hw;omega
     .exact h6
     .exfalso;have hk:L k=true:=by unfold gQ at h1;rw[if_neg ag] at h1;exact h1
      have hkn:=Ot k hk;obtain⟨ok,fm⟩:∃o,aE[k]?=some o:=⟨aE[k],bd hkn⟩;rcases dS.apart j k (iG _) h6 hkn with h7|h7
      .have:=xF dG fm h7 L hL (λOo h' e he hb=>u9 k Oo h' hk e he hb);rw[Wf] at this;cases this
      .exact h7.1 b ⟨hw,sE hE hC dS hkn h2⟩
    subst S7;exact .inl ⟨hw,h4,h5⟩
   .have S7:k≠j:=by rintro rfl;exact hw h2
    (have hk:L k=true:=by unfold gQ at h1;rw[if_neg S7] at h1;exact h1);exact .inr ⟨hw,.inr ⟨k,hk,h2,λk' FP Dw=>h3 k' (hup k' FP) Dw,h4,h5⟩⟩
 have hDA:∀k,L k=true->∀i,DA aE S A0 k i->eK i=ρ i:=λk hk i hi=>hG.same i λhr=>by
  rw[<-Q9] at hr;have hkn:=Ot k hk;rcases hi with(hi|⟨k2,hi,nC⟩)|hi
  .have:=hA i hi;omega
  .have y4:L k2=true:=hi L hL (λOo h' e he hb=>u9 k Oo h' hk e he hb);exact Hk hE hC dS (by rintro rfl;rw[Wf] at y4;cases y4) (Ot k2 y4) hj nC hr
  .exact Hk hE hC dS (by rintro rfl;rw[Wf] at hk;cases hk) hkn hj hi hr
 have Lu:∀b o D,S8 aE S S' A0 L b o D->∀i,D i->eK i=ρ i:=by
  rintro b o D (⟨_,_,rfl⟩|⟨k,hk,_,_,_,rfl⟩) i hi
  .exact hG.same i λhr=>by have:=hA i hi;omega
  .exact hDA k hk i hi
 have ag4:∀b,b<(S j).next->eK b=ρ b:=λb hb=>hG.same b λhr=>by omega
 have O1:∀b o,In (S' j).wr b->(S' j).heap.get b=some o->b<(S j).next->∃o2,(S j).heap.get b=some o2:=λb o hw h hb=>
  KJ.1 (hG.old b hb (by rw[h];simp))
 have Wg:∀b o,(S' j).heap.get b=some o->b<(S' j).next:=λb o h=>by
  rcases lA b (S' j).next with h1|h1
  .exact h1
  .rw[hG.eg b h1] at h;cases h
 have hXj:=hX j hj;have ag5:∀b b' o o' D',In (S' j).wr b->(S' j).heap.get b=some o->¬In (S' j).wr b'->X b'->S8 aE S S' A0 L b' o' D'->(eK b).1=(eK b').1->False:=by
  intro b b' o o' D' hw h Dw sd ux e;obtain⟨hD',x',Tb,_⟩:=hI.lz b' o' D' sd ux;rw[Lu b' o' D' ux b' hD'] at e;rcases lA b (S j).next with hb|hb
  .obtain⟨o2,OY⟩:=O1 b o hw h hb;obtain⟨D2,qY,_⟩:=Gb b o2 (jn b hw) OY;rw[ag4 b hb] at e;have:=hI.inj b b' o2 o' D2 D' (hXj b (jn b hw)) sd qY ux e;subst this;exact Dw hw
  .rcases hG.bI b hb (Wg b o h) (by rw[h];simp) with h1|⟨c,o3,vN,qY,Ja,h1⟩
   .have:=(xp.1 Tb).1;omega
   .obtain⟨D3,Vk,_⟩:=Gb c o3 qY Ja;rw[h1] at e;have:=hI.inj c b' o3 o' D3 D' (hXj c qY) sd Vk ux e;subst this;exact Dw vN
 refine⟨λi hi=>?_,λb o D hx hc=>?_,λb b' o o' D D' hx sd hc ux e=>?_,λk hk=>?_,?_,λb o D hx hc hb=>?_,λb o D hx hc hb=>?_⟩
 .rw[hG.same i λhr=>hi j (by simp[gQ]) (by unfold We;rw[Q9];exact hr)];exact hI.same i λk hk=>hi k (by unfold gQ;split<;>first|rfl|exact hk)
 .rcases AI b o D hc with⟨hw,h,rfl⟩|⟨hw,qY⟩
  .have:=hG.state.lz b o (jn b hw) h;rw[dv.ag2 Q9] at this;exact this
  .obtain⟨h1,x,h2,h3⟩:=hI.lz b o D hx qY;have Lp:=Lu b o D qY;refine⟨h1,x,?_,?_⟩
   .rw[Lp b h1,hG.fU.block _ (xp.1 h2).1 ?_]
    .exact h2
    .rintro⟨c,o2,Ja,Vk,hc5,e⟩;obtain⟨D2,hc6,_⟩:=Gb c o2 Vk hc5;have:=hI.inj c b o2 o D2 D (hXj c Vk) hx hc6 qY e;subst this;exact hw Ja
   .rw[Lp b h1];exact h3.mono (λ_ h=>h) Lp
 .rcases AI b o D hc with⟨hw,h,rfl⟩|⟨hw,qY⟩
  .rcases AI b' o' D' ux with⟨Dw,h',rfl⟩|⟨Dw,Wh⟩
   .exact hG.state.inj b b' o o' (jn b hw) (jn b' Dw) h h' e
   .exact(ag5 b b' o o' D' hw h Dw sd Wh e).elim
  .rcases AI b' o' D' ux with⟨Dw,h',rfl⟩|⟨Dw,Wh⟩
   .exact(ag5 b' b o' o D Dw h' hw hx qY e.symm).elim
   .rw[Lu b o D qY b (hI.lz b o D hx qY).1,Lu b' o' D' Wh b' (hI.lz b' o' D' sd Wh).1] at e;exact hI.inj b b' o o' D D' hx sd qY Wh e
 .by_cases S7:k=j
  .subst S7;simp only[gQ,if_true];rw[<-dv.ag2 Q9];exact hv
  .have FP:L k=true:=by unfold gQ at hk;rw[if_neg S7] at hk;exact hk
   simp only[gQ,S7,pB];exact(hI.vals k FP).mono (λ_ h=>h) (hDA k FP)
 .refine⟨hG.fU.os.trans hI.fU.os,hG.fU.tape.trans hI.fU.tape,hG.fU.output.trans hI.fU.output,gK hI.fU.size hG.fU.size,λr hr ht=>?_⟩;rw[hG.fU.block r (xn hr hI.fU.size) ?_,hI.fU.block r hr ht];rintro⟨c,o,vN,qY,Ja,e⟩;obtain⟨D,Vk,_⟩:=Gb c o qY Ja;rcases lA c (S 0).next with h1|h1
  .obtain⟨o2,OY⟩:=KJ.1 (hI.old c o D (hXj c qY) Vk h1);refine ht ⟨c,o2,hW j hj c vN,hXj c qY,OY,?_⟩;rw[<-e,hI.same c λk hk SV=>by
    have:=fu hE hC dS (i:=0) (j:=k) (iG _) (si (Ot k hk));have:=SV.1;omega]
  .rcases hI.bI c o D (hXj c qY) Vk h1 with h2|⟨c',o',h3,h4,h5,h6⟩
   .omega
   .exact ht ⟨c',o',h3,h4,h5,by rw[<-h6,e]⟩
 .rcases AI b o D hc with⟨hw,h,rfl⟩|⟨hw,qY⟩
  .obtain⟨o2,OY⟩:=O1 b o hw h ag;obtain⟨D2,qY,_⟩:=Gb b o2 (jn b hw) OY;exact hI.old b o2 D2 hx qY hb
  .exact hI.old b o D hx qY hb
 .have key:∀c o2,In (S' j).wr c->In (S' j).cU c->(S j).heap.get c=some o2->w0.heap.size<=(ρ c).1\/∃c' o',In W c'/\X c'/\(S 0).heap.get c'=some o'/\(ρ c).1=(ρ0 c').1:=by
   intro c o2 vN qY Ja;obtain⟨D2,Vk,_⟩:=Gb c o2 qY Ja;rcases lA c (S 0).next with h1|h1
   .obtain⟨o3,ho3⟩:=KJ.1 (hI.old c o2 D2 (hXj c qY) Vk h1);refine .inr ⟨c,o3,hW j hj c vN,hXj c qY,ho3,?_⟩;rw[hI.same c λk hk SV=>by
     have:=fu hE hC dS (i:=0) (j:=k) (iG _) (si (Ot k hk));have:=SV.1;omega]
   .exact hI.bI c o2 D2 (hXj c qY) Vk h1
  rcases AI b o D hc with⟨hw,h,rfl⟩|⟨hw,qY⟩
  .rcases lA b (S j).next with h1|h1
   .obtain⟨o2,OY⟩:=O1 b o hw h h1;rw[ag4 b h1];exact key b o2 hw (jn b hw) OY
   .rcases hG.bI b h1 (Wg b o h) (by rw[h];simp) with h2|⟨c,o3,vN,qY,Ja,h2⟩
    .exact .inl (gK hI.fU.size h2)
    .rw[h2];exact key c o3 vN qY Ja
  .rw[Lu b o D qY b (hI.lz b o D hx qY).1];exact hI.bI b o D hx qY hb
end
variable {a0:Act}{N:Nat}{tm jO:Tm}{s s':St}
section
variable {W N:Nat}
theorem O2 (hE:c8 E P)(hC:dP P call)(dS:pG E call aE 0 aE.length TM S V S'){j:Nat}(hj:j<=aE.length){b:Nat}(hb:b<(S 0).next)(hw:∀k,k<j->¬In (S' k).wr b):(S j).heap.get b=(S 0).heap.get b:=by
 induction j with
 |zero=>rfl
 |succ j ih=>
  obtain⟨h1,h2⟩:=n9 hE hC dS (j:=j) ag;rw[h2,(kT hE hC dS ag).kept b (by have:=fu hE hC dS (i:=0) (j:=j) (iG _) ag;omega) (hw j ag),ih ag λk hk=>hw k ag]
theorem O3 (hE:c8 E P)(hC:dP P call)(dS:pG E call aE 0 aE.length TM S V S'){j:Nat}(hj:j<=aE.length){b:Nat}(h1:(S 0).next<=b)(h2:b<(S j).next):∃k,k<j/\In (S' k).wr b:=by
 induction j with
 |zero=>omega
 |succ j ih=>
  obtain⟨h3,h4⟩:=n9 hE hC dS (j:=j) ag;rcases lA b (S j).next with h5|h5
  .obtain⟨k,hk,y4⟩:=ih ag h5;exact⟨k,ag,y4⟩
  .exact⟨j,ag,(kT hE hC dS ag).made b h5 ag⟩
theorem Dx (hE:c8 E P)(hC:dP P call)(dS:pG E call aE 0 aE.length TM S V S')(k:Nat)(vals:Nat->Value):ij ⟨aE⟩ a0 (λ_=>true) vals (k+1)=(ij ⟨aE⟩ a0 (λ_=>true) vals k).put (((⟨aE⟩:Array Oper)[k]?).bind (·.dst)) (vals k):=by
 have _h1:=hE;have _h2:=hC;have _h3:=dS
 conv=>lhs;unfold ij
 simp
theorem Wi (hE:c8 E P)(hC:dP P call)(dS:pG E call aE 0 aE.length TM S V S')(kO:∀o∈aE,u6 N o=true){j:Nat}{L:Nat->Bool}{vals:Nat->Value}{w:World}{ρ:iD}(hA:∀i,A0 i->i<(S 0).next)(Ot:∀k,L k=true->k<aE.length)(hI:Inv P aE S S' V X A0 ρ0 w0 W L vals w ρ)(ht0:On A0 ρ0 N (TM 0) a0)(t:Nat):
  ∀k,k<=aE.length->(∀i o,i<k->aE[i]?=some o->o.dst=some t->anc aE j i/\L i=true)->VR (Dp aE S A0 j) ρ (lZ ((TM k).get t)) ((ij ⟨aE⟩ a0 (λ_=>true) vals k).tmps.getD t undef)
 |0,_,_=>by
  refine(ht0.2 t).mono (λi hi=>.inl hi) λi hi=>?_
  refine hI.same i λk hk hr=>?_
  have:=hA i hi;have:=fu hE hC dS (i:=0) (j:=k) (iG _) (si (Ot k hk));have:=hr.1;omega
 |k+1,hk,h=>by
  obtain⟨o,ho⟩:∃o,aE[k]?=some o:=⟨aE[k],bd ag⟩;have Lo:=kO o (KQ ho);have ih:=Wi hE hC dS kO hA Ot hI ht0 t k ag λi oi hi=>h i oi ag
  rw[Dx hE hC dS,(dS.step k o (iG _) ag ho).1];have By:(⟨aE⟩:Array Oper)[k]?=some o:=by simpa using ho
  rw[By];simp only[Bi];cases hd:o.dst with
  |none=>exact ih
  |some d=>
   have hdN:=n4 Lo d hd;(have jd:(ij ⟨aE⟩ a0 (λ_=>true) vals k).tmps.size=N:=by rw[oU];exact ht0.1);rw[Ln _ d t _ (by rw[jd];exact hdN)];unfold Tm.ij;simp only[T.vI];by_cases htd:t=d
   .subst htd;simp only[if_true];obtain⟨h1,h2⟩:=h k o ag ho hd;refine(hI.vals k h2).mono (λi hi=>?_) (λ_ _=>rfl);rcases hi with(hi|⟨k2,hi,hr⟩)|hi
    .exact .inl hi
    .exact .inr ⟨k2,Hh h1 hi,hr⟩
    .exact .inr ⟨k,h1,hi⟩
   .simp only[htd,pB];exact ih
end
theorem Wj (hE:c8 E P)(hC:dP P call)(hm:P.follows .mixedOrders=true){aE:List Oper}(kO:∀o∈aE,u6 N o=true)(ag6:AH ⟨aE⟩=true)(h:uS E call aE aE 0 tm s []=some (jO,s')):
  aG s s'/\∀X A ρ w a Q id,pq P X A ρ s s' w->Gl A ρ->On A ρ N tm a->(∀a' w',Left P X A ρ N s s' w a jO a' w'->Q Exit.normal a' w')->(Code.region id ⟨aE⟩ true).wp P Q a w:=by
 obtain⟨TM,S,V,S',dS,e1,e2,e3,e4,jn,hA1,hW1,hA2,hW2,_⟩:=Du hE hC aE aE 0 tm s [] ay h;rw[mU] at dS e3 e4 jn hA2 hW2;have Tc:(S 0).next=s.next/\(S 0).heap=s.heap:=by rw[e2,jP];exact⟨rfl,rfl⟩
 have hSn:(S aE.length).next=s'.next/\(S aE.length).heap=s'.heap:=by rw[e4,jP];exact⟨rfl,rfl⟩
 have Ds:=BB ag6;have dG:∀j oj,aE[j]?=some oj->∀e∈oj.after,Region.binds .any e=true->e.on<j:=λj oj hj=>(Ds.2 j oj (by simpa using hj)).1
 have Jq:aG s s':=by
  refine⟨?_,hA1,hW1,λb h1 h2=>?_,λhs b hb=>?_,λb hb hw=>?_,λha b hb=>?_⟩
  .rw[<-Tc.1,<-hSn.1];exact fu hE hC dS (iG _) (cG _)
  .obtain⟨k,hk,y4⟩:=O3 hE hC dS (cG _) (b:=b) ag ag;exact(jn k (iG _) hk).2 b y4
  .rcases hW2 b hb with h1|⟨i,_,h2,h3⟩
   .exact hA1 b (hs b h1)
   .exact(jn i (iG _) h2).1 b (sE hE hC dS h2 h3)
  .rw[<-hSn.2,<-Tc.2];exact O2 hE hC dS (cG _) ag λk hk Dw=>hw ((jn k (iG _) hk).2 b Dw)
  .rw[<-hSn.2];exact ry hE hC dS (by rw[Tc.1,Tc.2];exact ha) (cG _) b ag
 refine⟨Jq,λX A ρ w a Q id hp gP ht hQ=>?_⟩;have lV:∀b,(S 0).next<=b->(S 0).heap.get b=none:=by rw[Tc.1,Tc.2];exact hp.eg
 have hA:∀i,A i->i<(S 0).next:=by rw[Tc.1];exact hp.lt
 have hX:∀k,k<aE.length->∀b,In (S' k).cU b->X b:=λk hk b hb=>hp.cU b ((jn k (iG _) hk).1 b hb)
 have hW:∀k,k<aE.length->∀b,In (S' k).wr b->In s'.wr b:=λk hk=>(jn k (iG _) hk).2
 have ht0:On A ρ N (TM 0) a:=by rw[e1];exact ht
 refine Ga hm ag6 (λL vals w1=>(∀k,L k=true->k<aE.length)/\∃Ca,Inv P aE S S' V X A ρ w.drew s'.wr L vals w1 Ca) (λL vals w1 i o ho hLi Vp hL Ot hI=>?_) (λL vals w1 bV hI=>?_) ?_
 .obtain⟨Dy,Ca,hI⟩:=hI;have By:aE[i]?=some o:=by simpa using ho
  have hi:i<aE.length:=(te.1 By).1;have Lo:=kO o (KQ By);have ag7:∀k,gQ L i true k=true->k<aE.length:=λk hk=>by
   unfold gQ at hk;split at hk
   .omega
   .exact Dy k hk
  have Lr:∀t,t∈o.looksAt ⟨aE⟩->VR (Dp aE S A i) Ca (lZ ((TM i).get t)) ((ij ⟨aE⟩ a (λ_=>true) vals i).tmps.getD t undef):=λt pO=>
   Wi hE hC dS kO hA Dy hI ht0 t i ag λk ok hk fm hd=>by
    rcases(Ds.2 i o ho).2.1 k ok hk (by simpa using fm) with⟨e,he,hb,Vn⟩|KD
    .subst Vn;exact⟨O0 By he hb,Vp e he hb⟩
    .exact absurd pO ((Oper.apart_spec KD).1 t hd)
  have ag8:Gl (Dp aE S A i) Ca:=gP.mono (λj hj=>.inl hj) λj hj=>hI.same j λk hk hr=>by
   have:=hA j hj;have:=fu hE hC dS (i:=0) (j:=k) (iG _) (si (Dy k hk));have:=hr.1;omega
  have iK:=S9 hE hC dG dS lV hX By hLi Vp hL Dy hI;have Wc:Region.wanted o (yielded ⟨aE⟩ (ij ⟨aE⟩ a (λ_=>true) vals i).tmps)=ir aE (TM i) o.guard:=by
   refine AF (A:=Dp aE S A i) (ρ:=Ca) (N:=N) (by rw[oU];exact ht0.1) (λp hp d hd=>n4 (kO p hp) d hd) λg want hg d hd=>?_
   refine Lr d ?_;unfold Oper.looksAt;refine dE _ ?_;have:((⟨aE⟩:Array Oper)[g]?).bind (·.dst)=some d:=by
    unfold mz at hd;rw[dR] at hd;simp only[KN];cases hq:aE[g]? with
    |none=>rw[hq] at hd;cases hd
    |some p=>rw[hq] at hd;exact hd
   rw[hg];simp only[this];simp
  rw[Wc];rcases(dS.step i o (iG _) hi By).2.2 with⟨Oq,mG⟩|⟨Oq,hv,hs⟩
  .refine⟨λ_=>?_,λhf=>by rw[Oq] at hf;cases hf⟩;obtain⟨Cb,akQ⟩:=Jl hE hC mG;have Dz:pq P (In (S' i).cU) (Dp aE S A i) Ca (S i) (S' i) w1:=⟨ag3 hE hC dG dS hA hi,ry hE hC dS lV (si hi),λb hb=>hb,iK⟩;refine Oper.wp_mono (λa' w' Hd=>?_) (akQ (In (S' i).cU) (Dp aE S A i) Ca w1 (ij ⟨aE⟩ a (λ_=>true) vals i) _ Dz ag8 λx hx=>CD (BA Lo x hx) ag8 λt KB=>Lr t ?_)
   .obtain⟨v',ha',FL,OV,hG⟩:=Hd;exact⟨v',ha',ag7,FL,Lt hE hC dG dS lV hA hX hW By hLi Vp hL Dy hI OV hG⟩
   .subst KB;exact cT _ (List.mem_filterMap.2 ⟨.tmp t,by simpa using hx,rfl⟩)
  .refine⟨λhf=>(by rw[Oq] at hf;cases hf),λ_=>⟨ag7,Ca,?_⟩⟩;refine Lt hE hC dG dS lV hA hX hW By hLi Vp hL Dy hI ?_ ?_
   .rw[hv];exact VR.undef
   .rw[hs] at iK⊢;exact Good.refl iK (ry hE hC dS lV (si hi))
 .obtain⟨Dy,Ca,hI⟩:=hI;have acG:∀i,i<aE.length->L i=true:=λi hi=>bV i (by simpa using hi)
  have akR:∀i,A i->Ca i=ρ i:=λi hi=>hI.same i λk hk hr=>by
   have:=hA i hi;have:=fu hE hC dS (i:=0) (j:=k) (iG _) (si (Dy k hk));have:=hr.1;omega
  have aed:∀k i,k<aE.length->We S k i->s.next<=i/\i<s'.next:=λk i hk hr=>by
   have h1:=fu hE hC dS (i:=0) (j:=k) (iG _) (si hk);have h2:=fu hE hC dS (i:=k+1) (j:=aE.length) ag (cG _);have:=hr.1;have:=hr.2;omega
  have hDA:∀k,k<aE.length->∀i,DA aE S A k i->dv A s.next s'.next i:=λk hk i hi=>by
   rcases hi with(hi|⟨k2,hi,hr⟩)|hi
   .exact .inl hi
   .have:=Wd dG hi;exact .inr (aed k2 i ag hr)
   .exact .inr (aed k i hk hi)
  have Gb:∀b o,s'.heap.get b=some o->((∀k,k<aE.length->¬In (S' k).wr b)/\s.heap.get b=some o/\S8 aE S S' A L b o A)\/∃k,k<aE.length/\In (S' k).wr b/\S8 aE S S' A L b o (DA aE S A k):=by
   intro b o hb;rw[<-hSn.2] at hb;rcases Dv hE hC dS lV (cG _) hb with⟨h1,h2⟩|⟨k,h1,h2,h3,h4⟩
   .exact .inl ⟨h1,by rw[<-Tc.2];exact h2,.inl ⟨λk hk=>h1 k (Dy k hk),h2,rfl⟩⟩
   .exact .inr ⟨k,h1,h2,.inr ⟨k,acG k h1,h2,λk' FP Dw=>h3 k' (Dy k' FP) Dw,h4,rfl⟩⟩
  have Wk:∀b o,s'.heap.get b=some o->∃D,S8 aE S S' A L b o D/\∀i,D i->dv A s.next s'.next i:=by
   intro b o hb;rcases Gb b o hb with⟨_,_,h1⟩|⟨k,hk,_,h1⟩
   .exact⟨A,h1,λi hi=>.inl hi⟩
   .exact⟨_,h1,hDA k hk⟩
  refine hQ _ w1 ⟨?_,Ca,?_,⟨Jq.next,λi hi=>?_,⟨λb o hx hb=>?_,λb b' o o' hx sd hb lD e=>?_⟩,?_,λb hb fY=>?_,λb hb Vo fY=>?_,Jq.kept,Jq.eg hp.eg⟩⟩
  .have:∀k,(ij ⟨aE⟩ a (λ_=>true) vals k).defers=a.defers:=λk=>by
    induction k with
    |zero=>rfl
    |succ k ih=>rw[Dx hE hC dS,u7,ih]
   exact this _
  .have key:∀k,k<=aE.length->On (dv A s.next s'.next) Ca N (TM k) (ij ⟨aE⟩ a (λ_=>true) vals k):=λk=>by
    induction k with
    |zero=>exact λ_=>ht0.mono (λi hi=>.inl hi) akR
    |succ k ih=>
     intro hk;obtain⟨o,ho⟩:∃o,aE[k]?=some o:=⟨aE[k],bd ag⟩;rw[Dx hE hC dS,(dS.step k o (iG _) ag ho).1];(have By:(⟨aE⟩:Array Oper)[k]?=some o:=by simpa using ho);rw[By];exact(ih ag).put ((hI.vals k (acG k ag)).mono (hDA k ag) (λ_ _=>rfl)) (n4 (kO o (KQ ho)))
   rw[<-e3];exact key aE.length (cG _)
  .exact hI.same i λk hk hr=>hi (aed k i (Dy k hk) hr)
  .obtain⟨D,hc,hD⟩:=Wk b o hb;obtain⟨h1,x,h2,h3⟩:=hI.lz b o D hx hc;exact⟨hD b h1,x,h2,h3.mono hD (λ_ _=>rfl)⟩
  .obtain⟨D,hc,_⟩:=Wk b o hb;obtain⟨D',ux,_⟩:=Wk b' o' lD;exact hI.inj b b' o o' D D' hx sd hc ux e
  .have:=hI.fU;rw[Tc.2] at this;exact⟨this.os,this.tape,this.output,this.size,this.block⟩
  .obtain⟨o,ho⟩:=KJ.1 fY;rcases Gb b o ho with⟨_,h1,_⟩|⟨k,hk,hw,hc⟩
   .rw[h1];simp
   .have:=hI.old b o _ (hX k hk b (sE hE hC dS hk hw)) hc ag;rw[Tc.2] at this;exact this
  .obtain⟨o,ho⟩:=KJ.1 fY;rcases Gb b o ho with⟨_,h1,_⟩|⟨k,hk,hw,hc⟩
   .rw[hp.eg b hb] at h1;cases h1
   .have:=hI.bI b o _ (hX k hk b (sE hE hC dS hk hw)) hc ag;rw[Tc.2] at this;exact this
 .refine⟨λk hk=>(by cases hk),ρ,λi _=>rfl,λb o D hx hc=>?_,λb b' o o' D D' hx sd hc ux e=>?_,λk hk=>(by cases hk),⟨rfl,rfl,rfl,cG _,λ_ _ _=>rfl⟩,λb o D hx hc hb=>?_,λb o D hx hc hb=>?_⟩
  .rcases hc with⟨_,h1,rfl⟩|⟨k,hk,_⟩
   .rw[Tc.2] at h1;exact hp.st.lz b o hx h1
   .cases hk
  .rcases hc with⟨_,h1,rfl⟩|⟨k,hk,_⟩
   .rcases ux with⟨_,h2,rfl⟩|⟨k,hk,_⟩
    .rw[Tc.2] at h1 h2;exact hp.st.inj b b' o o' hx sd h1 h2 e
    .cases hk
   .cases hk
  .rcases hc with⟨_,h1,rfl⟩|⟨k,hk,_⟩
   .rw[h1];simp
   .cases hk
  .rcases hc with⟨_,h1,rfl⟩|⟨k,hk,_⟩
   .rw[lV b hb] at h1;cases h1
   .cases hk
variable {A:Nat->Prop}{a:Act}{Q:Exit->Act->World->Prop}
def codeOk (N:Nat):Code->Bool
 |.region _ aE draw=>aE.toList.all (u6 N)&&(!draw||AH aE)
 |.seq a b=>codeOk N a&&codeOk N b
 |.cond c a b=>Jm c&&codeOk N a&&codeOk N b
 |.block _ c=>codeOk N c
 |.loop c=>codeOk N c
 |_=>true
def aaA:Ex->Exit
 |.normal=>.normal
 |.exit id=>.exit id
 |.ret=>.ret
def DB (P:Program)(c:Code)(Q:Exit->Act->World->Prop)(a:Act)(w:World):Prop:=
 ∀(b:Frame)(k:List Item)(cs:List Frame),∃e a' w',Q e a' w'/\Arrives P (lone (b.at a (.code c:: .inLoop c::k)) cs w) b k cs e a' w'
theorem aaB {c:Code}(h:DB P c Q a w):(Code.loop c).wp P Q a w:=λb k cs=>by
 obtain⟨e,a',w',hq,F7⟩:=h b k cs;exact⟨e,a',w',hq,.of_steps (.one step_loop) F7⟩
theorem xH {c:Code}(h:c.wp P (Exit.then (DB P c Q) Q) a w):DB P c Q a w:=λb k cs=>by
 obtain⟨e,Wl,Wm,hq,F7⟩:=h b (.inLoop c::k) cs;cases e with
 |normal=>
  obtain⟨akS,akT,akU,ag9,aaC⟩:=hq b k cs;exact⟨akS,akT,akU,ag9,.of_steps (Steps.trans F7 (.one step_inLoop)) aaC⟩
 |exit id=>exact⟨_,Wl,Wm,hq,.pass (x:=.inLoop c) rfl (λ_ _=>.inl ay) F7⟩
 |goto l=>exact⟨_,Wl,Wm,hq,.pass (x:=.inLoop c) rfl (λ_ _=>.inl ay) F7⟩
 |ret=>exact⟨_,Wl,Wm,hq,.pass (x:=.inLoop c) rfl (λ_ _=>.inl ay) F7⟩
 |panic ch=>exact⟨_,Wl,Wm,hq,.pass (x:=.inLoop c) rfl (λ_ _=>.inl ay) F7⟩
 |outgrown=>exact⟨_,Wl,Wm,hq,.pass (x:=.inLoop c) rfl (λ_ _=>.inl ay) F7⟩
def DC (P:Program)(N:Nat)(c:Code)(s:St)(tm:Tm)(e:Ex)(jO:Tm)(s':St)(go:(Exit->Act->World->Prop)->Act->World->Prop):Prop:=
 aG s s'/\∀X A ρ w a Q,pq P X A ρ s s' w->Gl A ρ->On A ρ N tm a->(∀a' w',Left P X A ρ N s s' w a jO a' w'->Q (aaA e) a' w')->go Q a w
theorem Left.same (hp:pq P X A ρ s s w){tm:Tm}(ht:On A ρ N tm a):Left P X A ρ N s s w a tm a w:=
 ⟨rfl,ρ,ht.mono (λi hi=>.inl hi) (λ_ _=>rfl),Good.refl hp.st hp.eg⟩
theorem DC.next {c c2:Code}{s s1 s2:St}{sF tm2:Tm}{e:Ex}{go2:(Exit->Act->World->Prop)->Act->World->Prop}(Cb:aG s s1)(h2:DC P N c2 s1 sF e tm2 s2 go2)(hp:pq P X A ρ s s2 w)(gP:Gl A ρ)
  (hQ:∀a' w',Left P X A ρ N s s2 w a tm2 a' w'->Q (aaA e) a' w'){a1:Act}{w1:World}(hl:Left P X A ρ N s s1 w a sF a1 w1):go2 Q a1 w1:=by
 obtain⟨hd,Ca,ht1,hG⟩:=hl;have Lp:∀i,A i->Ca i=ρ i:=λi hi=>hG.same i (by have:=hp.lt i hi;omega)
 refine h2.2 X _ Ca w1 a1 Q ⟨dv.lt hp.lt Cb.next,hG.eg,hp.cU,hG.state⟩ (gP.mono (λi hi=>.inl hi) Lp) ht1 λa2 w2 uo=>hQ a2 w2 ?_
 obtain⟨Rf,FL,ht2,hG2⟩:=uo;exact⟨Rf.trans hd,FL,ht2.mono (λi hi=>dv.join Cb.next h2.1.next hi) (λ_ _=>rfl),Good.trans hp.cU Cb h2.1 hp.lt hG hG2⟩
theorem pq.part {s1 s2:St}(hp:pq P X A ρ s s2 w)(hg:aG s1 s2):pq P X A ρ s s1 w:=⟨hp.lt,hp.eg,λb hb=>hp.cU b (hg.cU b hb),hp.st⟩
theorem Lv {c:Code}{body:Tm->St->R4}(hb:∀tm s e jO s',body tm s=some (e,jO,s')->DC P N c s tm e jO s' (c.wp P)):∀(n:Nat)(tm:Tm)(s:St){e:Ex}{jO:Tm}{s':St},Dc body n tm s=some (e,jO,s')->DC P N c s tm e jO s' (DB P c)
 |0,tm,s,e,jO,s',h=>by cases h
 |n+1,tm,s,e,jO,s',h=>by
  have h':GX (body tm s) (Dc body n)=some (e,jO,s'):=h;obtain⟨⟨e1,sF,s1⟩,h1,h2⟩:=aD h';have FQ:=hb tm s e1 sF s1 h1;cases e1 with
  |normal=>
   have ih:=Lv hb n sF s1 h2;refine⟨FQ.1.trans ih.1,λX A ρ w a Q hp gP ht hQ=>xH ?_⟩;(refine FQ.2 X A ρ w a _ (hp.part ih.1) gP ht λa1 w1 hl=>?_);exact DC.next (c:=c) (c2:=c) (go2:=DB P c) FQ.1 ih hp gP hQ hl
  |exit id=>
   refine' za1
  |ret=>
   refine' za1
theorem Wn (hE:c8 E P)(hC:dP P call)(hm:P.follows .mixedOrders=true)(lf:Nat):∀(c:Code),codeOk N c=true->∀(tm:Tm)(s:St)(e:Ex)(jO:Tm)(s':St),lR E call lf c tm s=some (e,jO,s')->DC P N c s tm e jO s' (c.wp P):=by
 intro c;induction c with
 |skip=>
  intro _ tm s e jO s' h;have:=ke h;simp only[cH] at this;obtain⟨rfl,rfl,rfl⟩:=this;exact⟨aG.refl _,λX A ρ w a Q hp gP ht hQ=>wp_skip (hQ a w (Left.same hp ht))⟩
 |region id aE draw=>
  intro fm tm s e jO s' h;obtain⟨aE⟩:=aE;simp only[codeOk,bO,gA] at fm;obtain⟨aha,akV⟩:=fm;have h':QY E call aE draw tm s=some (e,jO,s'):=h;cases draw with
  |false=>
   obtain⟨⟨sF,s1⟩,h1,h2⟩:=aD (show GY (K3 E call aE aE tm s)=some (e,jO,s') from h');have:=ke h2;simp only[cH] at this;obtain⟨rfl,rfl,rfl⟩:=this;obtain⟨hg,hk⟩:=Jo hE hC aE aha aE 0 tm s ay h1;refine⟨hg,λX A ρ w a Q hp gP ht hQ=>wp_region ?_⟩;have:=hk X A ρ w a Q hp gP ht hQ
   rwa [List.range_eq_range']
  |true=>
   obtain⟨⟨sF,s1⟩,h1,h2⟩:=aD (show GY (uS E call aE aE 0 tm s [])=some (e,jO,s') from h');have:=ke h2;simp only[cH] at this;obtain⟨rfl,rfl,rfl⟩:=this;obtain⟨hg,hk⟩:=Wj hE hC hm aha (by simpa using akV) h1;exact⟨hg,λX A ρ w a Q hp gP ht hQ=>hk X A ρ w a Q id hp gP ht hQ⟩
 |seq x y ihx ihy=>
  intro fm tm s e jO s' h;simp only[codeOk,bO] at fm;have h':GX (lR E call lf x tm s) (lR E call lf y)=some (e,jO,s'):=h;obtain⟨⟨e1,sF,s1⟩,h1,h2⟩:=aD h';have hx:=ihx fm.1 tm s e1 sF s1 h1;cases e1 with
  |normal=>
   have hy:=ihy fm.2 sF s1 e jO s' h2;refine⟨hx.1.trans hy.1,λX A ρ w a Q hp gP ht hQ=>wp_seq ?_⟩;(refine hx.2 X A ρ w a _ (hp.part hy.1) gP ht λa1 w1 hl=>?_);exact DC.next (c:=x) (c2:=y) (go2:=y.wp P) hx.1 hy hp gP hQ hl
  |exit id=>
   refine' zaY
  |ret=>
   refine' zaY
 |cond c x y ihx ihy=>
  intro fm tm s e jO s' h;simp only[codeOk,bO] at fm;have h':QX (aO tm c) (lR E call lf x tm s) (lR E call lf y tm s)=some (e,jO,s'):=h;unfold QX at h';split at h'
  .rename_i b hb;cases b with
   |true=>
    have hx:=ihx fm.1.2 tm s e jO s' h';refine⟨hx.1,λX A ρ w a Q hp gP ht hQ=>wp_cond_true ?_ (hx.2 X A ρ w a Q hp gP ht hQ)⟩;(have:=CD (tm:=tm) (a:=a) fm.1.1 gP λt _=>ht.2 t);rw[hb] at this;exact this.tn
   |false=>
    have hy:=ihy fm.2 tm s e jO s' h';refine⟨hy.1,λX A ρ w a Q hp gP ht hQ=>wp_cond_false ?_ (hy.2 X A ρ w a Q hp gP ht hQ)⟩;(have:=CD (tm:=tm) (a:=a) fm.1.1 gP λt _=>ht.2 t);rw[hb] at this;exact this.tn
  .cases h'
 |block id c ih=>
  intro fm tm s e jO s' h;have h':adX id (lR E call lf c tm s)=some (e,jO,s'):=h;obtain⟨⟨e1,sF,s1⟩,h1,h2⟩:=aD h';have hc:=ih (by simpa[codeOk] using fm) tm s e1 sF s1 h1;cases e1 with
  |normal=>
   refine' zaX
  |ret=>
   refine' zaX
  |exit i=>
   have h3:bo (Nat.beq i id) (some (Ex.normal,sF,s1)) (some (Ex.exit i,sF,s1))=some (e,jO,s'):=h2;rw[dW] at h3;split at h3
   .rename_i hi;have hi:i=id:=by simpa using hi
    have:=ke h3;simp only[cH] at this;obtain⟨rfl,rfl,rfl⟩:=this;refine⟨hc.1,λX A ρ w a Q hp gP ht hQ=>wp_block (hc.2 X A ρ w a _ hp gP ht λa1 w1 hl=>?_)⟩;simp only[aaA,Exit.inBlock,hi,if_true];exact hQ a1 w1 hl
   .rename_i hi;have hi:¬i=id:=by simpa using hi
    have:=ke h3;simp only[cH] at this;obtain⟨rfl,rfl,rfl⟩:=this;refine⟨hc.1,λX A ρ w a Q hp gP ht hQ=>wp_block (hc.2 X A ρ w a _ hp gP ht λa1 w1 hl=>?_)⟩;simp only[aaA,Exit.inBlock,hi,pB];exact hQ a1 w1 hl
 |loop c ih=>
  intro fm tm s e jO s' h;have h':Dc (lR E call lf c) lf tm s=some (e,jO,s'):=h;have:=Lv (c:=c) (λtm s e jO s'=>ih (by simpa[codeOk] using fm) tm s e jO s') lf tm s h';exact⟨this.1,λX A ρ w a Q hp gP ht hQ=>aaB (this.2 X A ρ w a Q hp gP ht hQ)⟩
 |exit id=>
  intro _ tm s e jO s' h;have:=ke h;simp only[cH] at this;obtain⟨rfl,rfl,rfl⟩:=this;exact⟨aG.refl _,λX A ρ w a Q hp gP ht hQ=>wp_exit (hQ a w (Left.same hp ht))⟩
 |ret=>
  intro _ tm s e jO s' h;have:=ke h;simp only[cH] at this;obtain⟨rfl,rfl,rfl⟩:=this;exact⟨aG.refl _,λX A ρ w a Q hp gP ht hQ=>wp_ret (hQ a w (Left.same hp ht))⟩
 |rangeFunc _ _ _ _ _ _=>intro _ tm s e jO s' h;cases h
 |scope _ _=>intro _ tm s e jO s' h;cases h
 |label _=>intro _ tm s e jO s' h;cases h
 |goto _=>intro _ tm s e jO s' h;cases h
 |refuse _=>intro _ tm s e jO s' h;cases h
abbrev Ent:=Empty
noncomputable section
def pEq (a b:aM):Bool:=match a,b with
 |none,none=>true
 |some ⟨b,o,none⟩,some ⟨b',o',none⟩=>Nat.beq b b'&&Nat.beq o o'
 |_,_=>false
def O4 (a b:Bool):Bool:=bo a b (!b)
mutual
def FR:Value->Value->Bool
 |.bool a,.bool b=>O4 a b
 |.int k a,.int j b=>qo k j&&yK a b
 |.string ⟨⟨a⟩⟩,.string ⟨⟨b⟩⟩=>gB a b
 |.pointer a,.pointer b=>pEq a b
 |.slice a l c,.slice b m d=>pEq a b&&Nat.beq l m&&Nat.beq c d
 |.agg ⟨a⟩,.agg ⟨b⟩=>lEq a b
 |.tuple ⟨a⟩,.tuple ⟨b⟩=>lEq a b
 |.func (.func f) ⟨a⟩ ⟨b⟩,.func (.func g) ⟨c⟩ ⟨d⟩=>Nat.beq f g&&lEq a c&&lEq b d
 |.map none,.map none=>true
 |.map (some a),.map (some b)=>Nat.beq a b
 |.nilFunc,.nilFunc=>true
 |.nilIface,.nilIface=>true
 |_,_=>false
def lEq:a6->a6->Bool
 |[],[]=>true
 |a::x,b::y=>FR a b&&lEq x y
 |_,_=>false
end
def pH (E:ig)(X:fR)(lf:Nat)(tab:List Ent)(n:Nat):eX:=
 Nat.rec (λ_ _ _=>none) (λ_ ih f args s=>ob (E.fn.get f) λfn=>uT X f args s<| match fn.body with
     |none=>K4 X f args s
     |some c=>bo (Nat.beq f X.look) (De args s)<| dZ (Nat.ble (ec args) fn.ntmps)<| K5 E fn (lR E ih lf c (kF args (nat_lit 0) .nil) s)) n
end
def oa (P:Program)(f:FuncId)(h:yR):Prop:=∀args s v s',h args s=some (v,s')->aG s s'/\∀Y A ρ w gD,pq P Y A ρ s s' w->Gl A ρ->LR A ρ args gD->lT P f ⟨gD⟩ w λv' w'=>pw P Y A ρ s s' w v v' w'
structure Wo (E:ig)(P:Program)(X:fR):Prop where
 wV:∀p∈X.wV,oa P p.1 p.2
 enter:∀f fn c,E.fn.get f=some fn->fn.body=some c->∀args w,(callFunc f args).run P w= .ok (.enter f args) w
 code:∀f fn c,E.fn.get f=some fn->f≠X.look->fn.body=some c->codeOk fn.ntmps c=true
 sw:∀x w,(callFunc X.sw #[x]).run P w= .ok (.value x) w
 indexByte:∀(z:List UInt8)(c:Nat) w,c<256->(callFunc X.indexByte #[.string ⟨⟨z⟩⟩,.int .u8 (.ofNat c)]).run P w= .ok (.value (.int .i64 (FW c z 0))) w
 byte:P.cellsOf X.byte=1
 tj:∀fn,E.fn.get X.tj=some fn->∀(n:Nat) w,n<=1000000->∃cs:a6,(callFunc X.tj #[.int .i64 (.ofNat n)]).run P w= .ok (.value (.slice (some ⟨w.heap.size,0,none⟩) n cs.length)) (w.drew.drew.alloc (.cells ⟨cs⟩ X.byte))/\cs.length<=maxLen
 look:∀fn,E.fn.get X.look=some fn->∀(b o n c:Nat)(a:aM)(k:Nat)(g:Value)(i:Nat)(z:List UInt8) w,i<n->w.cell? ⟨b,o+i,none⟩=some (.string ⟨⟨z⟩⟩)->
  Calls P X.look #[.agg ⟨[.slice (some ⟨b,o,none⟩) n c,.slice a 0 k,g]⟩,.int .i64 (.ofNat i)] w λe w'=>e= .returned (.string ⟨⟨z⟩⟩)/\Fr w w' λ_=>False
section
theorem vR (r:ResultVar)(l:List ResultVar)(s:St):Dd E tm (r::l) s=match r with
  |.tmp t=>ob (Dd E tm l s) λp=>some (lZ (tm.get t)::p.1,p.2)
  |.cell a t=>FJ (lZ (tm.get a)) λb o=>ob (mw E s t b o) λq=>ob (Dd E tm l q.2) λp=>some (q.1::p.1,p.2):=rfl
theorem Jr (hE:c8 E P):∀(l:List ResultVar)(s:St){vs:a6}{s':St},Dd E tm l s=some (vs,s')->aG s s'/\s'.heap=s.heap/\s'.next=s.next/\∀X A ρ w (a:Act),(∀b,In s'.cU b->X b)->fp P X A ρ s.heap.get w->(∀t,VR A ρ (lZ (tm.get t)) (a.tmps.getD t undef))->
  ∃CA,(l.mapM (λ(r:ResultVar)=>match r with|.tmp t=>pure (a.tmps.getD t undef)|.cell x t=>do loadVar t (<-asAddr (a.tmps.getD x undef))):Sem (a6)).run P w= .ok CA w/\LR A ρ vs CA
 |[],s,vs,s',h=>by
  have:=ke h;simp only[cH] at this;obtain⟨rfl,rfl⟩:=this;exact⟨aG.refl _,rfl,rfl,λX A ρ w a _ _ _=>⟨[],ay,LR.nil⟩⟩
 |r::l,s,vs,s',h=>by
  rw[vR] at h;cases r with
  |tmp t=>
   obtain⟨⟨vs1,s1⟩,h1,h2⟩:=aD h;have:=ke h2;simp only[cH] at this;obtain⟨rfl,rfl⟩:=this;obtain⟨hg,e1,e2,hk⟩:=Jr hE l s h1;refine⟨hg,e1,e2,λX A ρ w a hX iK ht=>?_⟩;obtain⟨CA,h3,h4⟩:=hk X A ρ w a hX iK ht;refine⟨a.tmps.getD t undef::CA,?_,LR.cons (ht t) h4⟩;simp only[FV,Sem.run_bind,Sem.run_pure,Result.andThen_ok,h3]
  |cell x t=>
   obtain⟨b,o,hx,h1⟩:=I6 h;obtain⟨⟨v,s1⟩,h2,h3⟩:=aD h1;obtain⟨⟨vs1,s2⟩,h4,h5⟩:=aD h3;have:=ke h5;simp only[cH] at this;obtain⟨rfl,rfl⟩:=this;obtain⟨rfl,hl⟩:=K9 hE h2;obtain⟨hg,e1,e2,hk⟩:=Jr hE l _ h4;refine⟨(aG.aY s b).trans hg,by rw[e1];simp,by rw[e2];simp,λX A ρ w a hX iK ht=>?_⟩;obtain⟨v',h6,h7⟩:=hl X A ρ w (hX b (hg.cU b (gi s b))) iK;obtain⟨CA,h8,h9⟩:=hk X A ρ w a hX (by simpa using iK) ht;refine⟨v'::CA,?_,LR.cons h7 h9⟩;have hv:=ht x;rw[hx] at hv;(have Cc:(asAddr (a.tmps.getD x undef)).run P w= .ok ⟨(ρ b).1,o,none⟩ w:=by rw[hv.nM];rfl);simp only[FV,Sem.run_bind,Cc,Sem.run_pure,Result.andThen_ok,h6,h8]
theorem aaD {vs CA:a6}(h:LR A ρ vs CA):VR A ρ (gL vs) (if h:(⟨CA⟩:Array Value).size=1 then(⟨CA⟩:Array Value)[0] else .tuple ⟨CA⟩):=by
 have hl:=h.length;unfold gL;split
 .rename_i v;obtain⟨u,us,rfl,hu,SX⟩:=h.iQ;have:us=[]:=mO (by simpa using hl);subst this;simpa using hu
 .rename_i fY;rw[dif_neg]
  .exact VR.tuple h
  .intro h1;have h2:vs.length=1:=by rw[<-hl];simpa using h1
   match vs,h2 with
   |[v],_=>exact fY v rfl
theorem Js (v:Value)(l:a6)(i:Nat)(tm:Tm):kF (v::l) i tm=kF l (i+1) (tm.set (Nat.succ i) i (some v)):=by
 have h:kF (v::l) i tm=VH v λv=>(tm.set (Nat.succ i) i (some v)).now λtm=>kF l (Nat.succ i) tm:=rfl
 rw[h,aaj,T.OJ]
theorem va:∀(l:a6)(i:Nat)(tm:Tm)(t:Nat),(kF l i tm).get t=if i<=t/\t<i+l.length then l[t-i]? else tm.get t
 |[],i,tm,t=>by
  have:kF [] i tm=tm:=rfl;rw[this,if_neg (by simp only[lW];omega)]
 |v::l,i,tm,t=>by
  rw[Js,va l,T.vI];by_cases h:t=i
  .subst h;rw[if_neg ag,if_pos rfl,if_pos ay];simp
  .simp only[h,pB];by_cases h2:i+1<=t/\t<i+1+l.length
   .rw[if_pos h2,if_pos (by simp;omega)];rw[show t-i=(t-(i+1))+1 by omega];simp
   .rw[if_neg h2,if_neg (by simp;omega)]
theorem akW {a b:Bool}:bo a b false=(a&&b):=by cases a<;>rfl
theorem Td {a b:Bool}(h:O4 a b=true):a=b:=by cases a<;>cases b<;>simp_all [O4]
theorem Wp {a b:aM}(h:pEq a b=true):a=b:=by
 unfold pEq at h;split at h
 .rfl
 .rw[bO] at h;have h1:=nR h.1;have h2:=nR h.2;subst h1 h2;rfl
 .cases h
mutual
theorem Wq:∀(x y:Value),FR x y=true->x=y
 |.bool a,y,h=>by
  cases y<;>simp only[FR,jY] at h
  rw[Td h]
 |.int k a,y,h=>by
  cases y<;>simp only[FR,jY,bO] at h
  rw[vL h.1];have:=h.2;rw[jN] at this;simp at this;rw[this]
 |.string ⟨⟨a⟩⟩,y,h=>by
  cases y<;>simp only[FR,jY] at h
  rw[eY] at h;simp at h;rw[h]
 |.pointer a,y,h=>by
  cases y<;>simp only[FR,jY] at h
  rw[Wp h]
 |.slice a l c,y,h=>by
  cases y<;>simp only[FR,jY,bO] at h
  rw[Wp h.1.1,nR h.1.2,nR h.2]
 |.agg ⟨a⟩,y,h=>by
  cases y<;>simp only[FR,jY] at h
  rw[DD _ _ h]
 |.tuple ⟨a⟩,y,h=>by
  cases y<;>simp only[FR,jY] at h
  rw[DD _ _ h]
 |.func fn ⟨a⟩ ⟨b⟩,y,h=>by
  cases fn<;>cases y<;>(try(simp only[FR,jY] at h;done))
  rename_i f fn2 c d;cases fn2<;>(try(simp only[FR,jY] at h;done))
  simp only[FR,bO] at h;rw[nR h.1.1,DD _ _ h.1.2,DD _ _ h.2]
 |.nilFunc,y,h=>by
  cases y<;>first|rfl|(simp only[FR,jY] at h;done)
 |.nilIface,y,h=>by
  cases y<;>first|rfl|(simp only[FR,jY] at h;done)
 |.float _ _,y,h=>by cases y<;>simp only[FR,jY] at h
 |.complex _ _ _,y,h=>by cases y<;>simp only[FR,jY] at h
 |.map a,y,h=>by
  cases y
  case map b=>
   (cases a<;>cases b<;>first|rfl|(simp only[FR,jY] at h;done)|skip);rename_i a b;simp only[FR] at h;rw[nR h]
  all_goals cases a<;>simp only[FR,jY] at h
 |.chan _,y,h=>by cases y<;>simp only[FR,jY] at h
 |.iface _ _,y,h=>by cases y<;>simp only[FR,jY] at h
theorem DD:∀(x y:a6),lEq x y=true->x=y
 |[],[],_=>rfl
 |[],_::_,h=>by simp only[lEq,jY] at h
 |_::_,[],h=>by simp only[lEq,jY] at h
 |a::x,b::y,h=>by
  simp only[lEq,bO] at h;rw[Wq a b h.1,DD x y h.2]
end
theorem lT.mono {f:FuncId}{args:Array Value}{R R':Value->World->Prop}(h:lT P f args w R)(hr:∀v w,R v w->R' v w):lT P f args w R':=by
 rcases h with⟨v,w',h1,h2⟩|⟨g,as_,w',h1,h2⟩
 .exact .inl ⟨v,w',h1,hr _ _ h2⟩
 .exact .inr ⟨g,as_,w',h1,h2.mono λe w'' ⟨v,he,hh⟩=>⟨v,he,hr _ _ hh⟩⟩
theorem Ws {X:fR}(hF:Wo E P X){fn:Func}(Lw:E.fn.get X.tj=some fn){args:a6}{v:Value}(h:zeroV X args s=some (v,s')):
  aG s s'/\∀Y A ρ w gD,pq P Y A ρ s s' w->Gl A ρ->LR A ρ args gD->lT P X.tj ⟨gD⟩ w λv' w'=>pw P Y A ρ s s' w v v' w':=by
 unfold zeroV at h;split at h
 .rename_i n;obtain⟨hc,h2⟩:=bz h;simp only[bO,nG] at hc;have:=aH h2;simp only[cH] at this;obtain⟨rfl,rfl⟩:=this;refine⟨aG.jL s _,λY A ρ w gD hp gP hl=>.inl ?_⟩;obtain⟨x',r,rfl,hx,hr⟩:=hl.iQ;have:r=[]:=mO (by simpa using hr.length);subst this;rw[hx.mB];obtain⟨cs,nZ,cX⟩:=hF.tj fn Lw n w hc.2;refine⟨_,_,nZ,ρ.at s.next (w.heap.size,cs.length),?_,?_⟩
  .have:=VR.slice (A:=dv A s.next (s.new (.cells [] X.byte true)).next) (ρ:=ρ.at s.next (w.heap.size,cs.length)) (b:=s.next) (o:=0) (l:=n) (c:=ew) (.inr ⟨cG _,ay⟩);simpa[bX,dq] using this
  .refine Good.alloc (o:=.cells [] X.byte true) (x:=.cells ⟨cs⟩ X.byte) hp.st hp.eg hp.lt (λc=>by simp) ay (kh s _) (cG _) ?_ ?_ ?_
   .have:=heap_alloc_new w.drew.drew (.cells ⟨cs⟩ X.byte);exact this
   .refine⟨[],cs,(0,0),rfl,LR.nil,λ_=>⟨rfl,?_,?_,cX⟩,λh=>by cases h⟩
    .rw[hF.byte];simp
    .rw[hF.byte];exact Nat.one_pos
   .have:=Fr.alloc w.drew.drew (.cells ⟨cs⟩ X.byte);exact⟨this.os,this.tape,this.output,this.size,this.block⟩
 .cases h
theorem Good.aee {s1:St}{w1:World}(iK:fp P X A ρ s.heap.get w)(Az:∀b,s.next<=b->s.heap.get b=none)(hn:s1.next=s.next)(hg:s1.heap=s.heap)(hf:Fr w w1 λ_=>False):Good P X A ρ s s1 w w1 ρ:=by refine⟨ag,λ_ _=>rfl,?_,⟨hf.os,hf.tape,hf.output,hf.size,λr hr _=>hf.block r hr λh=>h⟩,λb _ h=>by rw[hg] at h;exact h,λb h1 h2=>by omega,λb _ _=>by rw[hg],λb hb=>by rw[hg];exact Az b ag⟩;rw[hg];refine⟨λb o hx hb=>?_,iK.inj⟩;obtain⟨h1,x,h2,h3⟩:=iK.lz b o hx hb;refine⟨.inl h1,x,?_,h3.mono (λi hi=>.inl hi) (λ_ _=>rfl)⟩;rw[hf.block _ (xp.1 h2).1 λh=>h];exact h2
theorem Wt {X:fR}(hF:Wo E P X)(Wu:∀args w,(callFunc X.look args).run P w= .ok (.enter X.look args) w){fn:Func}(Lw:E.fn.get X.look=some fn){args:a6}{v:Value}(h:De args s=some (v,s')):
  aG s s'/\∀Y A ρ w gD,pq P Y A ρ s s' w->Gl A ρ->LR A ρ args gD->lT P X.look ⟨gD⟩ w λv' w'=>pw P Y A ρ s s' w v v' w':=by
 unfold De at h;split at h
 .rename_i b o n c a k g i;obtain⟨hi,h2⟩:=bz h;have hi:i<n:=mT hi;obtain⟨cs,e,u,hg,h3⟩:=ml h2;obtain⟨v1,hv1,h4⟩:=aD h3;split at h4
  rotate_left
  .cases h4
  rename_i z;have:=aH h4;simp only[cH] at this;obtain⟨rfl,rfl⟩:=this;rw[dR] at hv1;refine⟨aG.aY s b,λY A ρ w gD hp gP hl=>.inr ?_⟩;obtain⟨x',r,rfl,hx,hr⟩:=hl.iQ;obtain⟨y',r2,rfl,hy,nC⟩:=hr.iQ;have:r2=[]:=mO (by simpa using nC.length);subst this;rw[hy.mB];obtain⟨xs,rfl,SN⟩:=hx.Q3;obtain⟨x1,xs,rfl,hx1,SN⟩:=SN.iQ;obtain⟨x2,xs,rfl,Tb,SN⟩:=SN.iQ;obtain⟨x3,xs,rfl,hx3,SN⟩:=SN.iQ;have:xs=[]:=mO (by simpa using SN.length);subst this;obtain⟨hA,c',aS,fr,r1,r2,r3,r4,r5,r6⟩:=hp.st.row (hp.cU b (gi s b)) hg;obtain⟨v',OV,hv3⟩:=r2.get hv1;have OV:c'[o+i]?=some v':=OV;have akX:∃a' k',x2= .slice a' 0 k':=by
   cases a with
   |none=>exact⟨none,k,Tb.jm⟩
   |some a=>obtain⟨a',sd⟩:=Tb.tq;exact⟨some a',_,sd⟩
  obtain⟨a',k',rfl⟩:=akX;rw[hx1.fS];have qq:w.cell? ⟨(ρ b).1,o+i,none⟩=some v':=by
   rw[vK r1,wE (te.1 OV).1];exact OV
  have:=hv3.uU;subst this;refine⟨_,_,w,Wu _ _,(hF.look fn Lw (ρ b).1 o n _ a' k' x3 i z w hi qq).mono λe w' hh=>?_⟩;obtain⟨rfl,hf⟩:=hh;exact⟨_,rfl,ρ,hv3.mono (λi hi=>.inl hi) (λ_ _=>rfl),Good.aee hp.st hp.eg ay ay hf⟩
 .cases h
theorem Lx {X:fR}{f:FuncId}{args:a6}{k:Option (Value×St)}{r:Value×St}(h:uT X f args s k=some r):k=some r\/∃p∈X.wV,p.1=f/\p.2 args s=some r:=by
 have key:∀l:List (Nat×yR),List.rec (motive:=λ_=>Option (Value×St)) k (λp _ ih=>bo (Nat.beq p.1 f) (p.2 args s) ih) l=some r->k=some r\/∃p∈l,p.1=f/\p.2 args s=some r:=by
  intro l;induction l with
  |nil=>exact λh=>.inl h
  |cons p l ih=>
   intro h;have h:bo (Nat.beq p.1 f) (p.2 args s) (List.rec (motive:=λ_=>Option (Value×St)) k (λp _ ih=>bo (Nat.beq p.1 f) (p.2 args s) ih) l)=some r:=h;rw[dW] at h;split at h
   .rename_i hb;exact .inr ⟨p,ay,by simpa using hb,h⟩
   .rcases ih h with h|⟨q,hq,h1⟩
    .exact .inl h
    .exact .inr ⟨q,by simp[hq],h1⟩
 exact key X.wV h
theorem DE (hE:c8 E P){X:fR}(hF:Wo E P X)(hm:P.follows .mixedOrders=true)(lf:Nat){tab:List Ent}(hT:∀e∈tab,False):∀n,dP P (pH E X lf tab n)
 |0=>λf args s v s' h=>by cases h
 |n+1=>λf args s v s' h=>by
  obtain⟨fn,Lw,h1⟩:=aD h;rcases Lx h1 with hk|⟨p,hp,Ly,hk⟩
  case inr=>subst Ly;exact hF.wV p hp args s v s' hk
  clear h1;have h1:=hk;clear hk;split at h1
  .unfold K4 at h1;rw[dW,dW,dW] at h1;split at h1
   .rename_i hf;have hf:f=X.sw:=by simpa using hf
    subst hf;obtain⟨u,hu,h2⟩:=aD h1;have:=aH h2;simp only[cH] at this;obtain⟨rfl,rfl⟩:=this;refine⟨aG.refl _,λY A ρ w gD hp gP hl=>.inl ?_⟩;unfold id1 at hu;split at hu
    .rename_i x;have:=ke hu;subst this;obtain⟨x',r,rfl,hx,hr⟩:=hl.iQ;have:r=[]:=mO (by simpa using hr.length);subst this;exact⟨x',w,hF.sw x' w,ρ,hx.mono (λi hi=>.inl hi) (λ_ _=>rfl),Good.refl hp.st hp.eg⟩
    .cases hu
   .split at h1
    .rename_i hf;have hf:f=X.indexByte:=by simpa using hf
     subst hf;obtain⟨u,hu,h2⟩:=aD h1;have:=aH h2;simp only[cH] at this;obtain⟨rfl,rfl⟩:=this;refine⟨aG.refl _,λY A ρ w gD hp gP hl=>.inl ?_⟩;unfold VM at hu;split at hu
     .rename_i z c;obtain⟨ahb,hu⟩:=bz hu;have:=ke hu;subst this;obtain⟨x',r,rfl,hx,hr⟩:=hl.iQ;obtain⟨y',r2,rfl,hy,nC⟩:=hr.iQ;have:r2=[]:=mO (by simpa using nC.length);subst this;rw[hx.uU,hy.mB];exact⟨_,w,hF.indexByte z c w (mT ahb),ρ,VR.int _ _,Good.refl hp.st hp.eg⟩
     .cases hu
    .split at h1
     .rename_i hf;have hf:f=X.tj:=by simpa using hf
      subst hf;exact Ws hF Lw h1
     .cases h1
  .rename_i c hc;rw[dW] at h1;split at h1
   .rename_i hf;have hf:f=X.look:=by simpa using hf
    subst hf;exact Wt hF (hF.enter _ fn c Lw hc) Lw h1
   rename_i aef;(have aef:f≠X.look:=by simpa using aef);obtain⟨hla,h2⟩:=bz h1;have hla:args.length<=fn.ntmps:=by simpa using hla
   obtain⟨⟨e,tm,s1⟩,h3,h4⟩:=aD h2;have ih:=DE hE hF hm lf hT n;have Wv:=Wn hE ih hm lf c (hF.code f fn c Lw aef hc) _ _ _ _ _ h3;have key:∀(fY:e= .normal\/e= .ret),(ob (Dd E tm fn.results.toList s1) λp=>some (gL p.1,p.2))=some (v,s')->aG s s'/\∀Y A ρ w gD,pq P Y A ρ s s' w->Gl A ρ->LR A ρ args gD->lT P f ⟨gD⟩ w λv' w'=>pw P Y A ρ s s' w v v' w':=by
    intro fY h5;obtain⟨⟨vs,s2⟩,h6,h7⟩:=aD h5;have:=ke h7;simp only[cH] at this;obtain⟨rfl,rfl⟩:=this;obtain⟨Cw,e1,e2,Jt⟩:=Jr hE _ _ h6;refine⟨Wv.1.trans Cw,λY A ρ w gD hp gP hl=>.inr ⟨f,⟨gD⟩,w,hF.enter f fn c Lw hc _ _,?_⟩⟩;refine calls_of_wp (hE.fn f fn Lw) hc ?_;have acE:gD.length=args.length:=hl.length;have ht:On A ρ fn.ntmps (kF args 0 .nil) {tmps:=(⟨gD⟩:Array Value)++Array.replicate (fn.ntmps-(⟨gD⟩:Array Value).size) undef,defers:=[]}:=by
     refine⟨by simp;omega,λt=>?_⟩;rw[va,T.get_nil];by_cases h8:0<=t/\t<0+args.length
     .rw[if_pos h8,Nat.sub_zero];have h9:t<args.length:=by omega
      obtain⟨u',Vq,V3⟩:=hl.get (bd h9);rw[bd h9];have FM:((⟨gD⟩:Array Value)++Array.replicate (fn.ntmps-(⟨gD⟩:Array Value).size) undef).getD t undef=u':=by
       rw[QM,aae (by simp;omega)];simp[Vq]
      rw[FM];exact V3
     .rw[if_neg h8];have FM:((⟨gD⟩:Array Value)++Array.replicate (fn.ntmps-(⟨gD⟩:Array Value).size) undef).getD t undef=undef:=by
       rw[QM,Array.getElem?_append_right (by simp;omega)];simp only[Array.getElem?_replicate];split<;>rfl
      rw[FM];exact VR.undef
    have Om:pq P Y A ρ s s1 w:=hp.part Cw;refine Wv.2 Y A ρ w _ _ Om gP ht λa1 w1 He=>?_
    obtain⟨hd,Ca,ht1,hG⟩:=He;obtain⟨CA,h8,h9⟩:=Jt Y (dv A s.next s1.next) Ca w1 a1 hp.cU hG.state ht1.2;have nZ:(results fn a1.tmps).run P w1= .ok (if h:(⟨CA⟩:Array Value).size=1 then(⟨CA⟩:Array Value)[0] else .tuple ⟨CA⟩) w1:=by
     unfold results;rw[Array.mapM_eq_mapM_toList];simp only[map_eq_pure_bind,Sem.run_bind,Sem.run_pure];generalize hXX:Sem.run P (List.mapM _ fn.results.toList) w1=XX;have Tb:XX= .ok CA w1:=hXX.symm.trans h8;rw[Tb];rfl
    have Hd:∃v,Ending.returned (if h:(⟨CA⟩:Array Value).size=1 then(⟨CA⟩:Array Value)[0] else .tuple ⟨CA⟩)= .returned v/\pw P Y A ρ s s2 w (gL vs) v w1:=by
     refine⟨_,rfl,Ca,?_,?_⟩
     .rw[e2];exact aaD h9
     .exact Good.trans hp.cU Wv.1 Cw hp.lt hG (Good.VO hG.state hG.eg e2 e1 rfl rfl rfl rfl)
    rcases fY with rfl|rfl
    .exact⟨hd,_,nZ,Hd⟩
    .exact⟨hd,_,nZ,Hd⟩
   cases e with
   |normal=>exact key (.inl rfl) h4
   |ret=>exact key (.inr rfl) h4
   |exit id=>cases h4
end
end Go.Ev
namespace Go.Pl
abbrev az:=List UInt8
def fV (n lo hi:Int):Bool:=decide (lo<=n)&&decide (n<=hi)
def gW (n:Nat):az:=if h:n<10 then [UInt8.ofNat (48+n)] else gW (n/ 10)++[UInt8.ofNat (48+n% 10)]
def dec (n:Int):az:=match n with
 |.ofNat n=>gW n
 |.negSucc n=>45::gW (n+1)
def kU (c:UInt8):Bool:=decide (48<=c.toNat)&&decide (c.toNat<=57)
def tI (s:az):az:=(s.take 9).takeWhile kU
def numOf (s:az):Nat:=s.foldl (λn c=>10*n+(c.toNat-48)) 0
def kV (s:az):Nat×Nat:=
 let d:=tI s
 if 1<d.length/\s.headD 0=48 then(0,1) else(numOf d,d.length)
def iR (s:az):Option Nat:=
 let r:=kV s
 if r.2=0\/r.2≠s.length then none else some r.1
def cut (c:UInt8):az->List az
 |[]=>[[]]
 |x::s=>if x=c then []::cut c s else match cut c s with
  |[]=>[[x]]
  |w::r=>(x::w)::r
def fieldsOf (l:List az):az:=(l.map λs=>gW s.length++58::s).flatten
def kW:List az->az->Option az
 |[],out=>some out
 |s::l,out=>if 2048<s.length then none else
  let o:=out++(gW s.length++58::s)
  if 2048<o.length then none else kW l o
def jo (l:List az):Option az:=if 60<l.length then none else kW l []
def sG:Nat->az->List az->Option (List az)
 |0,_,_=>none
 |_+1,[],out=>some out
 |f+1,s,out=>
  let(n,k):=kV s
  if k=0\/s.length<=k\/s.getD k 0≠58\/s.length-k-1<n then none
  else sG f (s.drop (k+1+n)) (out++[(s.drop (k+1)).take n])
def fa (s:az):Option (List az):=
 match(if 2048<s.length then some [] else sG (s.length+1) s []) with
 |none=>none
 |some out=>match jo out with
  |none=>none
  |some t=>if t=s then some out else none
def Lz:az->Nat->Nat->Nat
 |[],a,b=>a*9973+b
 |c::s,a,b=>Lz s ((a+c.toNat+1)% 9973) ((b+(a+c.toNat+1)% 9973)% 9973)
def sumOf (s:az):Nat:=Lz s 1 0
structure jF where
 row:Int
 dt:Int
 size:Int
 sum:Int
 level:Int
deriving DecidableEq,Repr,Inhabited
abbrev dg:=List jF
def bA:jF:=⟨0,0,0,0,0⟩
def aI (p:jF):Bool:=decide (p=bA)
def Te (n:Int):Bool:=fV n 8 63
def Ju (s:az):Bool:=decide (1<=s.length)&&decide (s.length<=128)
def bC (p:jF):Bool:=aI p||(Te p.row&&fV p.dt 1 900&&fV p.size 1 128&&fV p.sum 0 99460728&&fV p.level 0 2)
def eM (p:jF):az:=if !bC p then [] else if aI p then [45] else
 dec p.row++46::(dec p.dt++46::(dec p.size++46::(dec p.sum++46::dec p.level)))
def jq (s:az):Option jF:=if s=[45] then some bA else
 match cut 46 s with
 |[a,b,c,d,e]=>match iR a,iR b,iR c,iR d,iR e with
  |some a,some b,some c,some d,some e=>
   let p:jF:=⟨a,b,c,d,e⟩
   if !bC p||aI p then none else some p
  |_,_,_,_,_=>none
 |_=>none
def sH (row dt level:Int)(s:az):Option jF:=
 let p:jF:=⟨row,dt,s.length,sumOf s,level⟩
 if !Ju s then none else if !bC p then none else some p
def fits (p:jF)(s:az):Bool:=bC p&&!aI p&&decide (p.size=s.length)&&decide (p.sum=sumOf s)
def iL (c:UInt8):List az->az
 |[]=>[]
 |[s]=>s
 |s::l=>s++c::iL c l
def kx (l:dg):Option az:=
 if l.length≠4 then none else if l.any (λp=>!bC p) then none else if l.all aI then none else some (iL 44 (l.map eM))
def ky (s:az):Option (dg):=
 match(cut 44 s).mapM jq with
 |none=>none
 |some l=>if l.length≠4\/l.all aI then none else some l
structure au where
 ez:List az
 bc:List Int
 dw:List Int
 fJ:Int
 cP:dg
 oV:Int
 eu:dg
 same:Bool
deriving Repr,Inhabited
def bW (same:Bool):au:=⟨List.replicate 64 [],List.replicate 64 0,List.replicate 64 0,1,[],0,[],same⟩
def gy (st:au)(p:jF):az:=st.ez.getD p.row.toNat []
def j4 (st:au)(p:jF):Option az:=if aI p then some [] else if fits p (gy st p) then some (gy st p) else none
def y5 (st:au)(s:az)(i:Nat):Bool:=decide (st.ez.getD i []=s)&&decide (st.dw.getD i 0<st.fJ)&&decide (st.bc.getD i 0<st.fJ)
def nO (p:Nat->Bool):Nat->Nat->Option Nat
 |0,_=>none
 |n+1,i=>if p i then some i else nO p n (i+1)
def Ww (st:au)(s:az):Option Nat:=nO (y5 st s) 56 8
def DF (st:au):Option Nat:=nO (λi=>decide (st.bc.getD i 0=0)) 56 8
def oH (st:au)(s:az)(level:Int):Option Nat:=
 match(if st.same&&decide (level=0) then Ww st s else none) with
 |some i=>some i
 |none=>DF st
def bk (st:au)(s:az)(level:Int):Option (au×jF):=
 match oH st s level with
 |none=>none
 |some i=>match sH i st.fJ level s with
  |none=>none
  |some p=>some ({st with ez:=st.ez.set i s,bc:=st.bc.set i (st.bc.getD i 0+1),dw:=st.dw.set i st.fJ},p)
def drop (st:au)(row:Int):au:=
 let i:=row.toNat
 let n:=st.bc.getD i 0-1
 {st with bc:=st.bc.set i n,dw:=if n=0 then st.dw.set i 0 else st.dw,ez:=if n=0 then st.ez.set i [] else st.ez}
def free (st:au)(p:jF):au:=
 if aI p then st else if p.dt<=st.oV then {st with eu:=st.eu++[p]} else if p.dt<st.fJ then {st with cP:=st.cP++[p]} else drop st p.row
def next (st:au):au:={(st.cP.foldl (λst p=>drop st p.row) st) with cP:=[],fJ:=st.fJ+1}
structure cB where
 cI:jF
 depth:Int
 many:Int
deriving DecidableEq,Repr,Inhabited
def fh:cB:=⟨bA,0,0⟩
def cQ (many:Int):Int:=if many<=1 then 0 else if many<=4 then 1 else 2
def dh (n:Nat):dg:=List.replicate n bA
def below (st:au)(p:jF)(level:Int):Option (dg):=
 if aI p then some (dh 4) else
 if !bC p||decide (p.level≠level)||decide (st.fJ<p.dt) then none else
 match j4 st p with
 |none=>none
 |some s=>match ky s with
  |none=>none
  |some l=>if l.any (λq=>decide (p.dt<q.dt)) then none else some l
def down (st:au)(level:Int)(l:dg):Option (dg):=(l.mapM λp=>below st p level).map List.flatten
def gX (st:au)(t:cB):Option (dg):=go t.depth.toNat [t.cI]
where go:Nat->dg->Option (dg)
 |0,l=>some l
 |n+1,l=>match down st (n+1:Nat) l with
  |none=>none
  |some l=>go n l
def kX (st:au)(many:Int)(i:Nat)(p:jF):Bool:=aI p||((j4 st p).isSome&&decide (p.level=0)&&decide (p.dt<=st.fJ)&&decide ((i:Int)<many))
def kG (f:Nat->jF->Bool):Nat->dg->Bool
 |_,[]=>true
 |i,p::l=>f i p&&kG f (i+1) l
def fw (st:au)(t:cB):Bool:=
 fV t.many 0 16&&decide (t.depth=cQ t.many)&&bC t.cI&&match gX st t with
  |none=>false
  |some l=>kG (kX st t.many) 0 l
def wide (st:au)(t:cB):dg:=
 let l:=(gX st t).getD []
 l++dh (16-l.length)
def bq (st:au)(p:jF):az:=(j4 st p).getD []
def Tf (st:au)(t:cB)(k:Nat):az:=bq st ((wide st t).getD k bA)
def iy (st:au)(t:cB):List az:=((wide st t).take t.many.toNat).map (bq st)
def fL (st:au)(t:cB):dg:=
 if t.depth=0\/aI t.cI then [] else
 t.cI::if t.depth=2 then((below st t.cI 2).getD []).filter (λp=>!aI p) else []
def O5 (st:au)(l:dg)(level:Int)(old:jF):Option (au×jF):=
 if l.all aI then some (st,bA) else
 let s:=(kx l).getD []
 if !aI old&&fits old s&&decide (gy st old=s) then some (st,old) else bk st s level
def jb (st:au)(t:cB)(depth level:Int):dg:=
 if t.depth≠depth then dh 4 else if level=depth then [t.cI] else(below st t.cI depth).getD (dh 4)
def fj (l:dg):dg:=l++dh ((4-l.length% 4)% 4)
def kz (level:Int):dg->dg->au->dg->dg->au×Option (dg×dg)
 |a::b::c::d::l,was,st,stays,out=>match O5 st [a,b,c,d] level (was.headD bA) with
  |none=>(st,none)
  |some (st,p)=>kz level l was.tail st (if p=was.headD bA then stays++[p] else stays) (out++[p])
 |_,_,st,stays,out=>(st,some (stays,out))
def iB (t:cB)(depth:Int):Nat->Int->dg->au->dg->au×Option (dg×dg)
 |0,_,l,st,stays=>(st,some (stays,l))
 |n+1,level,l,st,stays=>match kz level (fj l) (jb st t depth level) st stays [] with
  |(st,none)=>(st,none)
  |(st,some (stays,l))=>iB t depth n (level+1) l st stays
def dI (l:dg)(st:au):au:=l.foldl free st
def ij (st:au)(t:cB)(lv:dg)(many:Int):au×Option cB:=
 let depth:=cQ many
 let old:=fL st t
 match iB t depth depth.toNat 1 (lv.take many.toNat) st [] with
 |(st,none)=>(st,none)
 |(st,some (stays,l))=>(dI (old.filter λp=>!(stays.contains p)) st,some ⟨l.headD bA,depth,many⟩)
def Jv (st:au)(s:az):Option (au×jF):=if s=[] then some (st,bA) else bk st s 0
def nH (st:au)(t:cB)(k:Nat)(s:az):au×cB×Bool:=
 let lv:=wide st t
 let old:=lv.getD k bA
 let was:=bq st old
 let many:=max t.many (k+1)
 if was=s/\many=t.many then(st,t,true) else
 match(if was=s then some (st,old) else Jv st s) with
 |none=>(st,t,false)
 |some (st1,p)=>match ij st1 t (lv.set k p) many with
  |(eN,none)=>(eN,fh,false)
  |(eN,some t2)=>(if p=old then eN else free eN old,t2,true)
def tJ (st:au)(t:cB)(many:Int):au×cB×Bool:=
 if many=t.many then(st,t,true) else
 let lv:=wide st t
 match ij st t lv many with
 |(eN,none)=>(eN,t,false)
 |(eN,some t2)=>(dI (lv.drop many.toNat) eN,t2,true)
def qw:Nat->au->dg->dg->Option (dg)
 |0,_,_,_=>none
 |_+1,_,[],out=>some out
 |f+1,st,p::l,out=>if aI p then qw f st l out else
  qw f st (if 0<p.level then(below st p p.level).getD []++l else l) (out++[p])
structure iM where
 kind:Int
 bK:Int
 size:Int
 aX:cB
deriving DecidableEq,Repr,Inhabited
def bB:iM:=⟨0,0,0,fh⟩
def dx (size each:Int):Int:=(size+each-1)/ each
def fy (kind:Int):Int:=if kind=1 then 12 else if kind=2 then 128 else 0
def fA (kind size:Int):Int:=if fy kind=0||!fV size 0 (16*fy kind) then -1 else dx size (fy kind)
def eD (n:iM):Bool:=
 let many:=fA n.kind n.size
 !(decide (many<0)||decide (n.aX.many≠many)||decide (n.aX.depth≠cQ many)||!bC n.aX.cI)&&
   (fV n.bK 1 (if n.kind=2 then 1 else 9)&&(aI n.aX.cI||decide (n.aX.cI.level=n.aX.depth)))
def j5 (n:iM):List az:=[dec n.kind,dec n.bK,dec n.size,eM n.aX.cI,dec n.aX.depth,dec n.aX.many,[101,110,100]]
def gj (n:iM):az:=if !eD n then [] else(jo (j5 n)).getD []
def qZ (s:az):Int:=((iR s).getD 0:Nat)
def eR (s:az):Option iM:=match fa s with
 |some [a,b,c,d,e,f,_]=>
  let n:iM:=⟨qZ a,qZ b,qZ c,(jq d).getD bA,qZ e,qZ f⟩
  if !eD n||decide (gj n≠s) then none else some n
 |_=>none
def nI (s:az):az:=(s.reverse.dropWhile (·=0)).reverse
def iz (n:Int):az:=List.replicate n.toNat 0
def oJ (st:au)(t:cB):Bool:=fw st t&&(iy st t).all λs=>decide (s=[])||match eR s with
 |none=>false
 |some n=>fw st n.aX
def jr (st:au)(t:cB)(k:Int):Option iM:=if !fV k 0 (t.many-1) then none else eR (Tf st t k.toNat)
def pK (st:au)(t:cB)(k:Nat)(n:iM):au×cB×Bool:=nH st t k (gj n)
def mm (BD:Int):Nat->Nat->List az->Nat
 |_,n,[]=>n
 |k,n,s::l=>mm BD (k+1) (if decide ((k:Int)≠BD)&&decide (s≠[]) then k+1 else n) l
def rz (st:au)(t:cB)(BD:Int):Nat:=mm BD 0 0 (iy st t)
def vb (st:au)(t:cB):Option Nat:=nO (λk=>decide ((iy st t).getD k []=[])) 16 0
def xI (st:au)(t:cB):dg:=(qw 200 st [t.cI] []).getD []
def eb (st:au)(t:cB)(k:Int):au×cB×Bool:=
 let n:=(jr st t k).getD bB
 let many:=rz st t k
 match nH (dI (xI st n.aX) st) t k.toNat [] with
 |(st,t,false)=>(st,t,false)
 |(st,t,true)=>tJ st t many
structure bf where
 name:az
 id:Int
deriving DecidableEq,Repr,Inhabited
def aU (s:az):Bool:=s.all (λc=>decide (97<=c.toNat)&&decide (c.toNat<=122))&&decide (1<=s.length)&&decide (s.length<=4)
def bS:az->az->Bool
 |[],[]=>false
 |[],_::_=>true
 |_::_,[]=>false
 |a::s,b::t=>if a.toNat<b.toNat then true else if b.toNat<a.toNat then false else bS s t
def mP:List bf->Bool
 |a::b::l=>bS a.name b.name&&mP (b::l)
 |_=>true
def bD (l:List bf):Bool:=l.all (λe=>aU e.name&&fV e.id 1 15)&&mP l&&decide (l.length<=12)
def bn (l:List bf):az:=(l.map λe=>e.name++61::(dec e.id++[59])).flatten
def ma (s:az):Option bf:=match cut 61 s with
 |[a,b]=>some ⟨a,qZ b⟩
 |_=>none
def iS (s:az):Option (List bf):=match(cut 59 s).dropLast.mapM ma with
 |none=>none
 |some l=>if !bD l||decide (bn l≠s) then none else some l
def eE (l:List bf)(name:az):Option Nat:=l.findIdx? λe=>decide (e.name=name)
def gz (l:List bf)(e:bf):List bf:=match l with
 |[]=>[e]
 |x::l=>if bS e.name x.name then e::x::l else x::gz l e
def eA (l:List bf)(i:Nat):List bf:=l.take i++l.drop (i+1)
def dB:Nat->az->List az
 |0,_=>[]
 |f+1,s=>if 128<s.length then s.take 128::dB f (s.drop 128) else if s=[] then [] else [s]
def lE:List az->Nat->au->cB->au×cB×Bool
 |[],_,st,t=>(st,t,true)
 |s::l,i,st,t=>match nH st t i s with
  |(st,t,true)=>lE l (i+1) st t
  |(da,_,false)=>(da,t,false)
def kH (st:au)(t:cB)(s:az):au×cB×Bool:=
 let l:=dB (s.length+1) s
 if 16<l.length then(st,t,false) else match lE l 0 st t with
  |(st,t,false)=>(st,t,false)
  |(st,t,true)=>tJ st t l.length
def px (many:Int):Nat->List az->az->Option az
 |_,[],out=>some out
 |k,s::l,out=>if decide (s=[])||(decide ((k:Int)+1<many)&&decide (s.length≠128)) then none else px many (k+1) l (out++s)
def oK (st:au)(t:cB):Option az:=px t.many 0 (iy st t) []
def bR (st:au)(n:iM):Option (List bf):=
 if !eD n||decide (n.kind≠2)||!fw st n.aX then none else match oK st n.aX with
  |none=>none
  |some s=>if(s.length:Int)≠n.size then none else iS s
def gu (size:Int)(k:Nat):Int:=min 12 (size-k*12)
def kY (st:au)(n:iM):Bool:=eD n&&decide (n.kind=1)&&fw st n.aX&&go 0 (iy st n.aX)
where go:Nat->List az->Bool
 |_,[]=>true
 |k,s::l=>decide ((s.length:Int)<=gu n.size k)&&decide (nI s=s)&&go (k+1) l
def qy (size:Int):Nat->List az->az->az
 |_,[],out=>out
 |k,s::l,out=>qy size (k+1) l (out++s++iz (gu size k-s.length))
def bE (st:au)(n:iM):az:=qy n.size 0 (iy st n.aX) []
def ki (s:az):Nat->Nat->au->iM->au×iM×Bool
 |0,_,st,n=>(st,n,true)
 |m+1,k,st,n=>match nH st n.aX k (nI ((s.take (min s.length ((k+1)*12))).drop (k*12))) with
  |(st,t,true)=>ki s m (k+1) st {n with aX:=t}
  |(da,_,false)=>(da,n,false)
def gE (st:au)(n:iM)(s:az)(a b:Nat):au×iM×Bool:=ki s (b+1-a) a st {n with size:=s.length}
def gk (all:az)(at_:Nat)(s:az):az:=
 let all:=all++iz ((at_:Int)-all.length)
 all.take at_++s++all.drop (min all.length (at_+s.length))
def fH (st:au)(n:iM)(at_:Nat)(s:az):au×iM×Bool:=
 if s=[] then(st,n,true) else gE st n (gk (bE st n) at_ s) (at_/ 12) ((at_+s.length-1)/ 12)
def fB (st:au)(n:iM)(size:Nat):au×iM×Bool:=
 let all:=bE st n
 let many:=dx size 12
 if n.size<=size then
  let n:={n with size:=(size:Int)}
  if many=n.aX.many then(st,n,true) else match nH st n.aX (many-1).toNat [] with
   |(st,t,ok)=>(st,{n with aX:=t},ok)
 else match tJ st n.aX many with
  |(da,_,false)=>(da,n,false)
  |(st,t,true)=>
   let n:={n with aX:=t,size:=(size:Int)}
   if many=0 then(st,n,true) else gE st n (all.take size) (many-1).toNat (many-1).toNat
def aF (s:az):List az:=if s=[47] then [] else(cut 47 s).tail
def aP (s:az):Bool:=if s=[47] then true else if s=[]||decide (s.headD 0≠47) then false else(aF s).all aU&&decide ((aF s).length<=4)
def pathOf (l:List az):az:=if l=[] then [47] else(l.map λs=>47::s).flatten
def under (s top:az):Bool:=aP s&&aP top&&decide ((aF top).length<=(aF s).length)&&decide (pathOf ((aF s).take (aF top).length)=pathOf (aF top))
structure Op where
 kind:Int
 af:az
 to:az
 at_:Int
 bq:az
deriving DecidableEq,Repr,Inhabited
def ik (o:Op):Bool:=
 let two:=decide (o.kind=6)||decide (o.kind=7)
 let at2:=decide (o.kind=3)||decide (o.kind=4)
 if !fV o.kind 1 7||!aP o.af||(two&&!aP o.to)||(!two&&decide (o.to≠[])) then false
 else if(decide (o.kind≠3)&&decide (o.bq≠[]))||decide (24<o.bq.length) then false
 else decide (o.at_=0)||(at2&&fV o.at_ 0 192)
structure Fs where
 st:au
 t:cB
 cJ:Bool
deriving Repr,Inhabited
def oW (E:Int->Option (List bf)):List az->Int->Int
 |[],at_=>at_
 |s::l,at_=>match E at_ with
  |none=>-1
  |some es=>match eE es s with
   |none=>-1
   |some k=>oW E l (es.getD k ⟨[],0⟩).id
namespace Fs
def node (f:Fs)(id:Int):iM:=(jr f.st f.t id).getD bB
def bM (f:Fs)(id:Int):List bf:=(bR f.st (f.node id)).getD []
def put (f:Fs)(id:Int)(n:iM):Fs:=if f.cJ then f else match pK f.st f.t id.toNat n with
 |(st,t,ok)=>⟨st,t,!ok⟩
def bk (f:Fs)(id:Int)(l:List bf):Fs:=if f.cJ then f else
 let n:=f.node id
 let s:=bn l
 match kH f.st n.aX s with
 |(st,t,ok)=>Fs.put ⟨st,f.t,!ok⟩ id {n with aX:=t,size:=s.length}
def Hl (f:Fs)(l:List az)(at_:Int):Int:=oW (λi=>bR f.st (f.node i)) l at_
def bU (f:Fs)(af:az):Int×Int:=
 let ad:=aF af
 if ad=[] then(0,3) else
 let at_:=f.Hl ad.dropLast 0
 if at_<0 then(0,2) else if(f.node at_).kind≠2 then(0,4) else(at_,0)
def di (f:Fs)(af:az):Int:=f.Hl (aF af) 0
def bI (f:Fs)(af:az):Int×Int:=
 let r:=f.bU af
 if 0<r.2 then(0,r.2) else if 0<=f.di af then(0,3) else(r.1,0)
def base (af:az):az:=(aF af).getLastD []
def make (f:Fs)(af:az)(kind:Int):Fs×Int:=
 let r:=f.bI af
 if 0<r.2 then(f,r.2) else
 let l:=f.bM r.1
 match vb f.st f.t with
 |none=>(f,6)
 |some id=>if 12<=l.length then(f,6) else((f.put id ⟨kind,1,0,fh⟩).bk r.1 (gz l ⟨base af,id⟩),0)
def change(f:Fs)(o:Op):Fs×Int:=
 let id:=f.di o.af
 if id<0 then(f,2) else
 let n:=f.node id
 if n.kind≠1 then(f,4) else if 192<o.at_+o.bq.length then(f,6) else
 match(if o.kind=3 then fH f.st n o.at_.toNat o.bq else fB f.st n o.at_.toNat) with
 |(st,n,ok)=>(Fs.put ⟨st,f.t,!ok⟩ id n,0)
def qz (f:Fs)(af:az):Fs×Int:=
 let id:=f.di af
 if id<0 then(f,2) else
 let n:=f.node id
 if id=0\/(n.kind=2/\0<n.size) then(f,5) else
 let at_:=(f.bU af).1
 let l:=f.bM at_
 let f:=f.bk at_ (eA l ((eE l (base af)).getD 0))
 let n:={n with bK:=n.bK-1}
 if 0<n.bK then(f.put id n,0) else if f.cJ then(f,0) else match eb f.st f.t id with
  |(st,t,ok)=>(⟨st,t,!ok⟩,0)
def link (f:Fs)(af to:az):Fs×Int:=
 let id:=f.di af
 if id<0 then(f,2) else
 let n:=f.node id
 if n.kind≠1 then(f,4) else
 let r:=f.bI to
 if 0<r.2 then(f,r.2) else
 let l:=f.bM r.1
 if 9<=n.bK\/12<=l.length then(f,6) else
 ((f.put id {n with bK:=n.bK+1}).bk r.1 (gz l ⟨base to,id⟩),0)
def move (f:Fs)(af to:az):Fs×Int:=
 let id:=f.di af
 if id<0 then(f,2) else if id=0 then(f,5) else if 0<=f.di to then(f,3) else if under to af then(f,5) else
 let r:=f.bU to
 if 0<r.2 then(f,r.2) else
 let from_:=(f.bU af).1
 if r.1≠from_/\12<=(f.bM r.1).length then(f,6) else
 let old:=f.bM from_
 let old:=eA old ((eE old (base af)).getD 0)
 let e:bf:=⟨base to,id⟩
 if r.1=from_ then(f.bk r.1 (gz old e),0) else
 let f:=f.bk from_ old
 (f.bk r.1 (gz (f.bM r.1) e),0)
end Fs
def fb (st:au)(t:cB)(o:Op):au×cB×Int:=
 let f:Fs:=⟨st,t,false⟩
 let r:=if o.kind=1 then f.make o.af 1 else if o.kind=2 then f.make o.af 2 else if o.kind=5 then f.qz o.af else
  if o.kind=6 then f.link o.af o.to else if o.kind=7 then f.move o.af o.to else f.change o
 let code:=if r.2=0/\r.1.cJ then 7 else r.2
 if code≠0 then(st,t,code) else(r.1.st,r.1.t,code)
structure a7 where
 af:az
 id:Int
deriving DecidableEq,Repr,Inhabited
def fC (st:au)(t:cB):List iM:=(iy st t).map λs=>(eR s).getD bB
def dU (af name:az):az:=if af=[47] then 47::name else af++47::name
def js (n:Nat)(kind:Nat->Int)(E:Nat->Option (List bf)):Nat->a7->List a7->List a7×Bool
 |0,_,out=>(out,false)
 |f+1,x,out=>
  let out:=out++[x]
  if 144<out.length||!fV x.id 0 (n-1)||decide (kind x.id.toNat=0) then(out,false) else
  if kind x.id.toNat=1 then(out,true) else
  match E x.id.toNat with
  |none=>(out,false)
  |some l=>l.foldl (λr e=>if r.2 then js n kind E f ⟨dU x.af e.name,e.id⟩ r.1 else r) (out,true)
def walk (st:au)(ns:List iM):Nat->a7->List a7->List a7×Bool:=js ns.length (λi=>(ns.getD i bB).kind) (λi=>bR st (ns.getD i bB))
def lF (out:List a7)(k:Nat):Int:=((out.filter λx=>decide (x.id=(k:Int))).length:Nat)
def lG (st:au)(out:List a7):Nat->List iM->Bool
 |_,[]=>true
 |k,n::l=>!((decide (n.kind≠0)&&decide (lF out k≠n.bK))||(decide (n.kind=1)&&!kY st n))&&lG st out (k+1) l
def l5 (st:au)(t:cB):Option (List a7):=
 if !oJ st t then none else
 let ns:=fC st t
 if ns=[]\/(ns.headD bB).kind≠2 then none else match walk st ns 146 ⟨[47],0⟩ [] with
 |(_,false)=>none
 |(out,true)=>if lG st out 0 ns then some out else none
structure bP where
 id:Int
 aJ:Bool
 bq:az
deriving DecidableEq,Repr,Inhabited
abbrev fg:=List bP
structure Flat where
 ad:List a7
 ae:fg
deriving DecidableEq,Repr,Inhabited
def gR (st:au):Nat->List iM->fg
 |_,[]=>[]
 |k,n::l=>(if n.kind=2 then [⟨k,true,[]⟩] else if n.kind=1 then [⟨k,false,bE st n⟩] else [])++gR st (k+1) l
def Jw (st:au)(t:cB):Option Flat:=match l5 st t with
 |none=>none
 |some all=>some ⟨all,gR st 0 (fC st t)⟩
structure Rdr where
 b:az
 p:Nat
def ahc (b:az)(k n:Nat):Nat:=
 if n<1\/b.length=0 then 0 else
 if k<b.length then(b.getD k 0).toNat% n else
 let x:=(b.getD (k% b.length) 0).toNat*131+(b.getD ((k*7+3)% b.length) 0).toNat*1117+k*29+k/ b.length*53
 (x^^^ (x/ 64))% n
abbrev Dr:=StateM Rdr
def pick (n:Nat):Dr Nat:=λr=>(ahc r.b r.p n,{r with p:=r.p+1})
def str (s:String):az:=s.toUTF8.data.toList
def first:List Op:=[⟨2,str "/a",[],0,[]⟩,⟨1,str "/b",[],0,[]⟩,⟨1,str "/a/b",[],0,[]⟩,⟨3,str "/b",[],0,str "hello hello hello"⟩,⟨2,str "/a/c",[],0,[]⟩,⟨3,str "/a/b",[],30,str "hello hello hello"⟩]
def mY (same:Bool):au×cB:=let r:=pK (bW same) fh 0 ⟨2,1,0,fh⟩;(r.1,r.2.1)
def tK:Nat->Nat->az->Nat
 |_,at_,[]=>at_
 |i,at_,c::s=>tK (i+1) (if c=47 then i else at_) s
def tL (s:az):Nat:=tK 0 0 s
def aR (s:az):az×az:=if tL s=0 then([47],s.drop (min 1 s.length)) else(s.take (tL s),s.drop (tL s+1))
namespace Flat
def dy (f:Flat)(p:az):Option Nat:=f.ad.findIdx? λx=>decide (x.af=p)
def cO (f:Flat)(id:Int):Option Nat:=f.ae.findIdx? λx=>decide (x.id=id)
def many (f:Flat)(id:Int):Nat:=f.ad.countP λx=>decide (x.id=id)
def nE (f:Flat)(p:az):Nat:=f.ad.tail.countP λx=>decide ((aR x.af).1=p)
def iu (f:Flat)(id:Int):Bool:=match f.cO id with
 |none=>false
 |some k=>(f.ae.getD k ⟨0,false,[]⟩).aJ
def tM (f:Flat)(i:Nat):Bool:=
 let x:=f.ae.getD i ⟨0,false,[]⟩
 !(!fV x.id 0 15||(decide (0<i)&&decide (x.id<=(f.ae.getD (i-1) ⟨0,false,[]⟩).id))||(x.aJ&&decide (x.bq≠[]))||decide (192<x.bq.length)||!fV (f.many x.id) 1 (if x.aJ then 1 else 9))
def kJ (f:Flat):Bool:=
 let x:=f.ae.getD 0 ⟨0,false,[]⟩
 fV f.ae.length 1 16&&decide (x.id=0)&&x.aJ&&(List.range f.ae.length).all f.tM
def vc (f:Flat)(i:Nat):Bool:=
 let x:=f.ad.getD i ⟨[],0⟩
 let r:=aR x.af
 let af:=if r.1=[47] then 47::r.2 else r.1++47::r.2
 match f.dy r.1 with
 |none=>false
 |some k=>bS (f.ad.getD (i-1) ⟨[],0⟩).af x.af&&decide (k<i)&&decide (af=x.af)&&aU r.2&&(f.cO x.id).isSome&&f.iu (f.ad.getD k ⟨[],0⟩).id&&decide (f.nE x.af<=12)
def ok (f:Flat):Bool:=f.kJ&&decide (f.ad≠[])&&decide (f.ad.getD 0 ⟨[],0⟩=⟨[47],0⟩)&&(List.range f.ad.length).all (λi=>decide (i=0)||f.vc i)&&decide (f.nE [47]<=12)
def di (f:Flat)(p:az):Int×Bool:=match f.dy p with
 |none=>(0,false)
 |some k=>if f.ok then((f.ad.getD k ⟨[],0⟩).id,true) else(0,false)
def gm:List a7->a7->List a7
 |[],e=>[e]
 |x::l,e=>if bS e.af x.af then e::x::l else x::gm l e
def add (f:Flat)(p:az)(id:Int):Flat:=⟨gm f.ad ⟨p,id⟩,f.ae⟩
def less (f:Flat)(p:az):Flat:=⟨f.ad.filter λx=>decide (x.af≠p),f.ae⟩
def bI (f:Flat)(p:az):Int:=match f.dy (aR p).1 with
 |none=>if p=[47] then 3 else 2
 |some k=>if p=[47] then 3 else if !f.iu (f.ad.getD k ⟨[],0⟩).id then 4 else if(f.dy p).isSome then 3 else 0
def y6 (f:Flat):Nat->Nat->Nat
 |0,id=>id
 |n+1,id=>if(f.cO id).isSome then y6 f n (id+1) else id
def cx (f:Flat):Nat:=f.y6 (f.ae.length+1) 0
def oX:fg->bP->fg
 |[],e=>[e]
 |x::l,e=>if x.id<e.id then x::oX l e else e::x::l
def make (f:Flat)(p:az)(aJ:Bool):Flat×Int:=
 if 0<f.bI p then(f,f.bI p) else
 let id:=f.cx
 if 16<=id\/12<=f.nE (aR p).1 then(f,6) else
 (Flat.add ⟨f.ad,oX f.ae ⟨id,aJ,[]⟩⟩ p id,0)
def y7 (f:Flat)(k:Nat)(s:az):Flat:=⟨f.ad,f.ae.set k {f.ae.getD k ⟨0,false,[]⟩ with bq:=s}⟩
def change(f:Flat)(o:Op):Flat×Int:=match f.dy o.af with
 |none=>(f,2)
 |some k=>match f.cO (f.ad.getD k ⟨[],0⟩).id with
  |none=>(f,0)
  |some x=>
   let t:=f.ae.getD x ⟨0,false,[]⟩
   if t.aJ then(f,4) else if 192<o.at_+o.bq.length then(f,6) else
   if o.kind=4 then(f.y7 x ((t.bq++iz (o.at_-t.bq.length)).take o.at_.toNat),0) else
   if o.bq≠[] then(f.y7 x (gk t.bq o.at_.toNat o.bq),0) else(f,0)
def eb (f:Flat)(p:az):Flat×Int:=match f.dy p with
 |none=>(f,2)
 |some k=>
  let id:=(f.ad.getD k ⟨[],0⟩).id
  if p=[47]\/0<f.nE p then(f,5) else
  let g:=f.less p
  if g.many id=0 then match g.cO id with
   |none=>(g,0)
   |some x=>(⟨g.ad,g.ae.take x++g.ae.drop (x+1)⟩,0)
  else(g,0)
def link (f:Flat)(p to:az):Flat×Int:=match f.dy p with
 |none=>(f,2)
 |some k=>
  let id:=(f.ad.getD k ⟨[],0⟩).id
  if f.iu id then(f,4) else if 0<f.bI to then(f,f.bI to) else
  if 9<=f.many id\/12<=f.nE (aR to).1 then(f,6) else(f.add to id,0)
def eO (p to x:az):az:=if x=p\/(p.length<x.length/\x.take (p.length+1)=p++[47]) then to++x.drop p.length else x
def move (f:Flat)(p to:az):Flat×Int:=match f.dy p with
 |none=>(f,2)
 |some _=>if p=[47] then(f,5) else if(f.dy to).isSome then(f,3) else if under to p then(f,5) else
  if 0<f.bI to then(f,f.bI to) else
  if(aR to).1≠(aR p).1/\12<=f.nE (aR to).1 then(f,6) else
  (⟨f.ad.foldl (λl x=>gm l ⟨eO p to x.af,x.id⟩) [],f.ae⟩,0)
def fb (f:Flat)(o:Op):Flat×Int:=
 if o.kind=1\/o.kind=2 then f.make o.af (decide (o.kind=2)) else if o.kind=5 then f.eb o.af else
 if o.kind=6 then f.link o.af o.to else if o.kind=7 then f.move o.af o.to else f.change o
def run (f:Flat)(o:Op):Flat×Int:=if !f.ok then(⟨[],[]⟩,1) else if !ik o then(f,1) else f.fb o
end Flat
end Go.Pl
namespace Go.Ev
open Go Go.Pl
def wI (x:Pl.a7):List Pl.a7->List Pl.a7
 |[]=>[x]
 |y::l=>if bS x.af y.af then x::y::l else y::wI x l
def gS (l:List Pl.a7):List Pl.a7:=l.foldr wI []
def wJ (x:Pl.bP):List Pl.bP->List Pl.bP
 |[]=>[x]
 |y::l=>if x.id<y.id then x::y::l else y::wJ x l
def il (l:List Pl.bP):List Pl.bP:=l.foldr wJ []
def qA (x:Pl.a7):a6:=[.string ⟨⟨x.af⟩⟩,.int .i64 x.id]
def qB (x:Pl.bP):a6:=[.int .i64 x.id,.bool x.aJ,.string ⟨⟨x.bq⟩⟩]
def Tg:a6->Option (List Pl.a7)
 |[]=>some []
 |.string ⟨⟨z⟩⟩:: .int .i64 i::l=>(Tg l).map (⟨z,i⟩::·)
 |_=>none
def Th:a6->Option (List Pl.bP)
 |[]=>some []
 |.int .i64 i:: .bool b:: .string ⟨⟨z⟩⟩::l=>(Th l).map (⟨i,b,z⟩::·)
 |_=>none
noncomputable section
def LA {α:Type}(g k:Nat)(dec:a6->Option (List α))(cells:α->a6)(sort:List α->List α)(apart:List α->Bool):yR:=λargs s=>match args with
 |[.slice (some ⟨b,o,none⟩) n _,.func (.func g') ⟨[]⟩ ⟨[]⟩]=>dZ (Nat.beq g g'&&Nat.ble 1 n&&Nat.ble n 1000000)<| s.row b λc e w s=>dZ (Nat.ble (o+n*k) c.length)<| ob (dec ((c.drop o).take (n*k))) λl=>
    dZ (apart l&&Nat.beq l.length n)<| aN (.tuple ⟨[]⟩) (s.put b (some (.cells (c.take o++(sort l).flatMap cells++c.drop (o+n*k)) e w)))
 |_=>none
def xJ (l:List Pl.a7):Bool:=decide (l.map (·.af)).Nodup
def xK (l:List Pl.bP):Bool:=decide (l.map (·.id)).Nodup
def Wx (g:Nat):yR:=LA g 2 Tg qA gS xJ
def Wy (g:Nat):yR:=LA g 3 Th qB il xK
def AJ (a b:Pl.az):Int:=if bS a b then -1 else if bS b a then 1 else 0
def DG:yR:=λargs s=>match args with
 |[.string ⟨⟨a⟩⟩,.string ⟨⟨b⟩⟩]=>aN (.int .i64 (AJ a b)) s
 |_=>none
def y8 (z:Pl.az):Nat->Pl.az
 |0=>[]
 |n+1=>z++y8 z n
def Jx:yR:=λargs s=>match args with
 |[.string ⟨⟨z⟩⟩,.int .i64 (.ofNat n)]=>dZ (Nat.ble (z.length*n) 1000000&&Nat.ble n 1000000)<| aN (.string ⟨⟨y8 z n⟩⟩) s
 |_=>none
def DH:yR:=λargs s=>match args with
 |[.string ⟨⟨z⟩⟩,.int .u8 (.ofNat c)]=>dZ (Nat.ble (Nat.succ c) 256)<| aN (.int .i64 (.ofNat (ec (z.filter λb=>Nat.beq b.toNat c)))) s
 |_=>none
def kZ (z:Pl.az):List Pl.az->Pl.az
 |[]=>[]
 |[x]=>x
 |x::y::l=>x++(z++kZ z (y::l))
def O6:a6->Option (List Pl.az)
 |[]=>some []
 |.string ⟨⟨z⟩⟩::l=>(O6 l).map (z::·)
 |_=>none
def Wz (t:Nat):yR:=λargs s=>match args with
 |[.slice (some ⟨b,o,none⟩) n c,.string ⟨⟨z⟩⟩]=>s.row b λcs e _ s=>dZ (Nat.ble (o+n) cs.length&&((Nat.ble (Nat.succ c) ew&&Nat.ble n c)||(Nat.ble ew c&&Nat.beq o (c-ew)&&Nat.beq e t))&&Nat.ble 1 n&&Nat.ble n 1000)<| ob (O6 ((cs.drop o).take n)) λl=>dZ (Nat.ble (kZ z l).length 1000000)<| aN (.string ⟨⟨kZ z l⟩⟩) s
 |_=>none
def dN:List Pl.az:=[[],[97],[47,47],[47,97,47],[47,65],[47,97,47,98,47,99,47,97,47,98],[47,97,98,99,100,101],[47,97,47,47,98],[47,97],[47,98],[47,97,47,98],[47,97,47,99],[47,98,47,97],[47,99],[47,97,47,98,47,99],[47,99,47,97],[47,97,98],[47]]
def dn (z:Pl.az):Pl.az:=if aP z=true/\z≠[47] then(aR z).1 else []
def vd:yR:=λargs s=>match args with
 |[.string ⟨⟨z⟩⟩]=>dZ (decide (z∈dN)) (aN (.string ⟨⟨dn z⟩⟩) s)
 |_=>none
end
end Go.Ev
namespace Go.Pl
variable {α:Type}{P:α->Bool}
theorem kq:∀s:az,bS s s=false
 |[]=>rfl
 |a::s=>by
  show(if a.toNat<a.toNat then true else if a.toNat<a.toNat then false else bS s s)=false;rw[if_neg (GP _),if_neg (GP _),kq s]
theorem qL (a b:UInt8)(s t:az):bS (a::s) (b::t)=if a.toNat<b.toNat then true else if b.toNat<a.toNat then false else bS s t:=rfl
theorem fe:∀a b c:az,bS a b=true->bS b c=true->bS a c=true
 |[],[],_,h,_=>by cases h
 |[],_::_,[],_,h=>by cases h
 |[],_::_,_::_,_,_=>rfl
 |_::_,[],_,h,_=>by cases h
 |_::_,_::_,[],_,h=>by cases h
 |a::s,b::t,c::u,h1,h2=>by
  rw[qL] at h1 h2⊢;by_cases h3:a.toNat<b.toNat
  .by_cases h4:b.toNat<c.toNat
   .rw[if_pos ag]
   .rw[if_neg h4] at h2;by_cases h5:c.toNat<b.toNat
    .rw[if_pos h5] at h2;cases h2
    .rw[if_pos ag]
  .rw[if_neg h3] at h1;by_cases h6:b.toNat<a.toNat
   .rw[if_pos h6] at h1;cases h1
   .rw[if_neg h6] at h1;by_cases h4:b.toNat<c.toNat
    .rw[if_pos ag]
    .rw[if_neg h4] at h2;by_cases h5:c.toNat<b.toNat
     .rw[if_pos h5] at h2;cases h2
     .rw[if_neg h5] at h2;rw[if_neg ag,if_neg ag];exact fe s t u h1 h2
theorem lK:∀a b:az,bS a b=false->bS b a=false->a=b
 |[],[],_,_=>rfl
 |[],_::_,h,_=>by cases h
 |_::_,[],_,h=>by cases h
 |a::s,b::t,h1,h2=>by
  rw[qL] at h1 h2;by_cases h3:a.toNat<b.toNat
  .rw[if_pos h3] at h1;cases h1
  .rw[if_neg h3] at h1;by_cases h4:b.toNat<a.toNat
   .rw[if_pos h4] at h2;cases h2
   .rw[if_neg h4] at h1 h2;rw[if_neg h3] at h2;rw[lK s t h1 h2,uJ.1 (show a.toNat=b.toNat by omega)]
theorem EI {a b:az}(h:bS a b=true):bS b a=false:=by
 cases hb:bS b a with
 |false=>rfl
 |true=>have:=fe a b a h hb;rw[kq] at this;cases this
theorem np {a b:az}(h:bS a b=true):a≠b:=λe=>by rw[e,kq] at h;cases h
theorem JR:∀(l:List α),l.Pairwise (λa b=>P b=true->P a=true)->∀(h:Nat)(d:α),h<l.length->(P (l.getD h d)=true↔h<l.countP P)
 |[],_,h,_,hl=>by simp at hl
 |x::l,hp,h,d,hl=>by
  obtain⟨h1,h2⟩:=jZ.1 hp;rw[iH];by_cases hx:P x=true
  .rw[if_pos hx];cases h with
   |zero=>simp[hx]
   |succ h=>
    have:=JR l h2 h d (by simpa using hl);rw[Bn,this];omega
  .have hz:l.countP P=0:=uM.2 λy hy xD=>hx (h1 y hy xD)
   rw[if_neg hx,hz];have:P ((x::l).getD h d)≠true:=λe=>by
    cases h with
    |zero=>exact hx e
    |succ h=>
     rw[Bn,aZ,bd (by simpa using hl)] at e;exact hx (h1 _ (rj _) e)
   exact⟨λe=>absurd e this,λe=>absurd e ay⟩
theorem lL {l:List α}{i:Nat}{d:α}(hi:i<l.length)(h1:P (l.getD i d)=true)(h2:∀j,j<i->P (l.getD j d)≠true):l.findIdx? P=some i:=by rw[oO];rw[aZ,bd hi] at h1;refine⟨hi,h1,λj hj=>?_⟩;have:=h2 j hj;rw[aZ,bd ag] at this;exact this
theorem wa {l:List α}(d:α)(h:∀j,j<l.length->P (l.getD j d)≠true):l.findIdx? P=none:=by rw[Bl];intro x hx;obtain⟨j,hj,rfl⟩:=iY hx;have:=h j hj;rw[aZ,bd hj] at this;simpa using this
def gU (q:fg):Prop:=q.Pairwise λx y=>x.id<y.id
def kM (p:List a7):Prop:=p.Pairwise λx y=>bS x.af y.af=true
def Cl (q:fg)(k:Int):Nat:=q.countP λx=>decide (x.id<k)
def Cm (p:List a7)(z:az):Nat:=p.countP λx=>bS x.af z
def ot (q:fg)(k:Int):Option Nat:=q.findIdx? λx=>decide (x.id=k)
def rZ (p:List a7)(z:az):Option Nat:=p.findIdx? λx=>decide (x.af=z)
theorem CN {q:fg}(hs:gU q)(k:Int){h:Nat}(d:bP)(hl:h<q.length):(q.getD h d).id<k↔h<Cl q k:=by
 have:=JR (P:=λx:bP=>decide (x.id<k)) q (hs.imp λlV hb=>by simp at hb⊢;omega) h d hl
 rwa [bQ] at this
theorem CO {p:List a7}(hs:kM p)(z:az){h:Nat}(d:a7)(hl:h<p.length):bS (p.getD h d).af z=true↔h<Cm p z:=
 JR (P:=λx:a7=>bS x.af z) p (hs.imp λlV hb=>fe _ _ _ lV hb) h d hl
theorem ae7 (q:fg)(k:Int):Cl q k<=q.length:=GF
theorem ae8 (p:List a7)(z:az):Cm p z<=p.length:=GF
theorem qM {α:Type}{R:α->α->Prop}{l:List α}(h:l.Pairwise R)(d:α){i j:Nat}(nD:i<j)(hj:j<l.length):R (l.getD i d) (l.getD j d):=by rw[aZ,bd ag,aZ,bd hj];exact uj.1 h i j ag hj nD
theorem ae9 {q:fg}(hs:gU q)(k:Int)(d:bP):ot q k=if Cl q k<q.length/\(q.getD (Cl q k) d).id=k then some (Cl q k) else none:=by
 split
 .rename_i h;refine lL (d:=d) h.1 (by simpa using h.2) λj hj=>?_
  have:=(CN hs k d (h:=j) ag).2 hj;rw[ne_eq,bQ];omega
 .rename_i h;refine wa d λj hj he=>?_
  rw[bQ] at he;rcases CY j (Cl q k) with h1|h1|h1
  .have:=(CN hs k d hj).2 h1;omega
  .exact h ⟨ag,by rw[<-h1];exact he⟩
  .have h2:=qM hs d h1 hj;have h3:¬(q.getD (Cl q k) d).id<k:=λe=>GP _ ((CN hs k d ag).1 e)
   omega
theorem afa {p:List a7}(hs:kM p)(z:az)(d:a7):rZ p z=if Cm p z<p.length/\(p.getD (Cm p z) d).af=z then some (Cm p z) else none:=by
 split
 .rename_i h;refine lL (d:=d) h.1 (by simpa using h.2) λj hj=>?_
  have:=(CO hs z d (h:=j) ag).2 hj;rw[ne_eq,bQ];exact np this
 .rename_i h;refine wa d λj hj he=>?_
  rw[bQ] at he;rcases CY j (Cm p z) with h1|h1|h1
  .exact np ((CO hs z d hj).2 h1) he
  .exact h ⟨ag,by rw[<-h1];exact he⟩
  .have h2:bS _ _=true:=qM hs d h1 hj;have h3:¬bS (p.getD (Cm p z) d).af z=true:=λe=>GP _ ((CO hs z d ag).1 e)
   rw[he] at h2;exact h3 h2
def MG (a b:Int):Int:=if a<b then -1 else if b<a then 1 else 0
theorem abv {a b:Int}:MG a b<0↔a<b:=by unfold MG;split<;>(try split)<;>omega
theorem abw {a b:Int}:MG a b=0↔a=b:=by unfold MG;split<;>(try split)<;>omega
theorem abx {a b:az}:Ev.AJ a b<0↔bS a b=true:=by unfold Ev.AJ;cases h:bS a b<;>cases h2:bS b a<;>simp
theorem aby {a b:az}:Ev.AJ a b=0↔a=b:=by
 unfold Ev.AJ;cases h:bS a b with
 |true=>simp;exact np h
 |false=>
  cases h2:bS b a with
  |true=>simp;exact λe=>np h2 e.symm
  |false=>simp;exact lK a b h h2
end Go.Pl
namespace Go.Ev
open Go
variable {f:FuncId}{args:a6}{v:Value}{c a b:Code}{tm:Tm}{s s':St}{Q Q':Ex->Tm->St->Prop}{K:Tm->St->Prop}{aE l:List Oper}{o:Oper}
section
variable (E:ig)(X:fR)
def akY (f:FuncId)(args:a6)(s:St)(v:Value)(s':St):Prop:=∃N,∀n,N<=n->∀lf,N<=lf->pH E X lf [] n f args s=some (v,s')
def jt (c:Code)(tm:Tm)(s:St)(Q:Ex->Tm->St->Prop):Prop:=∃N e jO s',Q e jO s'/\∀n,N<=n->∀lf,N<=lf->lR E (pH E X lf [] n) lf c tm s=some (e,jO,s')
def akZ (body:Code)(tm:Tm)(s:St)(Q:Ex->Tm->St->Prop):Prop:=∃N e jO s',Q e jO s'/\∀n,N<=n->∀lf,N<=lf->∀m,N<=m->Dc (lR E (pH E X lf [] n) lf body) m tm s=some (e,jO,s')
def fW (ev:Operand->Value)(s:St)(o:Op)(K:Value->St->Prop):Prop:=∃N v s',K v s'/\∀n,N<=n->∀lf,N<=lf->FK E (pH E X lf [] n) ev s o=some (v,s')
def za (aE l:List Oper)(tm:Tm)(s:St)(K:Tm->St->Prop):Prop:=∃N jO s',K jO s'/\∀n,N<=n->∀lf,N<=lf->K3 E (pH E X lf [] n) aE l tm s=some (jO,s')
def Gc (aE l:List Oper)(j:Nat)(tm:Tm)(s:St)(seen:List Seen)(K:Tm->St->Prop):Prop:=∃N jO s',K jO s'/\∀n,N<=n->∀lf,N<=lf->uS E (pH E X lf [] n) aE l j tm s seen=some (jO,s')
variable {E X}
theorem jt.mono (h:jt E X c tm s Q)(k:∀e tm s,Q e tm s->Q' e tm s):jt E X c tm s Q':=by obtain⟨N,e,jO,s',hq,hr⟩:=h;exact⟨N,e,jO,s',k _ _ _ hq,hr⟩
def ahf (Q:Ex->Tm->St->Prop)(k:Tm->St->Prop):Ex->Tm->St->Prop
 |.normal,tm,s=>k tm s
 |e,tm,s=>Q e tm s
def aaE (id:Nat)(Q:Ex->Tm->St->Prop):Ex->Tm->St->Prop
 |.exit i,tm,s=>Q (if i=id then .normal else .exit i) tm s
 |e,tm,s=>Q e tm s
theorem jt.skip (h:Q .normal tm s):jt E X .skip tm s Q:=⟨0,_,_,_,h,λ_ _ _ _=>rfl⟩
theorem jt.ret (h:Q .ret tm s):jt E X .ret tm s Q:=⟨0,_,_,_,h,λ_ _ _ _=>rfl⟩
theorem jt.exit {id:Nat}(h:Q (.exit id) tm s):jt E X (.exit id) tm s Q:=⟨0,_,_,_,h,λ_ _ _ _=>rfl⟩
theorem jt.seq (h:jt E X a tm s (ahf Q λtm s=>jt E X b tm s Q)):jt E X (.seq a b) tm s Q:=by
 obtain⟨N,e,sF,s1,hq,hr⟩:=h;have hc:∀(call:eX)(lf:Nat),lR E call lf (.seq a b) tm s=GX (lR E call lf a tm s) (lR E call lf b):=λ_ _=>rfl
 cases e with
 |normal=>
  obtain⟨M,e2,tm2,s2,hq2,nC⟩:=(show jt E X b sF s1 Q from hq);refine⟨max N M,e2,tm2,s2,hq2,λn hn lf hl=>?_⟩;rw[hc,hr n ag lf ag];exact nC n ag lf ag
 |exit i=>exact⟨N,_,_,_,(show Q (.exit i) sF s1 from hq),λn hn lf hl=>by rw[hc,hr n hn lf hl];rfl⟩
 |ret=>exact⟨N,_,_,_,(show Q .ret sF s1 from hq),λn hn lf hl=>by rw[hc,hr n hn lf hl];rfl⟩
theorem jt.cond {x:Operand}(t:Bool)(hx:aO tm x= .bool t)(h:if t=true then jt E X a tm s Q else jt E X b tm s Q):jt E X (.cond x a b) tm s Q:=by
 have hc:∀(call:eX)(lf:Nat),lR E call lf (.cond x a b) tm s=QX (aO tm x) (lR E call lf a tm s) (lR E call lf b tm s):=λ_ _=>rfl
 cases t with
 |true=>
  obtain⟨N,e,sF,s1,hq,hr⟩:=(show jt E X a tm s Q from by simpa using h);exact⟨N,e,sF,s1,hq,λn hn lf hl=>by rw[hc,hx];exact hr n hn lf hl⟩
 |false=>
  obtain⟨N,e,sF,s1,hq,hr⟩:=(show jt E X b tm s Q from by simpa using h);exact⟨N,e,sF,s1,hq,λn hn lf hl=>by rw[hc,hx];exact hr n hn lf hl⟩
theorem jt.block {id:Nat}(h:jt E X a tm s (aaE id Q)):jt E X (.block id a) tm s Q:=by
 have hc:∀(call:eX)(lf:Nat),lR E call lf (.block id a) tm s=adX id (lR E call lf a tm s):=λ_ _=>rfl
 obtain⟨N,e,sF,s1,hq,hr⟩:=h;cases e with
 |normal=>exact⟨N,_,_,_,(show Q .normal sF s1 from hq),λn hn lf hl=>by rw[hc,hr n hn lf hl];rfl⟩
 |ret=>exact⟨N,_,_,_,(show Q .ret sF s1 from hq),λn hn lf hl=>by rw[hc,hr n hn lf hl];rfl⟩
 |exit i=>
  refine⟨N,_,_,_,(show Q (if i=id then .normal else .exit i) sF s1 from hq),λn hn lf hl=>?_⟩;rw[hc,hr n hn lf hl];show bo (Nat.beq i id) (some (Ex.normal,sF,s1)) (some (.exit i,sF,s1))=_;rw[dW];by_cases h:i=id<;>simp[h]
theorem jt.loop (I:Nat->Tm->St->Prop)(k:Nat)(h0:I k tm s)(step:∀k tm s,I k tm s->jt E X a tm s (ahf Q λtm s=>∃j,j<k/\I j tm s)):jt E X (.loop a) tm s Q:=by
 have key:∀k tm s,I k tm s->akZ E X a tm s Q:=by
  intro k;induction k using Nat.strongRecOn with
  |ind k ih=>
   intro tm s hI;obtain⟨N,e,sF,s1,hq,hr⟩:=step k tm s hI;have hc:∀(body:Tm->St->R4)(m:Nat),Dc body (m+1) tm s=GX (body tm s) (Dc body m):=λ_ _=>rfl
   cases e with
   |normal=>
    obtain⟨j,hj,hI'⟩:=hq;obtain⟨M,e2,tm2,s2,hq2,nC⟩:=ih j hj sF s1 hI';refine⟨max N M+1,e2,tm2,s2,hq2,λn hn lf hl m hm=>?_⟩;obtain⟨m,rfl⟩:∃q,m=q+1:=⟨m-1,ag⟩;rw[hc,hr n ag lf ag];exact nC n ag lf ag m ag
   |exit i=>
    refine⟨N+1,_,_,_,(show Q (.exit i) sF s1 from hq),λn hn lf hl m hm=>?_⟩;obtain⟨m,rfl⟩:∃q,m=q+1:=⟨m-1,ag⟩;rw[hc,hr n ag lf ag];rfl
   |ret=>
    refine⟨N+1,_,_,_,(show Q .ret sF s1 from hq),λn hn lf hl m hm=>?_⟩;obtain⟨m,rfl⟩:∃q,m=q+1:=⟨m-1,ag⟩;rw[hc,hr n ag lf ag];rfl
 obtain⟨N,e,sF,s1,hq,hr⟩:=key k tm s h0;exact⟨N,e,sF,s1,hq,λn hn lf hl=>hr n hn lf hl lf hl⟩
theorem jt.region {id:Nat}{arr:Array Oper}(h:za E X arr.toList arr.toList tm s (Q .normal)):jt E X (.region id arr false) tm s Q:=by obtain⟨N,sF,s1,hq,hr⟩:=h;refine⟨N,.normal,sF,s1,hq,λn hn lf hl=>?_⟩;show GY (K3 E _ arr.toList arr.toList tm s)=_;rw[hr n hn lf hl];rfl
theorem jt.draw {id:Nat}{arr:Array Oper}(h:Gc E X arr.toList arr.toList 0 tm s [] (Q .normal)):jt E X (.region id arr true) tm s Q:=by obtain⟨N,sF,s1,hq,hr⟩:=h;refine⟨N,.normal,sF,s1,hq,λn hn lf hl=>?_⟩;show GY (uS E _ arr.toList arr.toList 0 tm s [])=_;rw[hr n hn lf hl];rfl
theorem za.nil (h:K tm s):za E X aE [] tm s K:=⟨0,_,_,h,λ_ _ _ _=>rfl⟩
theorem za.cons (hw:ir aE tm o.guard=true)(h:fW E X (aO tm) s o.op λv s=>za E X aE l (tm.ij o.dst v) s K):za E X aE (o::l) tm s K:=by obtain⟨N,v,s1,hk,hr⟩:=h;obtain⟨M,tm2,s2,y4,nC⟩:=hk;refine⟨max N M,tm2,s2,y4,λn hn lf hl=>?_⟩;rw[AG,hw,gC,hr n ag lf ag];show Tm.put tm o.dst v _=_;rw[Tm.put_eq];exact nC n ag lf ag
theorem za.pass (hw:ir aE tm o.guard=false)(h:za E X aE l (tm.ij o.dst (.tuple ⟨[]⟩)) s K):za E X aE (o::l) tm s K:=by obtain⟨M,tm2,s2,y4,nC⟩:=h;refine⟨M,tm2,s2,y4,λn hn lf hl=>?_⟩;rw[AG,hw,eL,Tm.put_eq];exact nC n hn lf hl
end
variable {g:FuncId}{fn:Func}{ev:Operand->Value}
section
variable (E:ig)(X:fR)
def oY (f:FuncId)(args:a6)(s:St)(Q:Value->St->Prop):Prop:=∃v s',akY E X f args s v s'/\Q v s'
variable {E X}{K:Value->St->Prop}{o:Op}
theorem oY.mono {K':Value->St->Prop}(h:oY E X f args s K)(k:∀v s,K v s->K' v s):oY E X f args s K':=by obtain⟨v,s',h1,h2⟩:=h;exact⟨v,s',h1,k _ _ h2⟩
theorem DI (h:xz X f=false)(k:Option (Value×St)):uT X f args s k=k:=by
 have key:∀l:List (Nat×yR),List.rec (motive:=λ_=>Bool) false (λp _ ih=>bo (Nat.beq p.1 f) true ih) l=false->List.rec (motive:=λ_=>Option (Value×St)) k (λp _ ih=>bo (Nat.beq p.1 f) (p.2 args s) ih) l=k:=by
  intro l;induction l with
  |nil=>exact λ_=>rfl
  |cons p l ih=>
   intro h;have h:bo (Nat.beq p.1 f) true (List.rec (motive:=λ_=>Bool) false (λp _ ih=>bo (Nat.beq p.1 f) true ih) l)=false:=h;show bo (Nat.beq p.1 f) (p.2 args s) (List.rec (motive:=λ_=>Option (Value×St)) k (λp _ ih=>bo (Nat.beq p.1 f) (p.2 args s) ih) l)=k;cases hb:Nat.beq p.1 f with
   |true=>rw[hb] at h;cases h
   |false=>rw[hb] at h;exact ih h
 exact key X.wV h
theorem oY.aaF (hf:E.fn.get f=some fn)(hh:∀k,uT X f args s k=some (v,s'))(hk:K v s'):oY E X f args s K:=by refine⟨v,s',⟨1,λn hn lf Ce=>?_⟩,hk⟩;obtain⟨n,rfl⟩:∃q,n=q+1:=⟨n-1,ag⟩;show(ob (E.fn.get f) λfn=>uT X f args s _)=_;rw[hf];exact hh _
theorem oY.body (hf:E.fn.get f=some fn)(hb:fn.body=some c)(uE:(Nat.beq f X.look||xz X f)=false)(hl:args.length<=fn.ntmps)
  (h:jt E X c (kF args 0 .nil) s λe tm s1=>(e= .normal\/e= .ret)/\∃vs s2,Dd E tm fn.results.toList s1=some (vs,s2)/\K (gL vs) s2):oY E X f args s K:=by
 obtain⟨N,e,sF,s1,⟨he,vs,s2,Jt,hk⟩,hr⟩:=h;refine⟨gL vs,s2,⟨N+1,λn hn lf Ce=>?_⟩,hk⟩;obtain⟨n,rfl⟩:∃q,n=q+1:=⟨n-1,ag⟩;have hx:Nat.beq f X.look=false:=by
  cases hq:Nat.beq f X.look with
  |true=>rw[hq] at uE;cases uE
  |false=>rfl
 have hx1:xz X f=false:=by rw[hx] at uE;exact uE
 show(ob (E.fn.get f) λfn=>uT X f args s<| match fn.body with
   |none=>K4 X f args s
   |some c=>bo (Nat.beq f X.look) (De args s)<| dZ (Nat.ble (ec args) fn.ntmps)<| K5 E fn (lR E (pH E X lf [] n) lf c (kF args (nat_lit 0) .nil) s))=_
 refine' zaH;rw[DI hx1,hb];simp only[hx,eL];have h2:Nat.ble (ec args) fn.ntmps=true:=by rw[dm];exact gp hl
 rw[h2,hr n ag lf ag];rcases he with rfl|rfl
 .show ob (Dd E sF fn.results.toList s1) (λp=>some (gL p.1,p.2))=_;rw[Jt];rfl
 .show ob (Dd E sF fn.results.toList s1) (λp=>some (gL p.1,p.2))=_;rw[Jt];rfl
theorem fW.call {x:Operand}{xs:List Operand}{ts:Array TypeId}{first cap:a6}(hx:ev x= .func (.func g) ⟨first⟩ ⟨cap⟩)(h:oY E X g (first++(xw ev xs++cap)) s K):fW E X ev s (.call ⟨.value x,⟨xs⟩,ts⟩) K:=by obtain⟨v,s',⟨N,hr⟩,hk⟩:=h;refine⟨N,v,s',hk,λn hn lf hl=>?_⟩;show xy (pH E X lf [] n) (ev x) (xw ev xs) s=_;rw[hx];exact hr n hn lf hl
theorem fW.pure (h:∀call:eX,FK E call ev s o=some (v,s'))(hk:K v s'):fW E X ev s o K:=⟨0,v,s',hk,λn _ lf _=>h _⟩
theorem aaG (tm:Tm)(d:Tmp)(v:Value)(t:Tmp):T.get (tm.ij (some d) v) t=if t=d then some v else T.get tm t:=by show T.get (T.set (Nat.succ d) tm d (some v)) t=_;exact T.vI tm d t (some v)
end
end Go.Ev
namespace Go.Lg
open Go Go.Ev
variable {a b c:Code}{aE aS:List Oper}{o:Op}
abbrev sv (z:List UInt8):Value:=.string ⟨⟨z⟩⟩
abbrev cr:Value:=.int .i64 0
abbrev eT:Value:=.slice none 0 0
abbrev jz (b:Nat):aM:=some ⟨b,0,none⟩
abbrev bg (b:Nat):Value:=.pointer (some ⟨b,0,none⟩)
abbrev iv (n:Int):Value:=.int .i64 n
abbrev bv (b:UInt8):Value:=.int .u8 (b.toNat:Int)
abbrev Kn:=List (Nat×Value)
def lk:Kn->Nat->Option Value
 |[],_=>none
 |(k,v)::l,t=>match Nat.beq k t with
  |true=>some v
  |false=>lk l t
def mQ (l:Kn)(tm:Tm):Prop:=∀t v,lk l t=some v->aO tm (.tmp t)=v
theorem mQ.nil (tm:Tm):mQ [] tm:=λ_ _ h=>by cases h
theorem WB (tm:Tm)(d:Nat)(v:Value)(t:Nat):aO (tm.ij (some d) v) (.tmp t)=if t=d then v else aO tm (.tmp t):=by show lZ (T.get _ t)=_;rw[aaG];split<;>rfl
theorem mQ.cons {l:Kn}{tm:Tm}(h:mQ l tm)(d:Nat)(v:Value):mQ ((d,v)::l) (tm.ij (some d) v):=by
 intro t u ht;rw[WB];unfold lk at ht;by_cases hd:t=d
 .subst hd;rw[if_pos rfl];simp at ht;exact ht
 .rw[if_neg hd];split at ht
  .rename_i hb;simp at hb;exact absurd hb.symm hd
  .exact h t u ht
def Le (l2 l:Kn):Prop:=∀t v,lk l2 t=some v->lk l t=some v
theorem mQ.le {l2 l:Kn}{tm:Tm}(h:mQ l tm)(hl:Le l2 l):mQ l2 tm:=λt v ht=>h t v (hl t v ht)
theorem Le.nil (l:Kn):Le [] l:=λ_ _ h=>by cases h
theorem Le.cons {l2 l:Kn}{t:Nat}{v:Value}(h:lk l t=some v)(k:Le l2 l):Le ((t,v)::l2) l:=by
 intro t' v' h';unfold lk at h';split at h'
 .rename_i hb;simp at hb;subst hb;simp at h';subst h';exact h
 .exact k t' v' h'
theorem Le.refl (l:Kn):Le l l:=λ_ _ h=>h
inductive It where
 |box (b:Nat) (cs:a6) (t:TypeId) (w:Bool)
 |aQ (v:Value) (e:TypeId) (sz:Nat) (cs:a6)
 |lz (b:Nat) (o:gV)
abbrev bZ:=List It
def mZ:Value->List Nat
 |.slice (some a) _ _=>[a.block]
 |_=>[]
def It.a8:It->List Nat
 |.box b _ _ _=>[b]
 |.aQ v _ _ _=>mZ v
 |.lz b _=>[b]
def xL (s:St)(v:Value)(e:TypeId)(sz:Nat)(cs:a6):Prop:=
 (v= .slice none 0 0/\cs=[])\/∃b n k w aS,v= .slice (some ⟨b,0,none⟩) n k/\s.heap.get b=some (.cells (cs++aS) e w)/\cs.length=n*sz/\((n<=k/\k<ew/\(cs++aS).length=k*sz)\/(k=ew/\w=true))
theorem xL.cJ {s:St}{b n k e sz:Nat}{w:Bool}{cs:a6}(h1:s.heap.get b=some (.cells cs e w))(h2:cs.length=n*sz)(h3:(k=n/\n<ew)\/(k=ew/\w=true)):xL s (.slice (some ⟨b,0,none⟩) n k) e sz cs:=
 .inr ⟨b,n,k,w,[],rfl,by rw[gg];exact h1,h2,h3.imp (λ⟨a,b⟩=>by subst a;exact⟨cG _,b,by rw[gg];exact h2⟩) id⟩
theorem xL.front {s:St}{a:aM}{N n c e sz:Nat}{cs:a6}(h:xL s (.slice a N c) e sz cs)(hn:n<=N):xL s (.slice a n c) e sz (cs.take (n*sz)):=by
 rcases h with⟨h1,rfl⟩|⟨b,m,k,w,aS,h1,h2,h3,h4⟩
 .cases h1;obtain rfl:n=0:=by omega
  exact .inl ⟨rfl,List.take_nil⟩
 .cases h1
  have hl:n*sz<=N*sz:=KM _ hn;have he:cs.take (n*sz)++(cs.drop (n*sz)++aS)=cs++aS:=by rw[<-ku,yD]
  exact .inr ⟨b,n,c,w,cs.drop (n*sz)++aS,rfl,by rw[he];exact h2,by rw[cW];omega,h4.imp (λ⟨x,y,z⟩=>⟨ag,y,by rw[he];exact z⟩) id⟩
theorem aoT (aS:a6):∀(new c c':a6),pK new c=some c'->pK new (c++aS)=some (c'++aS)
 |[],c,c',h=>by cases h;rfl
 |x::new,[],c',h=>by cases h
 |x::new,y::c,c',h=>by
  have h:ob (pK new c) (λr=>some (x::r))=some c':=h;cases hp:pK new c with
  |none=>rw[hp] at h;cases h
  |some r=>rw[hp] at h;cases h;show ob (pK new (c++aS)) (λr=>some (x::r))=_;rw[aoT aS new c r hp];rfl
theorem aoE (aS:a6):∀(o:Nat)(new c c':a6),fT o new c=some c'->fT o new (c++aS)=some (c'++aS)
 |0,new,c,c',h=>aoT aS new c c' h
 |o+1,new,[],c',h=>by cases h
 |o+1,new,x::c,c',h=>by
  have h:ob (fT o new c) (λr=>some (x::r))=some c':=h;cases hp:fT o new c with
  |none=>rw[hp] at h;cases h
  |some r=>rw[hp] at h;cases h;show ob (fT o new (c++aS)) (λr=>some (x::r))=_;rw[aoE aS o new c r hp];rfl
theorem aoK {cs cs' aS:a6}{n k sz:Nat}{w:Bool}(h:(n<=k/\k<ew/\(cs++aS).length=k*sz)\/(k=ew/\w=true))(hl:cs'.length=cs.length):(n<=k/\k<ew/\(cs'++aS).length=k*sz)\/(k=ew/\w=true):=
 h.imp (λ⟨x,y,z⟩=>⟨x,y,by rw[bL,hl,<-bL];exact z⟩) id
def It.ok (s:St):It->Prop
 |.box b cs t w=>s.heap.get b=some (.cells cs t w)
 |.aQ v e sz cs=>xL s v e sz cs
 |.lz b o=>s.heap.get b=some o
theorem It.zb {s s':St}{x:It}(h:x.ok s)(hh:∀b∈x.a8,s'.heap.get b=s.heap.get b):x.ok s':=by
 cases x with
 |box b cs t w=>exact(hh b (by simp[It.a8])).trans h
 |lz b o=>exact(hh b (by simp[It.a8])).trans h
 |aQ v e sz cs=>
  rcases h with⟨rfl,rfl⟩|⟨b,n,k,w,aS,rfl,h1,h2⟩
  .exact .inl ⟨rfl,rfl⟩
  .exact .inr ⟨b,n,k,w,aS,rfl,(hh b (by simp[It.a8,mZ])).trans h1,h2⟩
structure qV where
 s0:St
 M:List Nat
 A:List Nat
structure Inv (Γ:qV)(s:St)(L:bZ):Prop where
 fr:∀b,b<Γ.s0.next->b∉Γ.M->s.heap.get b=Γ.s0.heap.get b
 le:Γ.s0.next<=s.next
 it:∀x∈L,x.ok s
 lt:∀x∈L,∀b∈x.a8,b<s.next/\(Γ.s0.next<=b\/b∈Γ.M)
 nd:(L.flatMap It.a8).Nodup
 cU:∀b,In s.cU b->In Γ.s0.cU b\/b∈Γ.A\/b∈Γ.M\/Γ.s0.next<=b
 wr:∀b,In s.wr b->In Γ.s0.wr b\/b∈Γ.M\/Γ.s0.next<=b
 top:∀b,In s.cU b->In Γ.s0.cU b\/b<s.next
 Cf:∀b,In s.wr b->In Γ.s0.wr b\/b<s.next
def cC (L2 L:bZ):Prop:=∃l:bZ,l.Perm L2/\l.Sublist L
theorem cC.subset {L2 L:bZ}(h:cC L2 L){x:It}(hx:x∈L2):x∈L:=by obtain⟨l,hp,hs⟩:=h;exact hs.subset (hp.mem_iff.2 hx)
theorem Ti {L2 L:bZ}(h:cC L2 L)(hn:(L.flatMap It.a8).Nodup):(L2.flatMap It.a8).Nodup:=by
 obtain⟨l,hp,hs⟩:=h;have h1:(l.flatMap It.a8).Nodup:=hn.sublist (by
  clear hn hp;induction hs with
  |slnil=>exact List.Sublist.slnil
  |cons a _ ih=>simp only[mv];exact ih.trans (nK _ _)
  |cons_cons a _ ih=>simp only[mv];exact KR (GG _) ih)
 exact(List.Perm.nodup_iff (List.Perm.flatMap_right It.a8 hp)).1 h1
theorem Inv.sub {Γ:qV}{s:St}{L2 L:bZ}(h:Inv Γ s L)(hl:cC L2 L):Inv Γ s L2:=
 ⟨h.fr,h.le,λx hx=>h.it x (hl.subset hx),λx hx=>h.lt x (hl.subset hx),Ti hl h.nd,h.cU,h.wr,h.top,h.Cf⟩
theorem Inv.ao7 {Γ:qV}{s:St}{L:bZ}{x x':It}(h:Inv Γ s (x::L))(ho:x.ok s->x'.ok s)(hb:x'.a8=x.a8):Inv Γ s (x'::L):=
 ⟨h.fr,h.le,λy hy=>(bT.1 hy).elim (λe=>e▸ho (h.it _ gh)) λhy=>h.it _ (jA _ hy),λy hy b lD=>(bT.1 hy).elim (λe=>h.lt _ gh b (by rw[<-hb,<-e];exact lD)) λhy=>h.lt _ (jA _ hy) b lD,by have:=h.nd;rw[mv] at this⊢;rw[hb];exact this,h.cU,h.wr,h.top,h.Cf⟩
theorem Inv.same {Γ:qV}{s s':St}{L:bZ}(h:Inv Γ s L)(h1:s'.heap=s.heap)(h2:s'.next=s.next)(ha:∀b,In s'.cU b->In s.cU b\/b∈Γ.A\/b∈Γ.M\/Γ.s0.next<=b)(hw:∀b,In s'.wr b->In s.wr b\/b∈Γ.M\/Γ.s0.next<=b)(ht:∀b,In s'.cU b->In s.cU b\/b<s.next)(htw:∀b,In s'.wr b->In s.wr b\/b<s.next):Inv Γ s' L:=
 ⟨λb hb hm=>by rw[h1];exact h.fr b hb hm,by rw[h2];exact h.le,λx hx=>It.zb (h.it x hx) λb _=>by rw[h1],λx hx b hb=>by rw[h2];exact h.lt x hx b hb,h.nd,
  λb hb=>(ha b hb).elim (h.cU b) .inr,λb hb=>(hw b hb).elim (h.wr b) .inr,λb hb=>by rw[h2];exact(ht b hb).elim (h.top b) .inr,λb hb=>by rw[h2];exact(htw b hb).elim (h.Cf b) .inr⟩
section
variable (E:ig)(X:fR)(Γ:qV)
abbrev DJ:=Ex->Kn->bZ->Prop
def W (c:Code)(l:Kn)(L:bZ)(Q:DJ):Prop:=
 ∀tm s,mQ l tm->Inv Γ s L->jt E X c tm s λe jO s'=>∃l' L',mQ l' jO/\Inv Γ s' L'/\Q e l' L'
abbrev Fp:=Nat->Prop
structure kP (s s':St)(R Wr:Fp):Prop where
 nx:s.next<=s'.next
 cU:∀b,In s'.cU b->In s.cU b\/(R b/\b<s'.next)
 wr:∀b,In s'.wr b->In s.wr b\/(Wr b/\b<s'.next)
abbrev KO:=Value->bZ->Nat->Nat->Fp->Fp->Prop
def WO (l:Kn)(o:Op)(L:bZ)(K:KO):Prop:=
 ∀tm s,mQ l tm->Inv Γ s L->fW E X (aO tm) s o λv s'=>∃L' R Wr,Inv Γ s' L'/\kP s s' R Wr/\K v L' s.next s'.next R Wr
def WS (aE aS:List Oper)(l:Kn)(L:bZ)(K:Kn->bZ->Prop):Prop:=
 ∀tm s,mQ l tm->Inv Γ s L->za E X aE aS tm s λjO s'=>∃l' L',mQ l' jO/\Inv Γ s' L'/\K l' L'
structure Sn where
 i:Nat
 R:Fp
 W:Fp
def k9 (n mask:Nat)(R Wr:Fp):List Sn->Prop
 |[]=>True
 |x::l=>(Nat.testBit mask x.i=true\/((∀b,b<n->x.W b->¬R b)/\(∀b,b<n->x.R b->¬Wr b)))/\k9 n mask R Wr l
def Tj (seen:List Sn)(sn:List Seen)(n:Nat):Prop:=∀y∈sn,∃x∈seen,x.i=y.i/\(∀b,In y.cU b->x.R b/\b<n)/\(∀b,In y.wr b->x.W b/\b<n)
def WD (aE aS:List Oper)(j:Nat)(seen:List Sn)(nx:Nat)(l:Kn)(L:bZ)(K:Kn->bZ->Prop):Prop:=
 ∀tm s sn,mQ l tm->Inv Γ s L->s.next=nx->Tj seen sn nx->Gc E X aE aS j tm s sn λjO s'=>∃l' L',mQ l' jO/\Inv Γ s' L'/\K l' L'
variable {E X Γ}{l l2:Kn}{L L2:bZ}{Q Q':DJ}
theorem W.le (h:W E X Γ c l2 L2 Q)(hl:Le l2 l)(hL:cC L2 L):W E X Γ c l L Q:=λtm s h1 h2=>h tm s (h1.le hl) (h2.sub hL)
theorem W.mono (h:W E X Γ c l L Q)(k:∀e l L,Q e l L->Q' e l L):W E X Γ c l L Q':=λtm s h1 h2=>(h tm s h1 h2).mono λe tm s ⟨l,L,h3,h4,h5⟩=>⟨l,L,h3,h4,k _ _ _ h5⟩
def LB (Q:DJ)(k:Kn->bZ->Prop):DJ
 |.normal,l,L=>k l L
 |e,l,L=>Q e l L
def py (id:Nat)(Q:DJ):DJ
 |.exit i,l,L=>if i=id then Q .normal l L else Q (.exit i) l L
 |e,l,L=>Q e l L
theorem W.skip (h:Q .normal l L):W E X Γ .skip l L Q:=λtm s h1 h2=>jt.skip ⟨l,L,h1,h2,h⟩
theorem W.ret (h:Q .ret l L):W E X Γ .ret l L Q:=λtm s h1 h2=>jt.ret ⟨l,L,h1,h2,h⟩
theorem W.exit {id:Nat}(h:Q (.exit id) l L):W E X Γ (.exit id) l L Q:=λtm s h1 h2=>jt.exit ⟨l,L,h1,h2,h⟩
theorem W.seq (h:W E X Γ a l L (LB Q λl L=>W E X Γ b l L Q)):W E X Γ (.seq a b) l L Q:=λtm s h1 h2=>by
 refine jt.seq ((h tm s h1 h2).mono ?_);rintro e tm s ⟨l,L,h3,h4,h5⟩;cases e with
 |normal=>exact h5 tm s h3 h4
 |exit i=>exact⟨l,L,h3,h4,h5⟩
 |ret=>exact⟨l,L,h3,h4,h5⟩
theorem W.block {id:Nat}(h:W E X Γ a l L (py id Q)):W E X Γ (.block id a) l L Q:=λtm s h1 h2=>by
 refine jt.block ((h tm s h1 h2).mono ?_);rintro e tm s ⟨l,L,h3,h4,h5⟩;cases e with
 |normal=>exact⟨l,L,h3,h4,h5⟩
 |exit i=>
  refine⟨l,L,h3,h4,?_⟩;simp only[py] at h5;split at h5
  .rename_i hi;rw[if_pos hi];exact h5
  .rename_i hi;rw[if_neg hi];exact h5
 |ret=>exact⟨l,L,h3,h4,h5⟩
inductive Ev (l:Kn):Operand->Value->Prop
 |tmp {t:Nat} {v:Value} (h:lk l t=some v):Ev l (.tmp t) v
 |const {v:Value}:Ev l (.const v) v
 |func {f:Nat}:Ev l (.func f) (.func (.func f) #[] #[])
theorem Ev.eval {x:Operand}{v:Value}{tm:Tm}(h:Ev l x v)(hl:mQ l tm):aO tm x=v:=by
 cases h with
 |tmp h=>exact hl _ _ h
 |const=>rfl
 |func=>rfl
theorem W.cond {x:Operand}{t:Bool}(hx:Ev l x (.bool t))(h1:t=true->W E X Γ a l L Q)(h2:t=false->W E X Γ b l L Q):W E X Γ (.cond x a b) l L Q:=λtm s k1 k2=>by
 refine jt.cond t (hx.eval k1) ?_;cases t with
 |true=>exact h1 rfl tm s k1 k2
 |false=>exact h2 rfl tm s k1 k2
theorem W.loop (I:Nat->Kn->bZ->Prop)(k:Nat)(h0:I k l L)(step:∀k l L,I k l L->W E X Γ a l L (LB Q λl L=>∃j,j<k/\I j l L)):W E X Γ (.loop a) l L Q:=λtm s k1 k2=>by
 refine jt.loop (λk tm s=>∃l L,mQ l tm/\Inv Γ s L/\I k l L) k ⟨l,L,k1,k2,h0⟩ ?_;rintro k tm s ⟨l,L,h1,h2,h3⟩;refine(step k l L h3 tm s h1 h2).mono ?_;rintro e tm s ⟨l,L,h3,h4,h5⟩;cases e with
 |normal=>obtain⟨j,hj,hI⟩:=h5;exact⟨j,hj,l,L,h3,h4,hI⟩
 |exit i=>exact⟨l,L,h3,h4,h5⟩
 |ret=>exact⟨l,L,h3,h4,h5⟩
theorem W.region {id:Nat}{aE:List Oper}(h:WS E X Γ aE aE l L (Q .normal)):W E X Γ (.region id ⟨aE⟩ false) l L Q:=λtm s h1 h2=>jt.region (h tm s h1 h2)
theorem W.draw {id:Nat}{aE:List Oper}(h:∀nx,(∀y∈L,∀i∈y.a8,i<nx)->Γ.s0.next<=nx->WD E X Γ aE aE 0 [] nx l L (Q .normal)):W E X Γ (.region id ⟨aE⟩ true) l L Q:=λtm s h1 h2=>jt.draw (h s.next (λy hy i hi=>(h2.lt y hy i hi).1) h2.le tm s [] h1 h2 rfl (λ_ hx=>by cases hx))
variable {K:Kn->bZ->Prop}{KO:KO}
inductive Want (aE:List Oper)(l:Kn):Option (Nat×Bool)->Bool->Prop
 |none:Want aE l none true
 |some {j d:Nat} {w t:Bool} (hd:mz aE j=some d) (h:lk l d=some (.bool t)):Want aE l (some (j,w)) (if t then w else !w)
 |undef {j d:Nat} {w:Bool} (hd:mz aE j=some d) (h:lk l d=some (.tuple ⟨[]⟩)):Want aE l (some (j,w)) false
theorem Want.eval {g:Option (Nat×Bool)}{t:Bool}{tm:Tm}(h:Want aE l g t)(hl:mQ l tm):ir aE tm g=t:=by
 cases h with
 |none=>rfl
 |some hd h=>
  have h1:=hl _ _ h;show uQ (ob (mz aE _) λd=>tm.get d) _=_;rw[hd];show uQ (tm.get _) _=_;have h2:lZ (tm.get _)=_:=h1;rename_i j d w t;generalize tm.get d=q at h2;cases q with
  |none=>cases h2
  |some v=>cases (show v=_ from h2);cases t<;>rfl
 |undef hd h=>
  have h1:=hl _ _ h;show uQ (ob (mz aE _) λd=>tm.get d) _=_;rw[hd];show uQ (tm.get _) _=_;have h2:lZ (tm.get _)=_:=h1;rename_i j d w;generalize tm.get d=q at h2;cases q with
  |none=>rfl
  |some v=>cases (show v=_ from h2);rfl
theorem WS.nil (h:K l L):WS E X Γ aE [] l L K:=λtm s h1 h2=>za.nil ⟨l,L,h1,h2,h⟩
theorem WS.cons {d:Nat}{o:Oper}(hd:o.dst=some d)(hw:Want aE l o.guard true)(h:WO E X Γ l o.op L λv L' _ _ _ _=>WS E X Γ aE aS ((d,v)::l) L' K):WS E X Γ aE (o::aS) l L K:=λtm s h1 h2=>by
 obtain⟨N,v,s',⟨L',R,Wr,h3,h4,h8⟩,hr⟩:=h tm s h1 h2;exact za.cons (hw.eval h1) ⟨N,v,s',by rw[hd];exact h8 _ _ (h1.cons d v) h3,hr⟩
theorem WS.WC {o:Oper}(hd:o.dst=none)(hw:Want aE l o.guard true)(h:WO E X Γ l o.op L λv L' _ _ _ _=>WS E X Γ aE aS l L' K):WS E X Γ aE (o::aS) l L K:=λtm s h1 h2=>by
 obtain⟨N,v,s',⟨L',R,Wr,h3,h4,h8⟩,hr⟩:=h tm s h1 h2;exact za.cons (hw.eval h1) ⟨N,v,s',by rw[hd];exact h8 _ _ h1 h3,hr⟩
theorem WS.pass {d:Nat}{o:Oper}(hd:o.dst=some d)(hw:Want aE l o.guard false)(h:WS E X Γ aE aS ((d,.tuple ⟨[]⟩)::l) L K):WS E X Γ aE (o::aS) l L K:=λtm s h1 h2=>by
 exact za.pass (hw.eval h1) (by rw[hd];exact h _ _ (h1.cons d _) h2)
end
variable {E:ig}{X:fR}{Γ:qV}{l:Kn}{L L':bZ}{K:KO}{x y:Operand}{v u:Value}{t:TypeId}{k:IntKind}{t2:TypeId}{p q:List UInt8}
def Z:Fp:=λ_=>False
def bH (s:St)(a:aM)(n sz:Nat)(cs:a6):Prop:=
 cs.length=n*sz/\((n=0/\(a=none\/∃b o q,a=some ⟨b,o,some q⟩/\b<s.next))\/∃b o c e w,a=some ⟨b,o,none⟩/\b<s.next/\s.heap.get b=some (.cells c e w)/\(c.drop o).take (n*sz)=cs)
def dr (a:aM)(i sz j:Nat):Value:=match a with
 |some ⟨b,o,none⟩=>.pointer (some ⟨b,o+(i*sz+j),none⟩)
 |_=>.tuple ⟨[]⟩
def aj:aM->List Nat
 |some a=>[a.block]
 |none=>[]
class jc (E:ig)(t:TypeId)(n:outParam Nat):Prop where
 h:size E t=some n
class nP (E:ig)(t:TypeId):Prop where
 h:∃d,ji E t=some d/\Au d=false
class wK (E:ig)(t:TypeId)(n:outParam Nat):Prop where
 h:∃d,ji E t=some d/\Au d=true/\size E t=some n
class iT (E:ig)(t:TypeId)(i:Nat)(off:outParam Nat):Prop where
 h:∃fs f sz,ji E t=some (.struct ⟨fs⟩)/\fs[i]?=some f/\size E f.type=some sz/\1<=sz/\f.offset=off
class pI (E:ig)(t:TypeId)(e sz:outParam Nat):Prop where
 h:ji E t=some (.slice e)/\∃i z,E.ty.get e=some i/\i.size=sz/\i.zero=some z/\(cg z).length=sz/\1<=sz/\i.bytes<=1000000
class sI (E:ig)(t:TypeId)(z:outParam (a6)):Prop where
 h:∃v,zero E t=some v/\cg v=z
class zc (E:ig)(t:TypeId):Prop where
 h:ji E t=some .string
class xM (E:ig)(t:TypeId)(k:outParam IntKind):Prop where
 h:ji E t=some (.int k)
class WE (E:ig)(t:TypeId):Prop where
 h:ji E t=some .bool
class TEq (E:ig)(t:TypeId)(ks:outParam (List Nat)):Prop where
 h:(t,ks)∈E.eqs
section
variable {c:Operand}
theorem kP.id {s:St}{R W:Fp}:kP s s R W:=⟨cG _,λ_ h=>.inl h,λ_ h=>.inl h⟩
theorem WO.val {o:Op}(h:∀tm s (call:eX),mQ l tm->FK E call (aO tm) s o=some (v,s))(k:∀n,K v L n n Z Z):WO E X Γ l o L K:=λtm s h1 h2=>
 fW.pure (λcall=>h tm s call h1) ⟨L,Z,Z,h2,kP.id,k _⟩
theorem WO.move (hx:Ev l x v)(k:∀n,K v L n n Z Z):WO E X Γ l (.move x) L K:=WO.val (λtm s call h=>by show aN _ s=_;rw[hx.eval h];rfl) k
theorem WO.assign (hx:Ev l x v)(k:∀n,K v L n n Z Z):WO E X Γ l (.assign x) L K:=WO.val (λtm s call h=>by show aN _ s=_;rw[hx.eval h];rfl) k
theorem WO.ahg {b:Bool}(hc:Ev l c (.bool b))(hb:b=true)(hx:Ev l x v)(k:∀n,K v L n n Z Z):WO E X Γ l (.pick c x y) L K:=WO.val (λtm s call h=>by
 show QW (aO tm c) (aO tm x) (aO tm y) s=_;rw[hc.eval h,hx.eval h,hb];rfl) k
theorem WO.ahh {b:Bool}(hc:Ev l c (.bool b))(hb:b=false)(hy:Ev l y v)(k:∀n,K v L n n Z Z):WO E X Γ l (.pick c x y) L K:=WO.val (λtm s call h=>by
 show QW (aO tm c) (aO tm x) (aO tm y) s=_;rw[hc.eval h,hy.eval h,hb];rfl) k
theorem WO.not {b:Bool}(hx:Ev l x (.bool b))(k:∀n,K (.bool !b) L n n Z Z):WO E X Γ l (.unOp .not t x) L K:=WO.val (λtm s call h=>by
 show unV .not (aO tm x) s=_;rw[hx.eval h];rfl) k
theorem WO.extract {vs:a6}{i:Nat}(hx:Ev l x (.tuple ⟨vs⟩))(hv:jj vs i=some v)(k:∀n,K v L n n Z Z):WO E X Γ l (.extract x i) L K:=WO.val (λtm s call h=>by
 show yQ s (aO tm x) i=_;rw[hx.eval h];show ob (jj vs i) _=_;rw[hv];rfl) k
theorem WO.bin {op:BinOp}{t2:TypeId}(hx:Ev l x v)(hy:Ev l y u){r:Value}(h:∀cc,SF E op t cc v u=some r)(k:∀n,K r L n n Z Z):WO E X Γ l (.binOp op t x y t2) L K:=WO.val (λtm s call hl=>by
 show ob (SF E op t (isC x||isC y) (aO tm x) (aO tm y)) (λv=>aN v s)=_;rw[hx.eval hl,hy.eval hl,h];rfl) k
def Fit (n:Int):Prop:=-9223372036854775808<=n/\n<=9223372036854775807
theorem qC {n:Int}(h:Fit n):IntKind.wrap .i64 n=n:=by refine' zaU
section
variable {a b:Int}
theorem WO.add (hx:Ev l x (iv a))(hy:Ev l y (iv b))(hf:Fit (a+b))(h:∀n,K (iv (a+b)) L n n Z Z):WO E X Γ l (.binOp .add t x y t2) L K:=WO.bin hx hy (λcc=>by
 show some (Value.int .i64 (qm .i64 (a+b)))=_;rw[j2,qC hf]) h
theorem WO.sub (hx:Ev l x (iv a))(hy:Ev l y (iv b))(hf:Fit (a-b))(h:∀n,K (iv (a-b)) L n n Z Z):WO E X Γ l (.binOp .sub t x y t2) L K:=WO.bin hx hy (λcc=>by
 show some (Value.int .i64 (qm .i64 (a-b)))=_;rw[j2,qC hf]) h
theorem WO.mul (hx:Ev l x (iv a))(hy:Ev l y (iv b))(hf:Fit (a*b))(h:∀n,K (iv (a*b)) L n n Z Z):WO E X Γ l (.binOp .mul t x y t2) L K:=WO.bin hx hy (λcc=>by
 show some (Value.int .i64 (qm .i64 (a*b)))=_;rw[j2,qC hf]) h
theorem WO.quo (hx:Ev l x (iv a))(hy:Ev l y (iv b))(hb:b≠0)(hf:Fit (a.tdiv b))(h:∀n,K (iv (a.tdiv b)) L n n Z Z):WO E X Γ l (.binOp .quo t x y t2) L K:=WO.bin hx hy (λcc=>by
 show bo (yK b (.ofNat 0)) none (some (Value.int .i64 (qm .i64 (a.tdiv b))))=_;rw[jN,j2,qC hf];have:(b== Int.ofNat 0)=false:=by simpa using hb
 rw[this];rfl) h
theorem WO.rem (hx:Ev l x (iv a))(hy:Ev l y (iv b))(hb:b≠0)(h:∀n,K (iv (a.tmod b)) L n n Z Z):WO E X Γ l (.binOp .rem t x y t2) L K:=WO.bin hx hy (λcc=>by
 show bo (yK b (.ofNat 0)) none (some (Value.int .i64 (a.tmod b)))=_;rw[jN];have:(b== Int.ofNat 0)=false:=by simpa using hb
 rw[this];rfl) h
theorem ve (k:IntKind):qo k k=true:=by cases k<;>rfl
theorem tN {op:BinOp}{r:Value}(hs:adV op=false)(h:KZ op k a b=some r):∀cc,SF E op t cc (.int k a) (.int k b)=some r:=λcc=>by
 show bo (adV op) (shV op k a b) (bo (qo k k) (KZ op k a b) none)=_;rw[hs,ve,eL,gC,h]
theorem WO.lss (hx:Ev l x (.int k a))(hy:Ev l y (.int k b))(h:∀n,K (.bool (decide (a<b))) L n n Z Z):WO E X Γ l (.binOp .lss t x y t2) L K:=WO.bin hx hy (tN rfl (by rw[<-rR];rfl)) h
theorem WO.leq (hx:Ev l x (.int k a))(hy:Ev l y (.int k b))(h:∀n,K (.bool (decide (a<=b))) L n n Z Z):WO E X Γ l (.binOp .leq t x y t2) L K:=WO.bin hx hy (tN rfl (by
 show some (Value.bool !(Vi b a))=_;rw[rR];congr 2;rw[<-decide_not];simp)) h
theorem WO.gtr (hx:Ev l x (.int k a))(hy:Ev l y (.int k b))(h:∀n,K (.bool (decide (b<a))) L n n Z Z):WO E X Γ l (.binOp .gtr t x y t2) L K:=WO.bin hx hy (tN rfl (by rw[<-rR];rfl)) h
theorem WO.geq (hx:Ev l x (.int k a))(hy:Ev l y (.int k b))(h:∀n,K (.bool (decide (b<=a))) L n n Z Z):WO E X Γ l (.binOp .geq t x y t2) L K:=WO.bin hx hy (tN rfl (by
 show some (Value.bool !(Vi a b))=_;rw[rR];congr 2;rw[<-decide_not];simp)) h
theorem WO.eql (hx:Ev l x (.int k a))(hy:Ev l y (.int k b))(h:∀n,K (.bool (decide (a=b))) L n n Z Z):WO E X Γ l (.binOp .eql t x y t2) L K:=WO.bin hx hy (tN rfl (by
 show some (Value.bool (yK a b))=_;rw[jN];congr 2)) h
theorem WO.neq (hx:Ev l x (.int k a))(hy:Ev l y (.int k b))(h:∀n,K (.bool !(decide (a=b))) L n n Z Z):WO E X Γ l (.binOp .neq t x y t2) L K:=WO.bin hx hy (tN rfl (by
 show some (Value.bool !(yK a b))=_;rw[jN];congr 2)) h
end
theorem WO.ak0 (hx:Ev l x (sv p))(hy:Ev l y (sv q))(hf:p.length+q.length<=1000000000)(h:∀n,K (sv (p++q)) L n n Z Z):WO E X Γ l (.binOp .add t x y t2) L K:=WO.bin hx hy (λcc=>by
 show dZ (Nat.ble (Nat.add (ec p) (ec q)) 1000000000) (some (Value.string ⟨⟨p++q⟩⟩))=_;have:Nat.ble (Nat.add (ec p) (ec q)) 1000000000=true:=gp (by simpa using hf);rw[this];rfl) h
theorem WO.ak1 (hx:Ev l x (sv p))(hy:Ev l y (sv q))(h:∀n,K (.bool (decide (p=q))) L n n Z Z):WO E X Γ l (.binOp .eql t x y t2) L K:=WO.bin hx hy (λcc=>by
 show some (Value.bool (gB p q))=_;rw[eY];congr 2;rw[po];simp) h
theorem WO.ak2 (hx:Ev l x (sv p))(hy:Ev l y (sv q))(h:∀n,K (.bool !(decide (p=q))) L n n Z Z):WO E X Γ l (.binOp .neq t x y t2) L K:=WO.bin hx hy (λcc=>by
 show some (Value.bool !(gB p q))=_;rw[eY];congr 3;rw[po];simp) h
theorem WO.ak3 (hx:Ev l x (sv p))(hy:Ev l y (sv q))(h:∀n,K (.bool !(Op.bytesLess p q)) L n n Z Z):WO E X Γ l (.binOp .geq t x y t2) L K:=WO.bin hx hy (λcc=>by
 show some (Value.bool !(oG p q))=_;rw[tt]) h
theorem WO.index {i:Nat}[ht:zc E t](hx:Ev l x (sv p)){k:IntKind}(hy:Ev l y (.int k (i:Int)))(hi:i<p.length)(h:∀n,K (bv (p.getD i 0)) L n n Z Z):WO E X Γ l (.index t x y) L K:=WO.val (λtm s call hl=>by
 show I4 E s t (aO tm x) (aO tm y)=_;rw[hx.eval hl,hy.eval hl];unfold I4;rw[ht.h];show ob (jj p i) (λc=>aN (.int .u8 (.ofNat c.toNat)) s)=_;rw[dR,bd hi];simp[aZ,bd hi];rfl) h
theorem WO.ak4 [ht:zc E t](hx:Ev l x (sv p))(h:∀n,K (iv (p.length:Nat)) L n n Z Z):WO E X Γ l (.call ⟨.builtin .len,⟨[x]⟩,⟨[t]⟩⟩) L K:=WO.val (λtm s call hl=>by
 show yO E (aO tm) s .len [t] [x]=_;show su E s .len [t] (aO tm x)=_;rw[hx.eval hl];show ob (some t) (λt=>ob (SH E t (sv p)) λv=>aN v s)=_;simp only[cu];unfold SH;rw[ht.h];simp[aN]) h
theorem WO.ak5 {a:aM}{n c e sz:Nat}[ht:pI E t e sz](hx:Ev l x (.slice a n c))(h:∀m,K (iv (n:Nat)) L m m Z Z):WO E X Γ l (.call ⟨.builtin .len,⟨[x]⟩,⟨[t]⟩⟩) L K:=WO.val (λtm s call hl=>by
 show yO E (aO tm) s .len [t] [x]=_;show su E s .len [t] (aO tm x)=_;rw[hx.eval hl];show ob (some t) (λt=>ob (SH E t (.slice a n c)) λv=>aN v s)=_;simp only[cu];unfold SH;rw[ht.h.1];simp[aN]) h
theorem WO.Jy {lo hi:Option Operand}{i j:Nat}[ht:zc E t](hx:Ev l x (sv p))(hlo:(lo=none/\i=0)\/∃o k,lo=some o/\Ev l o (.int k (i:Int)))(Z5:(hi=none/\j=p.length)\/∃o k,hi=some o/\Ev l o (.int k (j:Int)))
  (nD:i<=j)(hj:j<=p.length)(h:∀n,K (sv ((p.drop i).take (j-i))) L n n Z Z):WO E X Γ l (.slice t x lo hi none) L K:=WO.val (λtm s call hl=>by
 show kv E s t (aO tm x) (dH (aO tm) lo) (dH (aO tm) hi) none=_;rw[hx.eval hl];have h1:hiV (ec p) (ec p) (dH (aO tm) hi) none=some j:=by
  rcases Z5 with⟨rfl,rfl⟩|⟨o,k,rfl,ho⟩
  .show some (ec p)=_;simp
  .show pL (aO tm o) (ec p)=_;rw[ho.eval hl];show bo (Nat.ble j (ec p)) (some j) none=_;rw[gp (by simpa using hj)];rfl
 have h2:SG (dH (aO tm) lo) j 0=some i:=by
  rcases hlo with⟨rfl,rfl⟩|⟨o,k,rfl,ho⟩
  .rfl
  .show pL (aO tm o) j=_;rw[ho.eval hl];show bo (Nat.ble i j) (some i) none=_;rw[gp nD];rfl
 unfold kv;rw[ht.h];show ob (Db p (dH (aO tm) lo) (dH (aO tm) hi) none) (λv=>aN v s)=_;have h3:Db p (dH (aO tm) lo) (dH (aO tm) hi) none=some (sv ((p.drop i).take (j-i))):=by
  show ob (some (ec p)) (λm=>ob (hiV (ec p) m (dH (aO tm) hi) none) λh=>ob (SG (dH (aO tm) lo) h 0) λl=>some (Value.string ⟨⟨VK (Nat.sub h l) (VL l p)⟩⟩))=_;simp only[cu,h1,h2];simp
 rw[h3];rfl) h
end
variable {s s':St}{R:bZ}{n sz:Nat}{cs:a6}{α:Type}
inductive zd (x x':It):bZ->bZ->Prop
 |here {L:bZ}:zd x x' (x::L) (x'::L)
 |there {y:It} {L L':bZ} (h:zd x x' L L'):zd x x' (y::L) (y::L')
theorem zd.cZ {x x':It}{L L':bZ}(h:zd x x' L L'):∃R:bZ,L.Perm (x::R)/\L'.Perm (x'::R):=by
 induction h with
 |here=>exact⟨_,.refl _,.refl _⟩
 |there h ih=>
  obtain⟨R,h1,h2⟩:=ih;exact⟨_::R,(h1.cons _).trans (.swap _ _ _),(h2.cons _).trans (.swap _ _ _)⟩
theorem Inv.cZ (h:Inv Γ s L)(hp:L.Perm L'):Inv Γ s L':=h.sub ⟨L,hp,GG _⟩
theorem Inv.iQ {x:It}(h:Inv Γ s (x::R)):Inv Γ s R:=h.sub ⟨R,.refl _,List.sublist_cons_self _ _⟩
theorem Inv.far {x:It}(h:Inv Γ s (x::R)):∀y∈R,∀b∈y.a8,b∉x.a8:=by have:=h.nd;rw[mv,rh] at this;intro y hy b hb hx;exact this.2.2 b hx b (pC.2 ⟨y,hy,hb⟩) rfl
def FT (Γ:qV)(s:St)(b:Nat):Prop:=b<s.next/\(b∈Γ.A\/b∈Γ.M\/Γ.s0.next<=b)
theorem Inv.may {x:It}(h:Inv Γ s L)(hx:x∈L){b:Nat}(hb:b∈x.a8):FT Γ s b:=⟨(h.lt x hx b hb).1,.inr ((h.lt x hx b hb).2.symm)⟩
theorem Inv.aY {b:Nat}(h:Inv Γ s L)(hb:FT Γ s b):Inv Γ (s.aY b) L:=
 h.same ay ay (λi hi=>by
   rw[sy,gO] at hi;rcases hi with hi|rfl
   .exact .inl hi
   .exact .inr hb.2) (λi hi=>by rw[Cu] at hi;exact .inl hi) (λi hi=>by
   rw[sy,gO] at hi;rcases hi with hi|rfl
   .exact .inl hi
   .exact .inr hb.1) (λi hi=>by rw[Cu] at hi;exact .inl hi)
theorem Inv.new {x:It}{o:gV}(h:Inv Γ s L)(hx:x.ok (s.new o))(hb:x.a8=[s.next]):Inv Γ (s.new o) (x::L):=by
 refine⟨λb h1 h2=>?_,by rw[l3];have:=h.le;omega,?_,?_,?_,?_,?_,?_,?_⟩
 .rw[Cv,if_neg (by have:=h.le;omega)];exact h.fr b h1 h2
 .intro y hy;rcases bT.1 hy with rfl|hy
  .exact hx
  .refine It.zb (h.it y hy) λb hb=>?_
   rw[Cv,if_neg (by have:=(h.lt y hy b hb).1;omega)]
 .intro y hy b lD;rw[l3];rcases bT.1 hy with rfl|hy
  .rw[hb] at lD;simp at lD;subst lD;exact⟨ag,.inl h.le⟩
  .have:=h.lt y hy b lD;exact⟨ag,this.2⟩
 .rw[mv,hb,uh,uN];refine⟨λhm=>?_,h.nd⟩;obtain⟨y,hy,lD⟩:=pC.1 hm;have:=(h.lt y hy _ lD).1;omega
 .intro b lD;rw[yV,gO] at lD;rcases lD with lD|rfl
  .exact h.cU b lD
  .exact .inr (.inr (.inr h.le))
 .intro b lD;rw[xB,gO] at lD;rcases lD with lD|rfl
  .exact h.wr b lD
  .exact .inr (.inr h.le)
 .intro b lD;rw[yV,gO] at lD;rw[l3];rcases lD with lD|rfl
  .rcases h.top b lD with h|h
   .exact .inl h
   .exact .inr ag
  .exact .inr ag
 .intro b lD;rw[xB,gO] at lD;rw[l3];rcases lD with lD|rfl
  .rcases h.Cf b lD with h|h
   .exact .inl h
   .exact .inr ag
  .exact .inr ag
theorem Inv.put {x x':It}{b:Nat}{o:Option gV}(h:Inv Γ s L)(hu:zd x x' L L')(hb:x.a8=[b])(lD:x'.a8=[b])(hx:x'.ok (s.put b o)):Inv Γ (s.put b o) L':=by
 obtain⟨R,h1,h2⟩:=hu.cZ;have hR:=h.cZ h1;have lH:=hR.lt x ay b (by simp[hb]);refine Inv.cZ (L:=x'::R) ?_ h2.symm;refine⟨λc h3 h4=>?_,by rw[eh];exact h.le,?_,?_,?_,?_,?_,?_,?_⟩
 .rw[rl,if_neg]
  .exact h.fr c h3 h4
  .rintro rfl;rcases lH.2 with h5|h5
   .omega
   .exact h4 h5
 .intro y hy;rcases bT.1 hy with rfl|hy
  .exact hx
  .refine It.zb (hR.it y (by simp[hy])) λc hc=>?_
   rw[rl,if_neg];rintro rfl;exact hR.far y hy c hc (by simp[hb])
 .intro y hy c hc;rw[eh];rcases bT.1 hy with rfl|hy
  .rw[lD] at hc;simp at hc;subst hc;exact lH
  .exact hR.lt y (by simp[hy]) c hc
 .have:=hR.nd;rw[mv,hb] at this;rw[mv,lD];exact this
 .intro c hc;rw[rm,gO] at hc;rcases hc with hc|rfl
  .exact h.cU c hc
  .exact .inr (.inr lH.2.symm)
 .intro c hc;rw[tp,gO] at hc;rcases hc with hc|rfl
  .exact h.wr c hc
  .exact .inr lH.2.symm
 .intro c hc;rw[rm,gO] at hc;rw[eh];rcases hc with hc|rfl
  .exact h.top c hc
  .exact .inr lH.1
 .intro c hc;rw[tp,gO] at hc;rw[eh];rcases hc with hc|rfl
  .exact h.Cf c hc
  .exact .inr lH.1
theorem Inv.kill {x:It}{b:Nat}{o:Option gV}(h:Inv Γ s (x::R))(hb:x.a8=[b]):Inv Γ (s.put b o) R:=by
 have lH:=h.lt x ay b (by simp[hb]);have hR:=h.iQ;refine⟨λc h3 h4=>?_,by rw[eh];exact h.le,λy hy=>It.zb (hR.it y hy) λc hc=>?_,λy hy c hc=>by rw[eh];exact hR.lt y hy c hc,hR.nd,?_,?_,?_,?_⟩
 .rw[rl,if_neg]
  .exact h.fr c h3 h4
  .rintro rfl;rcases lH.2 with h5|h5
   .omega
   .exact h4 h5
 .rw[rl,if_neg];rintro rfl;exact h.far y hy c hc (by simp[hb])
 .intro c hc;rw[rm,gO] at hc;rcases hc with hc|rfl
  .exact h.cU c hc
  .exact .inr (.inr lH.2.symm)
 .intro c hc;rw[tp,gO] at hc;rcases hc with hc|rfl
  .exact h.wr c hc
  .exact .inr lH.2.symm
 .intro c hc;rw[rm,gO] at hc;rw[eh];rcases hc with hc|rfl
  .exact h.top c hc
  .exact .inr lH.1
 .intro c hc;rw[tp,gO] at hc;rw[eh];rcases hc with hc|rfl
  .exact h.Cf c hc
  .exact .inr lH.1
structure Rd (Γ:qV)(a:aM)(n sz:Nat)(cs:a6):Prop where
 row:bH Γ.s0 a n sz cs
 A:∀b∈aj a,b∈Γ.A
 M:∀b∈aj a,b∉Γ.M
inductive jB (Γ:qV)(L:bZ)(a:aM)(n sz:Nat)(cs:a6):Prop
 |rd (h:Rd Γ a n sz cs):jB Γ L a n sz cs
 |aQ {c e:Nat} (h:It.aQ (.slice a n c) e sz cs∈L):jB Γ L a n sz cs
 |box {b t:Nat} {w:Bool} (h:It.box b cs t w∈L) (ha:a=some ⟨b,0,none⟩) (hn:cs.length=n*sz):jB Γ L a n sz cs
 |sub {c e n0:Nat} {a0:aM} {cs0:a6} (h:It.aQ (.slice a0 n0 c) e sz cs0∈L) (hr:∀s,bH s a0 n0 sz cs0->bH s a n sz cs) (hb:∀b∈aj a,b∈aj a0):jB Γ L a n sz cs
section
variable {a:aM}
theorem xL.row {e c:Nat}(h:xL s (.slice a n c) e sz cs)(hb:∀b∈aj a,b<s.next):bH s a n sz cs:=by
 rcases h with⟨h1,rfl⟩|⟨b,m,k,w,aS,h1,h2,h3,h4⟩
 .cases h1;exact⟨ay,.inl ⟨rfl,.inl rfl⟩⟩
 .cases h1;exact⟨h3,.inr ⟨b,0,cs++aS,e,w,rfl,hb b (by simp[aj]),h2,by rw[<-h3];simp⟩⟩
theorem jB.row (h:jB Γ L a n sz cs)(hi:Inv Γ s L):bH s a n sz cs/\∀b∈aj a,FT Γ s b:=by
 cases h with
 |rd h=>
  obtain⟨h1,h2⟩:=h.row;rcases h2 with⟨rfl,rfl|⟨b,o,q,rfl,h3⟩⟩|⟨b,o,c,e,w,rfl,h3,h4,h5⟩
  .exact⟨⟨h1,.inl ⟨rfl,.inl rfl⟩⟩,by simp[aj]⟩
  .have:=hi.le;refine⟨⟨h1,.inl ⟨rfl,.inr ⟨b,o,q,rfl,ag⟩⟩⟩,λi hb=>?_⟩;have hib:i=b:=by simpa[aj] using hb
   subst hib;exact⟨ag,.inl (h.A i hb)⟩
  .have:=hi.le;refine⟨⟨h1,.inr ⟨b,o,c,e,w,rfl,ag,?_,h5⟩⟩,λi hb=>?_⟩
   .rw[hi.fr b h3 (h.M b (by simp[aj]))];exact h4
   .have hib:i=b:=by simpa[aj] using hb
    subst hib;exact⟨ag,.inl (h.A i hb)⟩
 |aQ h=>
  have h1:∀b∈aj a,FT Γ s b:=λb hb=>hi.may h (by
   cases a with
   |none=>simp[aj] at hb
   |some a=>simpa[It.a8,mZ,aj] using hb)
  exact⟨xL.row (hi.it _ h) λb hb=>(h1 b hb).1,h1⟩
 |sub h hr hb=>
  rename_i c e n0 a0 cs0;have h1:∀b∈aj a0,FT Γ s b:=λb hb=>hi.may h (by
   cases a0 with
   |none=>simp[aj] at hb
   |some a=>simpa[It.a8,mZ,aj] using hb)
  exact⟨hr s (xL.row (hi.it _ h) λb hb=>(h1 b hb).1),λb lD=>h1 b (hb b lD)⟩
 |box h ha hn=>
  rename_i b t w;subst ha;have h1:=hi.may h (b:=b) (by simp[It.a8]);refine⟨⟨hn,.inr ⟨b,0,cs,t,w,rfl,h1.1,hi.it _ h,by rw[<-hn];simp⟩⟩,λi fF=>?_⟩;have:i=b:=by simpa[aj] using fF
  subst this;exact h1
theorem db {s:St}{b:Nat}{R W:Fp}(hb:b<s.next)(hR:R b):kP s (s.aY b) R W:=⟨ay,λi hi=>by
  rw[sy,gO] at hi;rw[cz];rcases hi with hi|rfl
  .exact .inl hi
  .exact .inr ⟨hR,hb⟩,λi hi=>by rw[Cu] at hi;exact .inl hi⟩
theorem tO {b off:Nat}{c:a6}{e:TypeId}{w:Bool}[ht:nP E t](hb:s.heap.get b=some (.cells c e w))(hv:c[off]?=some v):mw E s t b off=some (v,s.aY b):=by obtain⟨d,h1,h2⟩:=ht.h;unfold mw St.KY St.look;rw[hb];simp only[cu,h1,h2,eL,dR,hv]
theorem vS {b off m:Nat}{c:a6}{e:TypeId}{w:Bool}{r:a6}[ht:wK E t m](hb:s.heap.get b=some (.cells c e w))(hv:ja m (eb off c)=some r):mw E s t b off=some (.agg ⟨r⟩,s.aY b):=by obtain⟨d,h1,h2,h3⟩:=ht.h;unfold mw St.KY St.look;rw[hb];simp only[cu,h1,h2,gC,h3,hv]
theorem WO.reads {o:Op}{b:Nat}(hi:∀s,Inv Γ s L->FT Γ s b)(h:∀tm s (call:eX),mQ l tm->Inv Γ s L->FK E call (aO tm) s o=some (v,s.aY b))(k:∀n,K v L n n (λi=>i=b) Z):WO E X Γ l o L K:=λtm s h1 h2=>
 fW.pure (λcall=>h tm s call h1 h2) ⟨L,(λi=>i=b),Z,h2.aY (hi s h2),db (hi s h2).1 rfl,by rw[cz];exact k _⟩
theorem WO.load {b off:Nat}{e:TypeId}{w:Bool}[ht:nP E t](hx:Ev l x (.pointer (some ⟨b,off,none⟩)))(hm:It.box b cs e w∈L)(hv:jj cs off=some v)(k:∀n,K v L n n (λi=>i=b) Z):WO E X Γ l (.load t x) L K:=
 WO.reads (λs hi=>hi.may hm (by simp[It.a8])) (λtm s call hl hi=>by
   show(FJ (aO tm x) λb o=>mw E s t b o)=_;rw[hx.eval hl];exact tO (hi.it _ hm) (by rw[<-dR];exact hv)) k
theorem WO.ahi {b off m:Nat}{e:TypeId}{w:Bool}{r:a6}[ht:wK E t m](hx:Ev l x (.pointer (some ⟨b,off,none⟩)))(hm:It.box b cs e w∈L)(hv:ja m (eb off cs)=some r)(k:∀n,K (.agg ⟨r⟩) L n n (λi=>i=b) Z):WO E X Γ l (.load t x) L K:=
 WO.reads (λs hi=>hi.may hm (by simp[It.a8])) (λtm s call hl hi=>by
   show(FJ (aO tm x) λb o=>mw E s t b o)=_;rw[hx.eval hl];exact vS (hi.it _ hm) hv) k
class ak (α:Type)(sz:outParam Nat) where
 cells:α->a6
 ah:α
 len:∀x,(cells x).length=sz
 fl:∀x,∀v∈cells x,flat v=true
 pos:1<=sz
def ai {α:Type}{sz:Nat}[ak α sz](l:List α):a6:=l.flatMap (ak.cells (sz:=sz))
section
variable [ak α sz]
theorem rA (p q:List α):ai (sz:=sz) (p++q)=ai (sz:=sz) p++ai (sz:=sz) q:=by simp[ai]
theorem dJ (p:α)(q:List α):ai (sz:=sz) (p::q)=ak.cells (sz:=sz) p++ai (sz:=sz) q:=by simp[ai]
theorem bp (p:List α):(ai (sz:=sz) p).length=p.length*sz:=by
 induction p with
 |nil=>simp[ai]
 |cons x p ih=>rw[dJ,bL,ih,ak.len];simp[mM,Nat.add_comm]
theorem AK (p:List α):∀v∈ai (sz:=sz) p,flat v=true:=by intro v hv;obtain⟨x,_,h⟩:=pC.1 hv;exact ak.fl x v h
theorem sJ (p:List α)(i:Nat):(ai (sz:=sz) p).drop (i*sz)=ai (sz:=sz) (p.drop i):=by
 induction p generalizing i with
 |nil=>simp[ai]
 |cons x p ih=>
  cases i with
  |zero=>simp
  |succ i=>
   rw[dJ,List.drop_succ_cons,<-ih,List.drop_append,ak.len];(have:(i+1)*sz=sz+i*sz:=by rw[mM];omega);rw[this];simp[ak.len]
theorem pZ (p:List α)(i:Nat):(ai (sz:=sz) p).take (i*sz)=ai (sz:=sz) (p.take i):=by
 induction p generalizing i with
 |nil=>simp[ai]
 |cons x p ih=>
  cases i with
  |zero=>simp[ai]
  |succ i=>
   rw[dJ,x_5,dJ,<-ih,Bk,ak.len];(have:(i+1)*sz=sz+i*sz:=by rw[mM];omega);rw[this,Nat.add_sub_cancel_left,qW (by rw[ak.len];omega)]
theorem Rg (p:List α){i:Nat}(hi:i<p.length):∃q r,ai (sz:=sz) p=q++(ak.cells (sz:=sz) (p.getD i (ak.ah (sz:=sz)))++r)/\q.length=i*sz:=by
 refine⟨ai (sz:=sz) (p.take i),ai (sz:=sz) (p.drop (i+1)),?_,?_⟩
 .have h:p=p.take i++(p.getD i (ak.ah (sz:=sz))::p.drop (i+1)):=by
   rw[aZ,bd hi];simp
  conv=>lhs;rw[h]
  rw[rA,dJ]
 .rw[bp,cW,As (si hi)]
theorem WG (p:List α){i j:Nat}(hi:i<p.length)(hv:jj (ak.cells (sz:=sz) (p.getD i (ak.ah (sz:=sz)))) j=some v):(ai (sz:=sz) p)[i*sz+j]?=some v:=by obtain⟨q,r,h1,h2⟩:=Rg (sz:=sz) p hi;rw[dR] at hv;have hj:j<(ak.cells (sz:=sz) (p.getD i (ak.ah (sz:=sz)))).length:=(te.1 hv).1;rw[h1,Ao ag,h2,Nat.add_sub_cancel_left,wE hj,hv]
theorem WH (p:List α){i:Nat}(hi:i<p.length):ja sz (eb (i*sz+0) (ai (sz:=sz) p))=some (ak.cells (sz:=sz) (p.getD i (ak.ah (sz:=sz)))):=by obtain⟨q,r,h1,h2⟩:=Rg (sz:=sz) p hi;rw[qp,yS,h1,xq,<-h2,List.drop_left,if_pos (by rw[bL,ak.len];omega),Bk,ak.len,qW (by rw[ak.len];omega)];simp
end
section
variable {enc:ak α sz}
theorem bH.at_ {p:List α}(h:bH s a n sz (ai (sz:=sz) p)){i:Nat}(hi:i<p.length):∃b o c e w,a=some ⟨b,o,none⟩/\b<s.next/\s.heap.get b=some (.cells c e w)/\(c.drop o).take (n*sz)=ai (sz:=sz) p/\n=p.length:=by
 have hn:n=p.length:=by
  have h1:=h.1;rw[bp] at h1;exact(Nat.eq_of_mul_eq_mul_right (ak.pos (α:=α) (sz:=sz)) h1).symm
 rcases h.2 with⟨h0,_⟩|⟨b,o,c,e,w,rfl,h1,h2,h3⟩
 .omega
 .exact⟨b,o,c,e,w,rfl,h1,h2,h3,hn⟩
theorem BE {c cs:a6}{o m k:Nat}(h:(c.drop o).take m=cs)(hv:cs[k]?=some v):c[o+k]?=some v:=by
 have hk:k<cs.length:=(te.1 hv).1;rw[<-h,IV] at hv;split at hv
 .rw[wQ] at hv;exact hv
 .cases hv
theorem w8 {c cs r:a6}{o m k sz:Nat}(h:(c.drop o).take m=cs)(hv:ja sz (eb k cs)=some r):ja sz (eb (o+k) c)=some r:=by
 obtain⟨h1,h2⟩:=kQ hv;rw[qp] at h1 h2⊢;subst h2;rw[yS];rw[<-h,eW,cW,eW] at h1;have h3:sz<=(c.drop (o+k)).length:=by rw[eW];omega
 rw[if_pos h3]
 congr 1
 rw[<-h,List.drop_take,mu,OC,As ag]
theorem WO.ahj {p:List α}{i j:Nat}[ht:nP E t](hx:Ev l x (dr a i sz j))(hh:jB Γ L a n sz (ai (sz:=sz) p))(hi:i<p.length)(hv:jj (ak.cells (sz:=sz) (p.getD i (ak.ah (sz:=sz)))) j=some v)(k:∀n,K v L n n (λi=>i∈aj a) Z):WO E X Γ l (.load t x) L K:=λtm s h1 h2=>by
 obtain⟨hr,hm⟩:=hh.row h2;obtain⟨b,o,c,e,w,rfl,h3,h4,h5,h6⟩:=hr.at_ hi;refine fW.pure (v:=v) (s':=s.aY b) (λcall=>?_) ⟨L,(λi=>i∈aj (some ⟨b,o,none⟩)),Z,h2.aY (hm b (by simp[aj])),db h3 (by simp[aj]),by rw[cz];exact k _⟩
 .show(FJ (aO tm x) λb o=>mw E s t b o)=_;rw[hx.eval h1];exact tO h4 (BE h5 (WG p hi hv))
theorem WO.aeg {p:List α}{i:Nat}[ht:wK E t sz](hx:Ev l x (dr a i sz 0))(hh:jB Γ L a n sz (ai (sz:=sz) p))(hi:i<p.length)(k:∀n,K (.agg ⟨ak.cells (sz:=sz) (p.getD i (ak.ah (sz:=sz)))⟩) L n n (λi=>i∈aj a) Z):WO E X Γ l (.load t x) L K:=λtm s h1 h2=>by
 obtain⟨hr,hm⟩:=hh.row h2;obtain⟨b,o,c,e,w,rfl,h3,h4,h5,h6⟩:=hr.at_ hi;refine fW.pure (v:=.agg ⟨ak.cells (sz:=sz) (p.getD i (ak.ah (sz:=sz)))⟩) (s':=s.aY b) (λcall=>?_) ⟨L,(λi=>i∈aj (some ⟨b,o,none⟩)),Z,h2.aY (hm b (by simp[aj])),db h3 (by simp[aj]),by rw[cz];exact k _⟩
 .show(FJ (aO tm x) λb o=>mw E s t b o)=_;rw[hx.eval h1];exact vS h4 (w8 h5 (WH p hi))
theorem WO.indexAddr {p:List α}{i c e:Nat}{k:IntKind}[ht:pI E t e sz](hx:Ev l x (.slice a n c))(hy:Ev l y (.int k (i:Int)))(hh:jB Γ L a n sz (ai (sz:=sz) p))(hi:i<p.length)(hk:∀n,K (dr a i sz 0) L n n Z Z):WO E X Γ l (.indexAddr t x y) L K:=λtm s h1 h2=>by
 obtain⟨hr,hm⟩:=hh.row h2;obtain⟨b,o,cc,e',w,rfl,h3,h4,h5,h6⟩:=hr.at_ hi;obtain⟨hu,z1,z2,hz,hz2,_⟩:=ht.h;refine fW.pure (v:=dr (some ⟨b,o,none⟩) i sz 0) (s':=s) (λcall=>?_) ⟨L,Z,Z,h2,kP.id,hk _⟩;show nV E s t (aO tm x) (aO tm y)=_;rw[hx.eval h1,hy.eval h1];unfold nV;rw[hu];show dZ (Nat.ble (Nat.succ i) n) (ob (size E e) λsz=>aN (.pointer (some ⟨b,Nat.add o (Nat.mul i sz),none⟩)) s)=_;have hs:size E e=some sz:=by unfold size;rw[hz];simp[hz2]
 rw[gp ag,hs];rfl
end
theorem WO.fieldAddr {b o i off:Nat}[ht:iT E t i off](hx:Ev l x (.pointer (some ⟨b,o,none⟩)))(k:∀n,K (.pointer (some ⟨b,o+off,none⟩)) L n n Z Z):WO E X Γ l (.fieldAddr t x i) L K:=WO.val (λtm s call hl=>by
 obtain⟨fs,f,sz,h1,h2,h3,h4,h5⟩:=ht.h;show nU E s t (aO tm x) i=_;rw[hx.eval hl];unfold nU;rw[h1];simp only[cu,dR,h2,h3,gp h4];show aN (.pointer (some ⟨b,Nat.add o f.offset,none⟩)) s=_;rw[h5];rfl) k
theorem WO.O7 {α:Type}{enc:ak α sz}{p:List α}{i j f off:Nat}[ht:iT E t f off](hx:Ev l x (dr a i sz j))(hh:jB Γ L a n sz (ai (sz:=sz) p))(hi:i<p.length)(k:∀n,K (dr a i sz (j+off)) L n n Z Z):WO E X Γ l (.fieldAddr t x f) L K:=λtm s hl h2=>by
 obtain⟨fs,f,LC,h1,Ou,h3,h4,h5⟩:=ht.h;obtain⟨b,o,_,_,_,rfl,_⟩:=(hh.row h2).1.at_ hi;refine fW.pure (v:=dr (some ⟨b,o,none⟩) i sz (j+off)) (s':=s) (λcall=>?_) ⟨L,Z,Z,h2,kP.id,k _⟩;show nU E s t (aO tm x) _=_;rw[hx.eval hl];unfold nU;rw[h1];simp only[cu,dR,Ou,h3,gp h4];show aN (.pointer (some ⟨b,Nat.add (o+(i*sz+j)) f.offset,none⟩)) s=_;rw[h5];show aN _ _=some (dr _ _ _ _,_);unfold dr aN
 congr 5
 show o+(i*sz+j)+off=_;omega
end
class mo (E:ig)(t:TypeId)(pl:outParam (List (Nat×Nat)))(z:outParam (a6)):Prop where
 h:∃fs v,ji E t=some (.struct ⟨fs⟩)/\places E fs=some pl/\zero E t=some v/\cg v=z
class uz (E:ig)(t:TypeId)(e sz:outParam Nat)(z:outParam (a6)):Prop where
 h:ji E t=some (.slice e)/\∃i v,E.ty.get e=some i/\i.size=sz/\i.zero=some v/\cg v=z/\z.length=sz/\1<=sz/\i.bytes<=1000000
inductive O8 (x:It):bZ->bZ->Prop
 |here {L:bZ}:O8 x (x::L) L
 |there {y:It} {L R:bZ} (h:O8 x L R):O8 x (y::L) (y::R)
theorem O8.cZ {x:It}{L R:bZ}(h:O8 x L R):L.Perm (x::R):=by
 induction h with
 |here=>exact .refl _
 |there h ih=>exact(ih.cons _).trans (.swap _ _ _)
section
variable {a:aM}
def jX (L:bZ)(b:Nat):Prop:=∀y∈L,∀i∈y.a8,i<b
theorem Inv.old (h:Inv Γ s L):jX L s.next:=λy hy i hi=>(h.lt y hy i hi).1
theorem vg {s:St}{o:gV}{R W:Fp}(hR:R s.next)(hW:W s.next):kP s (s.new o) R W:=⟨ay,λi hi=>by
  rw[yV,gO] at hi;rw[l3];rcases hi with hi|rfl
  .exact .inl hi
  .exact .inr ⟨hR,ag⟩,λi hi=>by
  rw[xB,gO] at hi;rw[l3];rcases hi with hi|rfl
  .exact .inl hi
  .exact .inr ⟨hW,ag⟩⟩
theorem j6 {s:St}{b:Nat}{o:Option gV}{R W:Fp}(hb:b<s.next)(hR:R b)(hW:W b):kP s (s.put b o) R W:=⟨ay,λi hi=>by
  rw[rm,gO] at hi;rw[eh];rcases hi with hi|rfl
  .exact .inl hi
  .exact .inr ⟨hR,hb⟩,λi hi=>by
  rw[tp,gO] at hi;rw[eh];rcases hi with hi|rfl
  .exact .inl hi
  .exact .inr ⟨hW,hb⟩⟩
theorem kP.trans {s s1 s2:St}{R W:Fp}(h:kP s s1 R W)(k:kP s1 s2 R W):kP s s2 R W:=⟨gK h.nx k.nx,λi hi=>by
  rcases k.cU i hi with h1|h1
  .rcases h.cU i h1 with h2|h2
   .exact .inl h2
   .exact .inr ⟨h2.1,xn h2.2 k.nx⟩
  .exact .inr h1,λi hi=>by
  rcases k.wr i hi with h1|h1
  .rcases h.wr i h1 with h2|h2
   .exact .inl h2
   .exact .inr ⟨h2.1,xn h2.2 k.nx⟩
  .exact .inr h1⟩
theorem WO.news {o:Op}{ob:Nat->gV}{mk:Nat->Value}{it:Nat->It}(h:∀tm s (call:eX),mQ l tm->Inv Γ s L->FK E call (aO tm) s o=some (mk s.next,s.new (ob s.next)))
  (fm:∀s b,s.heap.get b=some (ob b)->(it b).ok s)(hb:∀b,(it b).a8=[b])(k:∀b,jX L b->K (mk b) (it b::L) b (b+1) (λi=>i=b) (λi=>i=b)):WO E X Γ l o L K:=λtm s h1 h2=>
 fW.pure (λcall=>h tm s call h1 h2) ⟨it s.next::L,(λi=>i=s.next),(λi=>i=s.next),h2.new (fm _ _ ay) (hb _),vg rfl rfl,by rw[l3];exact k _ h2.old⟩
theorem WO.ak6 {cs:a6}(hx:Ev l x (.agg ⟨cs⟩))(k:∀b,jX L b->K (.pointer (some ⟨b,0,none⟩)) (.box b cs t false::L) b (b+1) (λi=>i=b) (λi=>i=b)):WO E X Γ l (.box t x) L K:=
 WO.news (mk:=λb=>.pointer (some ⟨b,0,none⟩)) (ob:=λ_=>.cells cs t false) (it:=λb=>.box b cs t false) (λtm s call hl _=>by
   show OG s (cg (aO tm x)) t=_;rw[hx.eval hl];rfl) (λs b h=>h) (λb=>rfl) k
theorem WO.ak7 (hx:Ev l x v)(hv:cg v=[v])(k:∀b,jX L b->K (.pointer (some ⟨b,0,none⟩)) (.box b [v] t false::L) b (b+1) (λi=>i=b) (λi=>i=b)):WO E X Γ l (.box t x) L K:=
 WO.news (mk:=λb=>.pointer (some ⟨b,0,none⟩)) (ob:=λ_=>.cells [v] t false) (it:=λb=>.box b [v] t false) (λtm s call hl _=>by
   show OG s (cg (aO tm x)) t=_;rw[hx.eval hl,hv];rfl) (λs b h=>h) (λb=>rfl) k
theorem WO.alloc {z:a6}[ht:sI E t z](k:∀b,jX L b->K (.pointer (some ⟨b,0,none⟩)) (.box b z t false::L) b (b+1) (λi=>i=b) (λi=>i=b)):WO E X Γ l (.alloc t) L K:=
 WO.news (mk:=λb=>.pointer (some ⟨b,0,none⟩)) (ob:=λ_=>.cells z t false) (it:=λb=>.box b z t false) (λtm s call hl _=>by
   obtain⟨v,h1,h2⟩:=ht.h;show I1 E s t=_;unfold I1;rw[h1];show OG s (cg v) t=_;rw[h2];rfl) (λs b h=>h) (λb=>rfl) k
inductive Tk (l:Kn):List (Nat×Operand)->List (Nat×Value)->Prop
 |nil:Tk l [] []
 |cons {i:Nat} {x:Operand} {v:Value} {ps:List (Nat×Operand)} {vs:List (Nat×Value)} (h:Ev l x v) (k:Tk l ps vs):Tk l ((i,x)::ps) ((i,v)::vs)
theorem Tk.eval {ps:List (Nat×Operand)}{vs:List (Nat×Value)}{tm:Tm}(h:Tk l ps vs)(hl:mQ l tm):tg (aO tm) ps=vs:=by
 induction h with
 |nil=>rfl
 |cons h _ ih=>
  show(_,aO tm _)::tg (aO tm) _=_;rw[ih,h.eval hl]
theorem WO.build {ps:List (Nat×Operand)}{vs:List (Nat×Value)}{pl:List (Nat×Nat)}{z:a6}[ht:mo E t pl z](hp:Tk l ps vs)(hf:sr (jj pl) vs z=some cs)(k:∀n,K (.agg ⟨cs⟩) L n n Z Z):WO E X Γ l (.build t ⟨ps⟩) L K:=WO.val (λtm s call hl=>by
 obtain⟨fs,v,h1,h2,h3,h4⟩:=ht.h;show I2 E (aO tm) s t ps=_;unfold I2;rw[h3,h1];simp only[cu,h2,hp.eval hl,h4,hf];rfl) k
theorem WO.buildSlice {m:Nat}{ps:List (Nat×Operand)}{vs:List (Nat×Value)}{e:Nat}{z:a6}[ht:uz E t e sz z](hm:Nat.ble (Nat.mul m sz) 16777216=true)(hp:Tk l ps vs)(hf:sr (oR sz) vs (lY z m)=some cs)(hc:cs.length=m*sz)
  (k:∀b,jX L b->K (.slice (some ⟨b,0,none⟩) m m) (.aQ (.slice (some ⟨b,0,none⟩) m m) e sz cs::L) b (b+1) (λi=>i=b) (λi=>i=b)):WO E X Γ l (.buildSlice t m ⟨ps⟩) L K:=
 WO.news (mk:=λb=>.slice (some ⟨b,0,none⟩) m m) (ob:=λ_=>.cells cs e false) (it:=λb=>.aQ (.slice (some ⟨b,0,none⟩) m m) e sz cs) (λtm s call hl _=>by
   obtain⟨h1,i,v,h2,h3,h4,h5,h6,h7,h8⟩:=ht.h;show uP E (aO tm) s t m ps=_;(have hs:size E e=some sz:=by unfold size;rw[h2];simp[h3]);have hz:zero E e=some v:=by unfold zero;rw[h2];simp[h4]
   show ob (some t) (λt=>ob (ji E t) λd=>match d with
    |.slice e=>ob (size E e) λsz=>ob (zero E e) λz=>dZ (Nat.beq (ec (cg z)) sz&&Nat.ble (nat_lit 1) sz&&Nat.ble (Nat.mul m sz) (nat_lit 16777216))<| ob (sr (oR sz) (tg (aO tm) ps) (lY (cg z) m)) λcs=>aN (.slice (some ⟨s.next,nat_lit 0,none⟩) m m) (s.new (.cells cs e false))
    |_=>none)=_
   simp only[cu,h1,hs,hz,h5,hp.eval hl,hf,hm,dm,h6,gp h7,kD,KS];rfl) (λs b h=>xL.cJ h hc (.inl ⟨rfl,by
    have h1:=mT hm;obtain⟨_,i,v,_,_,_,_,_,h7,_⟩:=ht.h;have h2:m<=m*sz:=VB _ h7;have h3:m<=16777216:=gK h2 h1;show m<9223372036854775808;omega⟩)) (λb=>rfl) k
theorem DK {α:Type}[ak α sz](x:α)(n:Nat):lY (ak.cells (sz:=sz) x) n=ai (sz:=sz) (List.replicate n x):=by
 induction n with
 |zero=>rfl
 |succ n ih=>
  rw[List.replicate_succ,dJ,<-ih];rfl
theorem WO.makeSlice {α:Type}[ak α sz]{d:α}{m e:Nat}{k1 k2:IntKind}{z:a6}[ht:uz E t e sz z](hd:ak.cells (sz:=sz) d=z)(hx:Ev l x (.int k1 (m:Int)))(hy:Ev l y (.int k2 (m:Int)))(hm:m<=1000000)
  (k:∀b,jX L b->K (.slice (some ⟨b,0,none⟩) m m) (.aQ (.slice (some ⟨b,0,none⟩) m m) e sz (ai (sz:=sz) (List.replicate m d))::L) b (b+1) (λi=>i=b) (λi=>i=b)):WO E X Γ l (.makeSlice t x y) L K:=
 WO.news (mk:=λb=>.slice (some ⟨b,0,none⟩) m m) (ob:=λ_=>.cells (ai (sz:=sz) (List.replicate m d)) e false) (it:=λb=>.aQ (.slice (some ⟨b,0,none⟩) m m) e sz (ai (sz:=sz) (List.replicate m d))) (λtm s call hl _=>by
   obtain⟨h1,i,v,h2,h3,h4,h5,h6,h7,h8⟩:=ht.h;show xx E s t (aO tm x) (aO tm y)=_;rw[hx.eval hl,hy.eval hl];show ob (some t) (λt=>ob (ji E t) λd=>match d with
    |.slice e=>ob (E.ty.get e) λi=>ob i.zero λz=>dZ (Nat.ble m m&&Nat.ble m (nat_lit 1000000)&&Nat.ble i.bytes (nat_lit 1000000)&&Nat.beq (ec (cg z)) i.size&&Nat.ble (nat_lit 1) i.size)<| aN (.slice (some ⟨s.next,nat_lit 0,none⟩) m m) (s.new (.cells (lY (cg z) m) e false))
    |_=>none)=_
   simp only[cu,h1,h2,h4,h5,h3,dm,h6,gp h7,gp hm,gp h8,gp (cG m),kD,KS];rw[<-hd,DK];rfl) (λs b h=>xL.cJ h (bp _|>.trans ay) (.inl ⟨rfl,by show m<9223372036854775808;omega⟩)) (λb=>rfl) k
theorem WO.store {b off m:Nat}{cs cs':a6}{e:TypeId}{w:Bool}[ht:jc E t m](hx:Ev l x (.pointer (some ⟨b,off,none⟩)))(hy:Ev l y v)(hc:Nat.beq (ec (cg v)) m=true)(hf:jE (cg v)=true)
  (hu:zd (.box b cs e w) (.box b cs' e w) L L')(hp:fT off (cg v) cs=some cs')(k:∀n,K (.tuple ⟨[]⟩) L' n n (λi=>i=b) (λi=>i=b)):WO E X Γ l (.store t x y) L K:=λtm s h1 h2=>by
 obtain⟨R,p1,p2⟩:=hu.cZ;have hm:It.box b cs e w∈L:=p1.mem_iff.2 ay;have hg:s.heap.get b=some (.cells cs e w):=h2.it _ hm;have dG:=(h2.may hm (b:=b) (by simp[It.a8]));have hr:=h2.aY dG;refine fW.pure (v:=.tuple ⟨[]⟩) (s':=(s.aY b).put b (some (.cells cs' e w))) (λcall=>?_) ⟨L',(λi=>i=b),(λi=>i=b),hr.put hu rfl rfl (by show T.get (St.heap _) b=_;simp),(kP.trans (db dG.1 rfl) (j6 (by simpa using dG.1) rfl rfl)),by rw[eh,cz];exact k _⟩
 .show(FJ (aO tm x) λb o=>mV E s t b o (aO tm y))=_;rw[hx.eval h1,hy.eval h1];show mV E s t b off v=_;unfold mV St.row St.look;rw[hg];simp only[cu,ht.h,hc,hf,hp];rfl
theorem BF (h:flat v=true):cg v=[v]:=by cases v<;>first|rfl|cases h
theorem AL (v:Value):∀(i:Nat)(cs:a6),i<cs.length->fT i [v] cs=some (cs.set i v)
 |_,[],h=>by simp at h
 |0,z::zs,_=>rfl
 |i+1,z::zs,h=>by
  show ob (fT i [v] zs) (λr=>some (z::r))=_;rw[AL v i zs (by simpa using h)];rfl
theorem WO.aeh {α:Type}{enc:ak α 1}{p:List α}{q:α}{i c e m:Nat}[ht:jc E t 1](hx:Ev l x (dr a i 1 0))(hy:Ev l y v)(hv:ak.cells q=[v])(hi:i<p.length)
  (hu:zd (.aQ (.slice a n c) e 1 (ai p)) (.aQ (.slice a n c) e 1 (ai (p.set i q))) L L')(k:∀n,K (.tuple ⟨[]⟩) L' n n (λi=>i∈aj a) (λi=>i∈aj a)):WO E X Γ l (.store t x y) L K:=λtm s h1 h2=>by
 obtain⟨R,p1,p2⟩:=hu.cZ;have hm:It.aQ (.slice a n c) e 1 (ai p)∈L:=p1.mem_iff.2 ay;have Cg:flat v=true:=ak.fl q v (by rw[hv];simp);have oT:∀(p:List α)(i:Nat),(ai p).set i v=ai (p.set i q):=by
  intro p;induction p with
  |nil=>intro i;rfl
  |cons x p ih=>
   intro i;have h1:∃u,ak.cells x=[u]:=List.length_eq_one_iff.1 (ak.len x);obtain⟨u,hu⟩:=h1;cases i with
   |zero=>rw[List.set_cons_zero,dJ,dJ,hu,hv];rfl
   |succ i=>rw[List.set_cons_succ,dJ,dJ,hu,<-ih];rfl
 rcases h2.it _ hm with⟨h3,h4⟩|⟨b,n',k',w,aS,h3,h4,h5,h6⟩
 .cases h3
  have:=bp p;rw[h4] at this;simp at this;omega
 .cases h3
  have dG:=(h2.may hm (b:=b) (by simp[It.a8,mZ]));have hr:=h2.aY dG;have dM:fT (0+(i*1+0)) [v] (ai p)=some (ai (p.set i q)):=by
   rw[<-oT];(have hil:i<(ai p).length:=by rw[bp];omega);simp only[mU,xq,xr];exact AL v _ _ hil
  refine fW.pure (v:=.tuple ⟨[]⟩) (s':=(s.aY b).put b (some (.cells (ai (p.set i q)++aS) e w))) (λcall=>?_) ⟨L',(λi=>i∈aj (some ⟨b,0,none⟩)),(λi=>i∈aj (some ⟨b,0,none⟩)),hr.put hu rfl rfl ?_,(kP.trans (db dG.1 (by simp[aj])) (j6 (by simpa using dG.1) (by simp[aj]) (by simp[aj]))),by rw[eh,cz];exact k _⟩
  .show(FJ (aO tm x) λb o=>mV E s t b o (aO tm y))=_;rw[hx.eval h1,hy.eval h1];show mV E s t b (0+(i*1+0)) v=_;unfold mV St.row St.look;rw[h4];simp only[cu,ht.h,BF Cg,aoE aS _ _ _ _ dM];have:jE [v]=true:=by show bo (flat v) true false=true;rw[Cg];rfl
   rw[this];rfl
  .exact .inr ⟨b,_,_,w,aS,rfl,by show T.get (St.heap _) b=_;simp,by rw[bp] at h5⊢;simpa using h5,aoK h6 (by rw[bp,bp,gN])⟩
end
def kK (s:St):aM->St
 |some ⟨b,_,none⟩=>s.aY b
 |_=>s
section
variable {a:aM}
abbrev FtR (A:List Nat)(B:bZ)(m m':Nat):Fp:=λi=>i∈A\/i∈B.flatMap It.a8\/(m<=i/\i<m')
abbrev FtW (B:bZ)(m m':Nat):Fp:=λi=>i∈B.flatMap It.a8\/(m<=i/\i<m')
abbrev WC (E:ig)(X:fR)(Γ:qV)(l:Kn)(f:FuncId)(xs:List Operand)(ts:Array TypeId)(L:bZ)(K:KO):Prop:=WO E X Γ l (.call ⟨.value (.func f),⟨xs⟩,ts⟩) L K
theorem sK {cs:a6}{o m:Nat}{c:a6}(h:(c.drop o).take m=cs)(hl:cs.length=m):ja m (eb o c)=some cs:=by
 rw[qp,yS];have:m<=(c.drop o).length:=by
  rw[<-h,cW] at hl;omega
 rw[if_pos this,h]
theorem xQ (vs:a6):∀(n:Nat)(l:a6),n+vs.length<=l.length->fT n vs l=some (l.take n++vs++l.drop (n+vs.length))
 |n,l,h=>by
  cases hp:fT n vs l with
  |some r=>rw[(nW n vs hp).2]
  |none=>
   exfalso
   revert hp h
   induction n generalizing l with
   |zero=>
    intro h hp;induction vs generalizing l with
    |nil=>cases hp
    |cons v vs ih=>
     cases l with
     |nil=>simp at h
     |cons x l=>
      refine ih l (by simpa using h) ?_;cases hq:fT 0 vs l with
      |none=>rfl
      |some r=>
       (have:fT 0 (v::vs) (x::l)=ob (fT 0 vs l) λr=>some (v::r):=rfl);rw[this,hq] at hp;cases hp
   |succ n ih=>
    intro h hp;cases l with
    |nil=>simp at h
    |cons x l=>
     refine ih l (by simp at h;omega) ?_;cases hq:fT n vs l with
     |none=>rfl
     |some r=>
      (have:fT (n+1) vs (x::l)=ob (fT n vs l) λr=>some (x::r):=rfl);rw[this,hq] at hp;cases hp
theorem LD {β:Type}{c:Nat}(h:bH s a n sz cs)(k:Nat->a6->St->Option β):K0 s sz (.slice a n c) k=k n cs (kK s a):=by
 obtain⟨h1,h2⟩:=h;rcases h2 with⟨rfl,rfl|⟨b,o,q,rfl,h3⟩⟩|⟨b,o,c',e,w,rfl,h3,h4,h5⟩
 .have:cs=[]:=mO (by simpa using h1);subst this;rfl
 .have:cs=[]:=mO (by simpa using h1);subst this;rfl
 .show s.row b (λc _ _ s=>ob (ja (Nat.mul n sz) (eb o c)) λcs=>k n cs s)=_;unfold St.row St.look;rw[h4];simp only[cu];have:=sK (m:=n*sz) h5 h1;rw[show Nat.mul n sz=n*sz from rfl,this];rfl
theorem eG {β:Type}(k:Option β):dZ true k=k:=rfl
theorem kj (elem:TypeId)(sz:Nat)(b o len cap n:Nat)(new:a6)(s:St):oQ elem sz (some ⟨b,o,none⟩) len cap n new s=s.row b λc e w s=>bo (Nat.ble ew cap)
  (dZ (w&&Nat.beq e elem&&Nat.beq cap ew&&Nat.beq o (nat_lit 0))<| bo (Nat.beq (ec c) (Nat.mul len sz)) (bo (Nat.beq n (nat_lit 0)) (aN (.slice (some ⟨b,o,none⟩) len cap) s)<|
    (λs:St=>aN (bX s (Nat.add len n)) (s.new (.cells (c++new) elem true))) (s.put b none))<|
    ob (ja (Nat.mul len sz) c) λold=>(λs:St=>aN (bX s (Nat.add len n)) (s.new (.cells (old++new) elem true))) (s.put b none))
  (bo (Nat.ble (Nat.add len n) cap)
    (bo (Nat.beq n (nat_lit 0)) (aN (.slice (some ⟨b,o,none⟩) len cap) s)<|
      ob (fT (Nat.add o (Nat.mul len sz)) new c) λcs=>aN (.slice (some ⟨b,o,none⟩) (Nat.add len n) cap) (s.put b (some (.cells cs e w))))
    (ob (ja (Nat.mul len sz) (eb o c)) λold=>aN (bX s (Nat.add len n)) (s.new (.cells (old++new) elem true)))):=rfl
theorem WI {m:Nat}(h:0<m):Nat.beq m 0=false:=by
 cases m with
 |zero=>omega
 |succ m=>rfl
theorem DL:(kK s a).heap=s.heap:=by unfold kK;split<;>simp
theorem xN:(kK s a).next=s.next:=by unfold kK;split<;>simp
theorem Inv.kK (h:Inv Γ s L)(hm:∀b∈aj a,FT Γ s b):Inv Γ (kK s a) L:=by
 unfold Go.Lg.kK;split
 .exact h.aY (hm _ (by simp[aj]))
 .exact h
theorem xO {R W:Fp}(hm:∀b∈aj a,b<s.next)(hR:∀b∈aj a,R b):kP s (kK s a) R W:=by
 unfold Go.Lg.kK;split
 .exact db (hm _ (by simp[aj])) (hR _ (by simp[aj]))
 .exact kP.id
theorem WO.aoX {e m c c2 N:Nat}{a2:aM}{new cs0:a6}{z:a6}{t2:TypeId}[ht:uz E t e sz z][ht2:uz E t2 e sz z](hx:Ev l x (.slice a n c))(hy:Ev l y (.slice a2 m c2))(hr:O8 (.aQ (.slice a N c) e sz cs0) L R)(hf:∀s,xL s (.slice a N c) e sz cs0->xL s (.slice a n c) e sz cs)(hs:jB Γ L a2 m sz new)
  (Cg:∀v∈new,flat v=true)(hn:n+m<=1000000)
  (k:∀b b' a' c',jX L b->b<=b'->(∀i∈aj a',i∈aj a\/i=b)->K (.slice a' (n+m) c') (.aQ (.slice a' (n+m) c') e sz (cs++new)::R) b b' (λi=>i∈aj a2\/i∈aj a\/i=b) (λi=>i∈aj a\/i=b)):WO E X Γ l (.call ⟨.builtin .append,⟨[x,y]⟩,⟨[t,t2]⟩⟩) L K:=λtm s h1 h2=>by
 obtain⟨Vq,ii,z1,hi,tA,hi3,KE,hi5,hi6,hi7⟩:=ht.h;obtain⟨V3,_⟩:=ht2.h;obtain⟨ze,lH⟩:=hs.row h2;have hinv:Inv Γ (kK s a2) L:=h2.kK lH;have sL:=(hinv.cZ hr.cZ).ao7 (x':=.aQ (.slice a n c) e sz cs) (hf _) (by cases a<;>rfl);have Rh:kP s (kK s a2) (λi=>i∈aj a2\/i∈aj a\/i=s.next) (λi=>i∈aj a\/i=s.next):=xO (λb hb=>(lH b hb).1) (λb hb=>.inl hb);have hh1:(kK s a2).heap=s.heap:=DL;have O9:(kK s a2).next=s.next:=xN
 generalize tz:kK s a2=s1 at hinv sL Rh hh1 O9;have lC:new.length=m*sz:=ze.1;have mG:∀(r:Value×St),oQ e sz a n c m new s1=some r->∀call:eX,FK E call (aO tm) s (.call ⟨.builtin .append,⟨[x,y]⟩,⟨[t,t2]⟩⟩)=some r:=by
  intro r hr call;show vH E s [t,t2] (aO tm x) (aO tm y)=_;rw[hx.eval h1,hy.eval h1];unfold vH;show ob (some t) (λt=>ob (ji E t) λd=>match d with
   |.slice elem=>ob (some t2) λxt=>ob (ji E xt) λxd=>dZ (!isInt xd)<| ob (E.ty.get elem) λi=>ob i.zero λz=>dZ (Nat.ble (nat_lit 1) i.size&&Nat.ble i.bytes (nat_lit 1000000)&&Nat.beq (ec (cg z)) i.size)<| K0 s i.size (.slice a2 m c2) λn' new s=>dZ (Nat.beq (ec new) (Nat.mul n' i.size))<| dZ (jE new)<| (dZ (Nat.ble (Nat.add n n') (nat_lit 1000000))<| oQ elem i.size a n c n' new s)
   |_=>none)=_
  have hff:jE new=true:=(mA new).2 Cg;simp only[cu,Vq,V3,hi,tA,hi3,KE,dm,hi5];show dZ true _=_;simp only[gp hi6,gp hi7,kD,GH];rw[eG,eG,LD ze];simp only[hff];rw[show Nat.mul m sz=m*sz from rfl,lC,kD];rw[gp (show Nat.add n m<=1000000 from hn),tz];exact hr
 have hbb:∀{b:Nat}{o:Nat}{L:bZ}{s:St},Inv Γ s (.aQ (.slice (some ⟨b,o,none⟩) n c) e sz cs::L)->b<s.next:=λh=>(h.lt _ gh _ (by simp[It.a8,mZ])).1
 rcases sL.it _ gh with⟨h3,h4⟩|⟨b,n',k',w,aS,h3,h4,h5,h6⟩
 .cases h3;subst h4
  rcases wD m with FN|FN
  .subst FN;have yw:new=[]:=mO (by simpa using lC);subst yw;refine fW.pure (mG (.slice none 0 0,s1) rfl) ⟨_,_,_,?_,Rh,k s.next _ none 0 h2.old ag (λi hi=>by simp[aj] at hi)⟩;exact sL
  .refine fW.pure (mG (bX s1 m,s1.new (.cells new e true)) (by
    show dZ true (bo (Nat.beq m 0) _ _)=_;rw[show Nat.beq m 0=false from WI FN];rfl)) ⟨.aQ (.slice (some ⟨s1.next,0,none⟩) (0+m) ew) e sz ([]++new)::R,_,_,?_,Rh.trans (vg (.inr (.inr O9)) (.inr O9)),?_⟩
   .exact sL.iQ.new (xL.cJ (w:=true) ay (by simpa using lC) (.inr ⟨rfl,rfl⟩)) rfl
   .have:=k s.next (s1.new (.cells new e true)).next (some ⟨s1.next,0,none⟩) ew h2.old (by rw[l3];omega) (λi hi=>by right;simpa[aj,O9] using hi)
    rw[show bX s1 m= .slice (some ⟨s1.next,0,none⟩) (0+m) ew from by simp[bX]];exact this
 .cases h3
  have Tl:=hbb sL;have DM:∀{β:Type}(k:a6->TypeId->Bool->St->Option β),s1.row b k=k (cs++aS) e w (s1.aY b):=λk=>by unfold St.row St.look;rw[h4];rfl
  have DN:Inv Γ (s1.aY b) (.aQ (.slice (some ⟨b,0,none⟩) n c) e sz cs::R):=sL.aY (sL.may gh (by simp[It.a8,mZ]));have Pb:kP s (s1.aY b) (λi=>i∈aj a2\/i∈aj (some ⟨b,0,none⟩)\/i=s.next) (λi=>i∈aj (some ⟨b,0,none⟩)\/i=s.next):=Rh.trans (db Tl (.inr (.inl (by simp[aj]))));have htk:ja (n*sz) (cs++aS)=some cs:=sK (cs:=cs) (o:=0) (m:=n*sz) (c:=cs++aS) (by rw[CX,<-h5,List.take_left]) h5;have afg:m=0->new=[]:=λe=>mO (by rw[lC,e,IY])
  have NA:m=0->oQ e sz (some ⟨b,0,none⟩) n c m new s1=some (.slice (some ⟨b,0,none⟩) n c,s1.aY b)->fW E X (aO tm) s (.call ⟨.builtin .append,⟨[x,y]⟩,⟨[t,t2]⟩⟩) λv s'=>∃L' R Wr,Inv Γ s' L'/\kP s s' R Wr/\K v L' s.next s'.next R Wr:=λFN hr=>by
   have yw:=afg FN;subst FN yw;refine fW.pure (mG _ hr) ⟨_,_,_,?_,Pb,k s.next _ (some ⟨b,0,none⟩) c h2.old (by rw[cz];omega) (λi hi=>.inl hi)⟩;rw[gg];exact DN
  rcases h6 with⟨h6,h7,h8⟩|⟨rfl,rfl⟩
  .have hcu:Nat.ble ew c=false:=by rw[<-jf,nG];omega
   by_cases ad2:n+m<=c
   .have hfb:Nat.ble (Nat.add n m) c=true:=gp ad2;rcases wD m with FN|FN
    .refine NA FN ?_;rw[kj,DM,hcu];show bo (Nat.ble (Nat.add n m) c) (bo (Nat.beq m 0) _ _) _=_;rw[hfb,FN];rfl
    .have hle:n*sz+m*sz<=c*sz:=by rw[<-mM];exact KM _ ad2
     have dM:fT (0+n*sz) new (cs++aS)=some (cs++new++aS.drop new.length):=by
      rw[mU,xQ _ _ _ (by rw[lC,h8];exact hle),<-h5,List.take_left,List.drop_append,yE ag];simp
     refine fW.pure (mG (.slice (some ⟨b,0,none⟩) (n+m) c,(s1.aY b).put b (some (.cells (cs++new++aS.drop new.length) e w))) ?_) ⟨_,_,_,DN.put (x':=.aQ (.slice (some ⟨b,0,none⟩) (n+m) c) e sz (cs++new)) zd.here rfl rfl (.inr ⟨b,_,_,w,aS.drop new.length,rfl,by show T.get (St.heap _) b=_;simp,by rw[bL,h5,lC,mM],.inl ⟨ad2,h7,?_⟩⟩),Pb.trans (j6 (by simpa using Tl) (.inr (.inl (by simp[aj]))) (.inl (by simp[aj]))),k s.next _ (some ⟨b,0,none⟩) c h2.old (by simp;omega) (λi hi=>.inl hi)⟩
     .rw[kj,DM,hcu];show bo (Nat.ble (Nat.add n m) c) (bo (Nat.beq m 0) _ (ob (fT (0+n*sz) new (cs++aS)) _)) _=_;rw[hfb,WI FN,dM];rfl
     .rw[bL] at h8;rw[bL,bL,eW];omega
   .have hfb:Nat.ble (Nat.add n m) c=false:=by rw[<-jf,nG];exact ad2
    refine fW.pure (mG (.slice (some ⟨s1.next,0,none⟩) (n+m) ew,(s1.aY b).new (.cells (cs++new) e true)) ?_) ⟨_,_,_,?_,Pb.trans (vg (.inr (.inr (by simpa using O9))) (.inr (by simpa using O9))),k s.next _ (some ⟨s1.next,0,none⟩) ew h2.old (by simp;omega) (λi hi=>by right;simpa[aj,O9] using hi)⟩
    .rw[kj,DM,hcu];show bo (Nat.ble (Nat.add n m) c) _ (ob (ja (n*sz) (cs++aS)) _)=_;rw[hfb,htk];show aN (bX (s1.aY b) (Nat.add n m)) _=_;unfold bX;rw[cz];rfl
    .have:=DN.iQ.new (o:=.cells (cs++new) e true) (x:=.aQ (.slice (some ⟨s1.next,0,none⟩) (n+m) ew) e sz (cs++new)) (xL.cJ (w:=true) ay (by rw[bL,h5,lC,mM]) (.inr ⟨rfl,rfl⟩)) (by simp[It.a8,mZ]);exact this
  .by_cases hs:aS=[]/\m=0
   .refine NA hs.2 ?_;rw[kj,DM,hs.1,hs.2,gg];show dZ (true&&Nat.beq e e&&Nat.beq ew ew&&Nat.beq 0 0) (bo (Nat.beq (ec cs) (Nat.mul n sz)) _ _)=_;rw[dm,h5,show Nat.mul n sz=n*sz from rfl];simp only[kD];rfl
   .refine fW.pure (mG (.slice (some ⟨s1.next,0,none⟩) (n+m) ew,((s1.aY b).put b none).new (.cells (cs++new) e true)) ?_) ⟨_,_,_,?_,(Pb.trans (j6 (by simpa using Tl) (.inr (.inl (by simp[aj]))) (.inl (by simp[aj])))).trans (vg (.inr (.inr (by simpa using O9))) (.inr (by simpa using O9))),k s.next _ (some ⟨s1.next,0,none⟩) ew h2.old (by simp;omega) (λi hi=>by right;simpa[aj,O9] using hi)⟩
    .rw[kj,DM];show dZ (true&&Nat.beq e e&&Nat.beq ew ew&&Nat.beq 0 0) (bo (Nat.beq (ec (cs++aS)) (Nat.mul n sz)) _ (ob (ja (n*sz) (cs++aS)) _))=_;rw[dm,bL,h5,show Nat.mul n sz=n*sz from rfl,htk];simp only[kD];by_cases hr:aS=[]
     .subst hr;rw[show Nat.beq (n*sz+([]:a6).length) (n*sz)=true from kD _,gg];show bo (Nat.beq m 0) _ _=_;rw[WI (show 0<m from Nat.pos_of_ne_zero λh=>hs ⟨rfl,h⟩)];show aN (bX ((s1.aY b).put b none) (Nat.add n m)) _=_;unfold bX;rw[eh,cz];rfl
     .rw[show Nat.beq (n*sz+aS.length) (n*sz)=false from by rw[<-jf,B7];have:=nL.2 hr;omega];show aN (bX ((s1.aY b).put b none) (Nat.add n m)) _=_;unfold bX;rw[eh,cz];rfl
    .have h7:=DN.kill (o:=none) (b:=b) (by simp[It.a8,mZ]);have:=h7.new (o:=.cells (cs++new) e true) (x:=.aQ (.slice (some ⟨s1.next,0,none⟩) (n+m) ew) e sz (cs++new)) (xL.cJ (w:=true) ay (by rw[bL,h5,lC,mM]) (.inr ⟨rfl,rfl⟩)) (by simp[It.a8,mZ]);exact this
theorem WO.append {e m c c2:Nat}{a2:aM}{new:a6}{z:a6}{t2:TypeId}[ht:uz E t e sz z][ht2:uz E t2 e sz z](hx:Ev l x (.slice a n c))(hy:Ev l y (.slice a2 m c2))(hr:O8 (.aQ (.slice a n c) e sz cs) L R)(hs:jB Γ L a2 m sz new)
  (Cg:∀v∈new,flat v=true)(hn:n+m<=1000000)
  (k:∀b b' a' c',jX L b->b<=b'->(∀i∈aj a',i∈aj a\/i=b)->K (.slice a' (n+m) c') (.aQ (.slice a' (n+m) c') e sz (cs++new)::R) b b' (λi=>i∈aj a2\/i∈aj a\/i=b) (λi=>i∈aj a\/i=b)):WO E X Γ l (.call ⟨.builtin .append,⟨[x,y]⟩,⟨[t,t2]⟩⟩) L K:=WO.aoX hx hy hr (λ_ h=>h) hs Cg hn k
def fM (E:ig)(X:fR)(f:FuncId)(args:a6)(s:St)(Lm:bZ)(A:List Nat)(Q:Value->bZ->Prop):Prop:=
 (∀x∈Lm,x.ok s)->(∀x∈Lm,∀b∈x.a8,b<s.next)->(Lm.flatMap It.a8).Nodup->oY E X f args s λv s'=>∃L',Inv ⟨s,Lm.flatMap It.a8,A⟩ s' L'/\Q v L'
theorem fM.mono {f:FuncId}{args:a6}{Lm:bZ}{A:List Nat}{Q Q':Value->bZ->Prop}(h:fM E X f args s Lm A Q)(k:∀v L,Q v L->Q' v L):fM E X f args s Lm A Q':=λh1 h2 h3=>(h h1 h2 h3).mono λv s' ⟨L',h4,h5⟩=>⟨L',h4,k _ _ h5⟩
inductive kA (l:Kn):List Operand->a6->Prop
 |nil:kA l [] []
 |cons {x:Operand} {v:Value} {xs:List Operand} {vs:a6} (h:Ev l x v) (k:kA l xs vs):kA l (x::xs) (v::vs)
theorem kA.eval {xs:List Operand}{vs:a6}{tm:Tm}(h:kA l xs vs)(hl:mQ l tm):xs.map (aO tm)=vs:=by
 induction h with
 |nil=>rfl
 |cons h _ ih=>rw[wO,ih,h.eval hl]
theorem WO.call {f:FuncId}{xs:List Operand}{ts:Array TypeId}{vs:a6}{Lm:bZ}{A:List Nat}{Q:Value->bZ->Prop}(hx:kA l xs vs)(hp:L.Perm (Lm++R))(hA:∀s,Inv Γ s L->∀b∈A,b<s.next/\(b∈Γ.A\/b∈Γ.M\/Γ.s0.next<=b))(h:∀s,Inv Γ s L->fM E X f vs s Lm A Q)
  (k:∀v L' m m',jX L m->m<=m'->Q v L'->K v (L'++R) m m' (FtR A Lm m m') (FtW Lm m m')):WC E X Γ l f xs ts L K:=λtm s h1 h2=>by
 have Ou:=h2.cZ hp;obtain⟨v,s',hr,L',hI,hq⟩:=h s h2 (λx hx=>Ou.it x (cT _ hx)) (λx hx b hb=>(Ou.lt x (cT _ hx) b hb).1) (by have:=Ou.nd;rw[CZ] at this;exact(rh.1 this).1);have hMl:∀b∈Lm.flatMap It.a8,b<s.next/\(Γ.s0.next<=b\/b∈Γ.M):=λb hb=>by
  obtain⟨x,hx,hb⟩:=pC.1 hb;exact Ou.lt x (cT _ hx) b hb
 have ahk:∀x∈R,∀b∈x.a8,b∉Lm.flatMap It.a8:=λx hx b hb hm=>by
  have:=Ou.nd;rw[CZ] at this;exact(rh.1 this).2.2 b hm b (pC.2 ⟨x,hx,hb⟩) rfl
 have hle:s.next<=s'.next:=hI.le;have anG:=h2.le;refine fW.call (first:=[]) (cap:=[]) (K:=_) (by rfl) ⟨v,s',?_,?_⟩
 .have:([]:a6)++(xw (aO tm) xs++[])=vs:=by rw[rk,hx.eval h1];simp
  rw[this];exact hr
 .refine⟨L'++R,_,_,⟨λb hb hm=>?_,ag,λx hx=>?_,λx hx b hb=>?_,?_,λb hb=>?_,λb hb=>?_,λb hb=>?_,λb hb=>?_⟩,⟨hle,λb hb=>?_,λb hb=>?_⟩,k v L' s.next s'.next h2.old hle hq⟩
  .rw[hI.fr b (by show b<s.next;omega) (λhm'=>?_)]
   .exact h2.fr b hb hm
   .rcases(hMl b hm').2 with h3|h3
    .omega
    .exact hm h3
  .rcases eZ.1 hx with hx|hx
   .exact hI.it x hx
   .exact It.zb (Ou.it x (dE _ hx)) λb hb=>hI.fr b ((Ou.lt x (dE _ hx) b hb).1) (ahk x hx b hb)
  .rcases eZ.1 hx with hx|hx
   .obtain⟨h3,h4⟩:=hI.lt x hx b hb;refine⟨h3,?_⟩;rcases h4 with h4|h4
    .exact .inl (by have h4:s.next<=b:=h4;omega)
    .exact(hMl b h4).2
   .obtain⟨h3,h4⟩:=Ou.lt x (dE _ hx) b hb;exact⟨ag,h4⟩
  .rw[CZ,rh];refine⟨hI.nd,by have:=Ou.nd;rw[CZ] at this;exact(rh.1 this).2.1,λb hb c hc=>?_⟩;rintro rfl;obtain⟨x,hx,hb⟩:=pC.1 hb;obtain⟨y,hy,hc⟩:=pC.1 hc;rcases(hI.lt x hx b hb).2 with h4|h4
   .have:=(Ou.lt y (dE _ hy) b hc).1;have h4:s.next<=b:=h4
    omega
   .exact ahk y hy b hc h4
  .rcases hI.cU b hb with h3|h3|h3|h3
   .exact h2.cU b h3
   .exact .inr (hA s h2 b h3).2
   .exact .inr (.inr (hMl b h3).2.symm)
   .exact .inr (.inr (.inr (by have h3:s.next<=b:=h3;omega)))
  .rcases hI.wr b hb with h3|h3|h3
   .exact h2.wr b h3
   .exact .inr (hMl b h3).2.symm
   .exact .inr (.inr (by have h3:s.next<=b:=h3;omega))
  .rcases hI.top b hb with h3|h3
   .rcases h2.top b h3 with h3|h3
    .exact .inl h3
    .exact .inr ag
   .exact .inr h3
  .rcases hI.Cf b hb with h3|h3
   .rcases h2.Cf b h3 with h3|h3
    .exact .inl h3
    .exact .inr ag
   .exact .inr h3
  .rcases hI.cU b hb with h3|h3|h3|h3
   .exact .inl h3
   .exact .inr ⟨.inl h3,by have:=(hA s h2 b h3).1;omega⟩
   .exact .inr ⟨.inr (.inl h3),by have:=(hMl b h3).1;omega⟩
   .rcases hI.top b hb with h4|h4
    .exact .inl h4
    .exact .inr ⟨.inr (.inr ⟨h3,h4⟩),h4⟩
  .rcases hI.wr b hb with h3|h3|h3
   .exact .inl h3
   .exact .inr ⟨.inl h3,by have:=(hMl b h3).1;omega⟩
   .rcases hI.Cf b hb with h4|h4
    .exact .inl h4
    .exact .inr ⟨.inr ⟨h3,h4⟩,h4⟩
end
section
variable {KO:KO}{a:aM}{K:Kn->bZ->Prop}
inductive qD (E:ig)(l:Kn)(L:bZ):List ResultVar->a6->Prop
 |nil:qD E l L [] []
 |tmp {t:Nat} {v:Value} {rs:List ResultVar} {vs:a6} (h:lk l t=some v) (k:qD E l L rs vs):qD E l L (.tmp t::rs) (v::vs)
 |cell {c b off:Nat} {t:TypeId} {cs:a6} {e:TypeId} {w:Bool} {v:Value} {rs:List ResultVar} {vs:a6} (ht:nP E t) (h:lk l c=some (.pointer (some ⟨b,off,none⟩))) (hm:It.box b cs e w∈L) (hv:jj cs off=some v) (k:qD E l L rs vs):qD E l L (.cell c t::rs) (v::vs)
 |acH {c b off m:Nat} {t:TypeId} {cs:a6} {e:TypeId} {w:Bool} {r:a6} {rs:List ResultVar} {vs:a6} (ht:wK E t m) (h:lk l c=some (.pointer (some ⟨b,off,none⟩))) (hm:It.box b cs e w∈L) (hv:ja m (eb off cs)=some r) (k:qD E l L rs vs):qD E l L (.cell c t::rs) (.agg ⟨r⟩::vs)
theorem qD.eval {rs:List ResultVar}{vs:a6}(h:qD E l L rs vs):∀{tm:Tm}{s:St},mQ l tm->Inv Γ s L->∃s',Dd E tm rs s=some (vs,s')/\Inv Γ s' L:=by
 induction h with
 |nil=>exact λh1 h2=>⟨_,rfl,h2⟩
 |tmp h k ih=>
  intro tm s h1 h2;obtain⟨s',h3,h4⟩:=ih h1 h2;refine⟨s',?_,h4⟩;rw[vR];show ob (Dd E tm _ s) _=_;rw[h3];have:=h1 _ _ h;show some (lZ (tm.get _)::_,_)=_;rw[show lZ (tm.get _)=_ from this]
 |cell ht h hm hv k ih=>
  intro tm s h1 h2;obtain⟨s',h3,h4⟩:=ih h1 (h2.aY (h2.may hm (ix.2 rfl)));refine⟨s',?_,h4⟩;rw[vR];show FJ (lZ (tm.get _)) _=_;rw[show lZ (tm.get _)=_ from h1 _ _ h];show ob (mw E s _ _ _) _=_;rw[tO (h2.it _ hm) (by rw[<-dR];exact hv)];simp only[cu];rw[h3];rfl
 |acH ht h hm hv k ih=>
  intro tm s h1 h2;obtain⟨s',h3,h4⟩:=ih h1 (h2.aY (h2.may hm (ix.2 rfl)));refine⟨s',?_,h4⟩;rw[vR];show FJ (lZ (tm.get _)) _=_;rw[show lZ (tm.get _)=_ from h1 _ _ h];show ob (mw E s _ _ _) _=_;rw[vS (h2.it _ hm) hv];simp only[cu];rw[h3];rfl
def WJ:Nat->a6->Kn
 |_,[]=>[]
 |i,v::vs=>(i,v)::WJ (i+1) vs
theorem Ri:∀(vs:a6)(i t:Nat)(v:Value),lk (WJ i vs) t=some v->i<=t/\vs[t-i]?=some v
 |[],i,t,v,h=>by cases h
 |u::vs,i,t,v,h=>by
  unfold WJ lk at h;split at h
  .rename_i hb;have:i=t:=by simpa using hb
   subst this;simp at h;subst h;simp
  .rename_i hb;obtain⟨h1,h2⟩:=Ri vs (i+1) t v h;refine⟨ag,?_⟩;have:t-i=t-(i+1)+1:=by omega
   rw[this,aad];exact h2
def vh (E:ig)(rs:List ResultVar)(Q:Value->bZ->Prop):DJ:=λe l L=>(e= .normal\/e= .ret)/\∃vs L2,qD E l L rs vs/\cC L2 L/\Q (gL vs) L2
theorem fM.body {f:FuncId}{fn:Func}{c:Code}{args:a6}{Lm:bZ}{A:List Nat}{Q:Value->bZ->Prop}(hf:E.fn.get f=some fn)(hb:fn.body=some c)(hx:(Nat.beq f X.look||xz X f)=false)(hl:args.length<=fn.ntmps)
  (h:W E X ⟨s,Lm.flatMap It.a8,A⟩ c (WJ 0 args) Lm (vh E fn.results.toList Q)):fM E X f args s Lm A Q:=λh1 h2 h3=>by
 refine oY.body hf hb hx hl ((h (kF args 0 .nil) s (λt v ht=>?_) ⟨λ_ _ _=>rfl,cG _,h1,λx hx b hb=>⟨h2 x hx b hb,.inr (pC.2 ⟨x,hx,hb⟩)⟩,h3,λb hb=>.inl hb,λb hb=>.inl hb,λb hb=>.inl hb,λb hb=>.inl hb⟩).mono ?_)
 .obtain⟨h4,h5⟩:=Ri args 0 t v ht;show lZ (T.get _ _)=_;rw[va];have h6:t<args.length:=by
   have:=(te.1 h5).1;omega
  rw[if_pos ⟨h4,ag⟩,h5];rfl
 .rintro e tm s1 ⟨l',L',h4,h5,he,vs,L2,hr,hle,hq⟩;obtain⟨s2,h6,h7⟩:=hr.eval h4 h5;exact⟨he,vs,s2,h6,L2,h7.sub hle,hq⟩
theorem WD.nil {j nx:Nat}{seen:List Sn}(h:K l L):WD E X Γ aE [] j seen nx l L K:=λtm s sn h1 h2 _ h3=>⟨0,tm,s,⟨l,L,h1,h2,h⟩,λ_ _ _ _=>rfl⟩
theorem Inv.clear {s:St}(h:Inv Γ s L):Inv Γ (eJ s) L:=by
 cases s
 exact⟨h.fr,h.le,h.it,h.lt,h.nd,λb hb=>absurd hb (by simp[eJ,In]),λb hb=>absurd hb (by simp[eJ,In]),λb hb=>absurd hb (by simp[eJ,In]),λb hb=>absurd hb (by simp[eJ,In])⟩
theorem Tn {n mask a r:Nat}{R Wr:Fp}{m:Nat}(hr:∀b,In a b->R b/\b<m)(hw:∀b,In r b->Wr b/\b<m):∀{seen:List Sn},k9 n mask R Wr seen->∀{sn:List Seen},Tj seen sn n->Ax mask a r sn=true:=by
 intro seen ha sn;have bV:∀x∈seen,Nat.testBit mask x.i=true\/((∀b,b<n->x.W b->¬R b)/\(∀b,b<n->x.R b->¬Wr b)):=by
  induction seen with
  |nil=>intro x hx;cases hx
  |cons y l ih=>
   intro x hx;rcases bT.1 hx with rfl|hx
   .exact ha.1
   .exact ih ha.2 x hx
 intro hs;induction sn with
 |nil=>rfl
 |cons y sn ih=>
  show bo (bo (Nat.beq (Nat.land y.wr a) 0) (Nat.beq (Nat.land y.cU r) 0) false||Nat.testBit mask y.i) (Ax mask a r sn) false=true;rw[ih λz hz=>hs z (jA _ hz)];obtain⟨x,hx,hi,kR,nY⟩:=hs y gh;have hz:∀p q:Nat,(∀b,In p b->¬In q b)->Nat.beq (Nat.land p q) 0=true:=λp q h=>by
   have:p&&& q=0:=by
    apply Nat.eq_of_testBit_eq;intro i;rw[Nat.testBit_and,Nat.zero_testBit];by_cases h1:p.testBit i=true
    .have:=h i h1;rw[h1,uL];simpa[In] using this
    .simp[h1]
   show Nat.beq (p&&& q) 0=true;rw[this];rfl
  rcases bV x hx with h|⟨h1,h2⟩
  .rw[hi] at h;rw[h,Bool.or_true];rfl
  .rw[hz y.wr a (λb hb lD=>h1 b (nY b hb).2 (nY b hb).1 (hr b lD).1),hz y.cU r (λb hb lD=>h2 b (kR b hb).2 (kR b hb).1 (hw b lD).1)];rfl
theorem Tj.le {seen:List Sn}{sn:List Seen}{n m:Nat}(h:Tj seen sn n)(hn:n<=m)(y:Sn):Tj (y::seen) sn m:=λz hz=>by
 obtain⟨x,h1,h2,h3,h4⟩:=h z hz;exact⟨x,jA _ h1,h2,λb hb=>⟨(h3 b hb).1,by have:=(h3 b hb).2;omega⟩,λb hb=>⟨(h4 b hb).1,by have:=(h4 b hb).2;omega⟩⟩
theorem Gc.cons {tm:Tm}{s:St}{sn:List Seen}{o:Oper}{j:Nat}{K:Tm->St->Prop}(hw:ir aE tm o.guard=true)(h:fW E X (aO tm) (eJ s) o.op λv s'=>∃s2 sn2,Gc E X aE aS (j+1) (tm.ij o.dst v) s2 sn2 K/\∀k:St->List Seen->R3,uR aE j s s' sn k=k s2 sn2):Gc E X aE (o::aS) j tm s sn K:=by obtain⟨N,v,s1,⟨s2,sn2,⟨M,tm3,s3,hk,nC⟩,hd⟩,hr⟩:=h;refine⟨max N M,tm3,s3,hk,λn hn lf hl=>?_⟩;rw[xG,hw,gC,hr n ag lf ag];show uR aE j s s1 sn (λs seen=>tm.put o.dst v λtm=>uS E _ aE aS (Nat.succ j) tm s seen)=_;rw[hd];rw[Tm.put_eq];exact nC n ag lf ag
theorem Gc.pass {tm:Tm}{s:St}{sn:List Seen}{o:Oper}{j:Nat}{K:Tm->St->Prop}(hw:ir aE tm o.guard=false)(h:Gc E X aE aS (j+1) (tm.ij o.dst (.tuple ⟨[]⟩)) s sn K):Gc E X aE (o::aS) j tm s sn K:=by obtain⟨M,tm3,s3,hk,nC⟩:=h;refine⟨M,tm3,s3,hk,λn hn lf hl=>?_⟩;rw[xG,hw,eL,Tm.put_eq];exact nC n hn lf hl
theorem WD.step {o:Oper}{j nx:Nat}{seen:List Sn}{l2:Value->Kn}(hl:∀v tm,mQ l tm->mQ (l2 v) (tm.ij o.dst v))(hw:Want aE l o.guard true)(h:WO E X Γ l o.op L λv L' n n' R Wr=>n=nx->k9 nx ((Region.before ⟨aE⟩).getD j 0) R Wr seen/\WD E X Γ aE aS (j+1) (⟨j,R,Wr⟩::seen) n' (l2 v) L' K):WD E X Γ aE (o::aS) j seen nx l L K:=λtm s sn h1 h2 To h3=>by
 obtain⟨N,v,s',⟨L',R,Wr,h4,h5,h67⟩,hr⟩:=h tm (eJ s) h1 h2.clear;have hcn:(eJ s).next=s.next:=by cases s;rfl
 obtain⟨h6,h7⟩:=h67 (by rw[hcn,To]);subst To;have kR:∀b,In s'.cU b->R b/\b<s'.next:=λb hb=>by
  rcases h5.cU b hb with h|h
  .cases s;simp[eJ,In] at h
  .exact h
 have nY:∀b,In s'.wr b->Wr b/\b<s'.next:=λb hb=>by
  rcases h5.wr b hb with h|h
  .cases s;simp[eJ,In] at h
  .exact h
 have WK:s.next<=s'.next:=by rw[<-hcn];exact h5.nx
 refine Gc.cons (hw.eval h1) ⟨N,v,s',?_,hr⟩;obtain⟨hh,nn,a0,r0⟩:=s;obtain⟨hh',WL,a,r⟩:=s';have Re:Tj (⟨j,R,Wr⟩::seen) sn WL:=h3.le WK _;by_cases ha:a=0
 .refine⟨⟨hh',WL,a0,r0⟩,sn,?_,λk=>?_⟩
  .refine h7 _ _ _ (hl v tm h1) ?_ rfl Re;exact⟨h4.fr,h4.le,h4.it,h4.lt,h4.nd,h2.cU,h2.wr,λb hb=>(h2.top b hb).imp id λ(hx:b<nn)=>by have WK:nn<=WL:=WK;show b<WL;omega,λb hb=>(h2.Cf b hb).imp id λ(hx:b<nn)=>by have WK:nn<=WL:=WK;show b<WL;omega⟩
  .show bo (Nat.beq a 0) _ _=_;rw[ha];rfl
 .refine⟨⟨hh',WL,a0||| a,r0||| r⟩,⟨j,a,r⟩::sn,?_,λk=>?_⟩
  .refine h7 _ _ _ (hl v tm h1) ?_ rfl ?_
   .refine⟨h4.fr,h4.le,h4.it,h4.lt,h4.nd,λb hb=>?_,λb hb=>?_,λb hb=>?_,λb hb=>?_⟩
    .rcases(rP _ _ _).1 hb with h|h
     .exact h2.cU b h
     .exact h4.cU b h
    .rcases(rP _ _ _).1 hb with h|h
     .exact h2.wr b h
     .exact h4.wr b h
    .rcases(rP _ _ _).1 hb with h|h
     .exact(h2.top b h).imp id λ(hx:b<nn)=>by have WK:nn<=WL:=WK;show b<WL;omega
     .exact h4.top b h
    .rcases(rP _ _ _).1 hb with h|h
     .exact(h2.Cf b h).imp id λ(hx:b<nn)=>by have WK:nn<=WL:=WK;show b<WL;omega
     .exact h4.Cf b h
   .intro z hz;rcases bT.1 hz with rfl|hz
    .exact⟨_,gh,rfl,kR,nY⟩
    .exact Re z hz
  .show bo (Nat.beq a 0) _ (bo (Ax ((Region.before ⟨aE⟩).getD j 0) a r sn) _ none)=_;rw[show Nat.beq a 0=false from WI ag,Tn kR nY h6 h3];simp only[eL,gC,QZ];rfl
theorem WD.cons {d:Nat}{o:Oper}{j nx:Nat}{seen:List Sn}(hd:o.dst=some d)(hw:Want aE l o.guard true)(h:WO E X Γ l o.op L λv L' n n' R Wr=>n=nx->k9 nx ((Region.before ⟨aE⟩).getD j 0) R Wr seen/\WD E X Γ aE aS (j+1) (⟨j,R,Wr⟩::seen) n' ((d,v)::l) L' K):WD E X Γ aE (o::aS) j seen nx l L K:=
 WD.step (l2:=λv=>(d,v)::l) (λv tm h1=>by rw[hd];exact h1.cons d v) hw h
theorem WD.WC {o:Oper}{j nx:Nat}{seen:List Sn}(hd:o.dst=none)(hw:Want aE l o.guard true)(h:WO E X Γ l o.op L λv L' n n' R Wr=>n=nx->k9 nx ((Region.before ⟨aE⟩).getD j 0) R Wr seen/\WD E X Γ aE aS (j+1) (⟨j,R,Wr⟩::seen) n' l L' K):WD E X Γ aE (o::aS) j seen nx l L K:=
 WD.step (l2:=λv=>l) (λv tm h1=>by rw[hd];exact h1) hw h
theorem WD.pass {d:Nat}{o:Oper}{j nx:Nat}{seen:List Sn}(hd:o.dst=some d)(hw:Want aE l o.guard false)(h:WD E X Γ aE aS (j+1) seen nx ((d,.tuple ⟨[]⟩)::l) L K):WD E X Γ aE (o::aS) j seen nx l L K:=λtm s sn h1 h2 To h3=>by
 exact Gc.pass (hw.eval h1) (by rw[hd];exact h _ _ _ (h1.cons d _) h2 To h3)
end
theorem aT {E:ig}{X:fR}(fn:Func){f:FuncId}{c:Code}{args:a6}{s:St}{Lm:bZ}{A:List Nat}{Q:Value->bZ->Prop}(h:W E X ⟨s,Lm.flatMap It.a8,A⟩ c (WJ 0 args) Lm (vh E fn.results.toList Q))(hf:E.fn.get f=some fn:=by kernel_rfl)(hb:fn.body=some c:=by exact rfl)(hx:(Nat.beq f X.look||xz X f)=false:=by decide)(hl:args.length<=fn.ntmps:=by exact mT rfl):fM E X f args s Lm A Q:=fM.body hf hb hx hl h
variable {Q:DJ}{i id d j dj nx:Nat}{op:Op}{ty:TypeId}{pos:String}{after:Array Edge}{w:Bool}{seen:List Sn}
section
variable {k:Kn->bZ->Prop}
theorem aq (h:k l L):LB Q k .normal l L:=h
theorem Pc (h:Q (.exit i) l L):LB Q k (.exit i) l L:=h
theorem km (h:Q .ret l L):LB Q k .ret l L:=h
theorem dC (h:Q .normal l L):py id Q .normal l L:=h
theorem iU (h:Q .ret l L):py id Q .ret l L:=h
theorem BG (h:Q .normal l L):py id Q (.exit id) l L:=by
 show if id=id then Q .normal l L else Q (.exit id) l L
 rw[if_pos rfl];exact h
end
section
variable {K:Kn->bZ->Prop}{t:Bool}
theorem ws (h:WO E X Γ l op L λv L' _ _ _ _=>WS E X Γ aE aS ((d,v)::l) L' K):WS E X Γ aE (⟨some d,op,ty,pos,after,none⟩::aS) l L K:=WS.cons rfl .none h
theorem ws0 (h:WO E X Γ l op L λv L' _ _ _ _=>WS E X Γ aE aS l L' K):WS E X Γ aE (⟨none,op,ty,pos,after,none⟩::aS) l L K:=WS.WC rfl .none h
theorem CF {b:Bool}(hd:mz aE j=some d)(h:lk l d=some (.bool t))(hb:(if t then w else !w)=b):Want aE l (some (j,w)) b:=by subst hb;exact Want.some hd h
theorem wsg (hd:mz aE j=some dj)(hl:lk l dj=some (.bool t))(h1:t=w->WO E X Γ l op L λv L' _ _ _ _=>WS E X Γ aE aS ((d,v)::l) L' K)(h2:t= !w->WS E X Γ aE aS ((d,.tuple ⟨[]⟩)::l) L K):WS E X Γ aE (⟨some d,op,ty,pos,after,some (j,w)⟩::aS) l L K:=by
 by_cases h:t=w
 .exact WS.cons rfl (CF hd hl (by subst h;cases t<;>rfl)) (h1 h)
 .exact WS.pass rfl (CF hd hl (by cases t<;>cases w<;>simp_all)) (h2 (by cases t<;>cases w<;>simp_all))
theorem wd (h:WO E X Γ l op L λv L' n n' R Wr=>n=nx->k9 nx ((Region.before ⟨aE⟩).getD i 0) R Wr seen/\WD E X Γ aE aS (i+1) (⟨i,R,Wr⟩::seen) n' ((d,v)::l) L' K):WD E X Γ aE (⟨some d,op,ty,pos,after,none⟩::aS) i seen nx l L K:=WD.cons rfl .none h
theorem wd0 (h:WO E X Γ l op L λv L' n n' R Wr=>n=nx->k9 nx ((Region.before ⟨aE⟩).getD i 0) R Wr seen/\WD E X Γ aE aS (i+1) (⟨i,R,Wr⟩::seen) n' l L' K):WD E X Γ aE (⟨none,op,ty,pos,after,none⟩::aS) i seen nx l L K:=WD.WC rfl .none h
theorem wdg (hd:mz aE j=some dj)(hl:lk l dj=some (.bool t))(h1:t=w->WO E X Γ l op L λv L' n n' R Wr=>n=nx->k9 nx ((Region.before ⟨aE⟩).getD i 0) R Wr seen/\WD E X Γ aE aS (i+1) (⟨i,R,Wr⟩::seen) n' ((d,v)::l) L' K)(h2:t= !w->WD E X Γ aE aS (i+1) seen nx ((d,.tuple ⟨[]⟩)::l) L K):WD E X Γ aE (⟨some d,op,ty,pos,after,some (j,w)⟩::aS) i seen nx l L K:=by
 by_cases h:t=w
 .exact WD.cons rfl (CF hd hl (by subst h;cases t<;>rfl)) (h1 h)
 .exact WD.pass rfl (CF hd hl (by cases t<;>cases w<;>simp_all)) (h2 (by cases t<;>cases w<;>simp_all))
end
noncomputable def ahl (E:ig)(t:TypeId):Option Bool:=ob (ji E t) λd=>some (Au d)
theorem na (h:ahl E t=some false):nP E t:=by obtain⟨d,h1,h2⟩:=aD h;exact⟨d,h1,ke h2⟩
noncomputable def ak8 (E:ig)(t:TypeId):Option (Bool×Nat):=ob (ji E t) λd=>ob (size E t) λn=>some (Au d,n)
theorem rT {n:Nat}(h:ak8 E t=some (true,n)):wK E t n:=by obtain⟨d,h1,h2⟩:=aD h;obtain⟨m,h3,h4⟩:=aD h2;have:=ke h4;simp only[cH] at this;exact⟨d,h1,this.1,by rw[h3,this.2]⟩
noncomputable def ak9 (E:ig)(t:TypeId)(i:Nat):Option Nat:=ob (ji E t) λd=>match d with
 |.struct ⟨fs⟩=>ob (jj fs i) λf=>ob (size E f.type) λsz=>dZ (Nat.ble (nat_lit 1) sz) (some f.offset)
 |_=>none
theorem dO {i off:Nat}(h:ak9 E t i=some off):iT E t i off:=by
 obtain⟨d,h1,h2⟩:=aD h;split at h2
 .rename_i fs;obtain⟨f,h3,h4⟩:=aD h2;obtain⟨sz,h5,h6⟩:=aD h4;obtain⟨h7,h8⟩:=bz h6;rw[dR] at h3;exact⟨fs,f,sz,h1,h3,h5,mT h7,ke h8⟩
 .cases h2
noncomputable def ala (E:ig)(t:TypeId):Option (Nat×Nat×a6):=ob (ji E t) λd=>match d with
 |.slice e=>ob (E.ty.get e) λi=>ob i.zero λv=>dZ (Nat.beq (ec (cg v)) i.size&&Nat.ble (nat_lit 1) i.size&&Nat.ble i.bytes (nat_lit 1000000)) (some (e,i.size,cg v))
 |_=>none
theorem tP {e sz:Nat}{z:a6}(h:ala E t=some (e,sz,z)):uz E t e sz z:=by
 obtain⟨d,h1,h2⟩:=aD h;split at h2
 .rename_i e';obtain⟨i,h3,h4⟩:=aD h2;obtain⟨v,h5,h6⟩:=aD h4;obtain⟨h7,h8⟩:=bz h6;simp only[bO] at h7;have:=ke h8;simp only[cH] at this;obtain⟨rfl,rfl,rfl⟩:=this;exact⟨h1,i,v,h3,rfl,h5,rfl,by have:=nR h7.1.1;simpa using this,mT h7.1.2,mT h7.2⟩
 .cases h2
theorem oL {e sz:Nat}{z:a6}(h:uz E t e sz z):pI E t e sz:=by obtain⟨h1,i,v,h2,h3,h4,h5,h6,h7,h8⟩:=h.h;exact⟨h1,i,v,h2,h3,h4,by rw[h5,h6],h7,h8⟩
noncomputable def aei (E:ig)(t:TypeId):Option (a6):=ob (zero E t) λv=>some (cg v)
theorem lb {z:a6}(h:aei E t=some z):sI E t z:=by obtain⟨v,h1,h2⟩:=aD h;exact⟨v,h1,ke h2⟩
noncomputable def aaH (E:ig)(t:TypeId):Option (List (Nat×Nat)×a6):=ob (ji E t) λd=>match d with
 |.struct ⟨fs⟩=>ob (places E fs) λpl=>ob (zero E t) λv=>some (pl,cg v)
 |_=>none
theorem j7 {pl:List (Nat×Nat)}{z:a6}(h:aaH E t=some (pl,z)):mo E t pl z:=by
 obtain⟨d,h1,h2⟩:=aD h;split at h2
 .rename_i fs;obtain⟨p,h3,h4⟩:=aD h2;obtain⟨v,h5,h6⟩:=aD h4;have:=ke h6;simp only[cH] at this;exact⟨fs,v,h1,by rw[h3,this.1],h5,this.2⟩
 .cases h2
theorem cC.nil (L:bZ):cC [] L:=⟨[],.refl _,List.nil_sublist _⟩
theorem cC.cons {x:It}{L R L2:bZ}(h:O8 x L R)(k:cC L2 R):cC (x::L2) L:=by
 obtain⟨l,hp,hs⟩:=k;induction h generalizing l L2 with
 |here=>exact⟨x::l,hp.cons _,hs.cons_cons _⟩
 |there h ih=>
  rename_i y L R;cases hs with
  |cons _ hs=>
   obtain⟨l',h1,h2⟩:=ih l hp hs;exact⟨l',h1,h2.cons _⟩
  |cons_cons _ hs=>
   rename_i l0;obtain⟨l',h1,h2⟩:=ih (L2:=l0) l0 (.refl _) hs;refine⟨y::l',?_,h2.cons_cons _⟩;exact((h1.cons _).trans (.swap _ _ _)).trans (hp.cons _)
theorem cC.refl (L:bZ):cC L L:=⟨L,.refl _,.refl _⟩
variable {a2:aM}{enc:ak α sz}{mask:Nat}{f:FuncId}{xs:List Operand}{ts:Array TypeId}{vs:a6}{r:Value}{A:List Nat}{I WM:Kn->bZ->Prop}{rs:List ResultVar}{e:Nat}{b':Bool}{o':Operand}{j':Int}{k':IntKind}
class TT (E:ig)(t:TypeId)(e sz:outParam Nat)(α:outParam Type)(enc:outParam (ak α sz)):Prop where
 h:∃z,uz E t e sz z/\∃d:α,ak.cells (sz:=sz) d=z
theorem TT.elem {E:ig}{t e sz:Nat}{α:Type}{enc:ak α sz}(h:TT E t e sz α enc):pI E t e sz:=by obtain⟨z,h1,_⟩:=h.h;exact oL h1
section
variable {a:aM}
inductive EvE (l:Kn)(enc:ak α sz):Nat->List (Nat×Operand)->List α->Prop
 |nil {i:Nat}:EvE l enc i [] []
 |cons {i:Nat} {x:Operand} {v:Value} {p:α} {ps:List (Nat×Operand)} {xs:List α} (h:Ev l x v) (hv:cg v=ak.cells (sz:=sz) p) (k:EvE l enc (i+1) ps xs):EvE l enc i ((i,x)::ps) (p::xs)
theorem EvE.vals {ps:List (Nat×Operand)}{xs:List α}{i:Nat}(h:EvE l enc i ps xs):∃vs:List (Nat×Value),Tk l ps vs/\∀(done aS:a6),done.length=i*sz->aS.length=xs.length*sz->sr (oR sz) vs (done++aS)=some (done++ai (sz:=sz) xs):=by
 induction h with
 |nil=>exact⟨[],.nil,λdone aS h1 h2=>by
   have:aS=[]:=mO (by simpa using h2);subst this;rfl⟩
 |cons h hv k ih=>
  rename_i i x v p ps xs;obtain⟨vs,h1,h2⟩:=ih;refine⟨(i,v)::vs,.cons h h1,λdone aS h3 h4=>?_⟩;show ob (some (Nat.mul i sz,sz)) (λq=>dZ (Nat.beq (ec (cg v)) q.2)<| ob (fT q.1 (cg v) (done++aS)) λcs=>sr (oR sz) vs cs)=_;simp only[cu,dm,hv,ak.len,kD];rw[eG];have hr:aS.length=xs.length*sz+sz:=by rw[h4,cY,mM,Nat.one_mul]
  have dM:fT (Nat.mul i sz) (ak.cells (sz:=sz) p) (done++aS)=some (done++ak.cells (sz:=sz) p++aS.drop sz):=by
   have hl:Nat.mul i sz+(ak.cells (sz:=sz) p).length<=(done++aS).length:=by
    rw[ak.len,bL,h3];show i*sz+sz<=_;omega
   have:∀(k:Nat)(c d:a6),c.length=k->d.length>=(ak.cells (sz:=sz) p).length->fT k (ak.cells (sz:=sz) p) (c++d)=some (c++ak.cells (sz:=sz) p++d.drop (ak.cells (sz:=sz) p).length):=by
    intro k;induction k with
    |zero=>
     intro c d hc hd;have:c=[]:=mO hc;subst this;show pK _ _=_;rw[Q2,pn,if_pos hd];simp
    |succ k ih=>
     intro c d hc hd;cases c with
     |nil=>simp at hc
     |cons y c=>
      show ob (fT k _ (c++d)) (λr=>some (y::r))=_;rw[ih c d (by simpa using hc) hd];rfl
   have h5:=this (Nat.mul i sz) done aS h3 (by rw[ak.len];omega);rw[ak.len] at h5;exact h5
  rw[dM,cu,h2 (done++ak.cells (sz:=sz) p) (aS.drop sz) (by rw[bL,ak.len,h3,mM,Nat.one_mul]) (by rw[eW,hr];omega),dJ,ku]
theorem WO.lit {m e:Nat}{ps:List (Nat×Operand)}{xs:List α}[ht:TT E t e sz α enc](hp:EvE l enc 0 ps xs)(hm:m=xs.length)(hb:Nat.ble (Nat.mul m sz) 16777216=true)
  (k:∀b,jX L b->K (.slice (some ⟨b,0,none⟩) xs.length m) (.aQ (.slice (some ⟨b,0,none⟩) xs.length m) e sz (ai (sz:=sz) xs)::L) b (b+1) (λi=>i=b) (λi=>i=b)):WO E X Γ l (.buildSlice t m ⟨ps⟩) L K:=by
 obtain⟨z,h1,d,h2⟩:=ht.h;obtain⟨vs,h3,h4⟩:=hp.vals;subst hm;refine WO.buildSlice (ht:=h1) hb h3 (cs:=ai (sz:=sz) xs) ?_ (bp _) k;have:=h4 [] (lY z xs.length) ay (by rw[<-h2,DK,bp];simp);simpa using this
theorem WO.Rj {e c c2:Nat}{p q:List α}[ht:TT E t e sz α enc][ht2:TT E t2 e sz α enc](hx:Ev l x (.slice a p.length c))(hy:Ev l y (.slice a2 q.length c2))(hr:O8 (.aQ (.slice a p.length c) e sz (ai (sz:=sz) p)) L R)(hs:jB Γ L a2 q.length sz (ai (sz:=sz) q))(hn:p.length+q.length<=1000000)
  (k:∀b b' a' c',jX L b->b<=b'->(∀i∈aj a',i∈aj a\/i=b)->K (.slice a' (p++q).length c') (.aQ (.slice a' (p++q).length c') e sz (ai (sz:=sz) (p++q))::R) b b' (λi=>i∈aj a2\/i∈aj a\/i=b) (λi=>i∈aj a\/i=b)):WO E X Γ l (.call ⟨.builtin .append,⟨[x,y]⟩,⟨[t,t2]⟩⟩) L K:=by
 obtain⟨z,h1,d,h2⟩:=ht.h;obtain⟨z2,h3,d2,h4⟩:=ht2.h;have hz:z2=z:=by
  refine' za3
 subst hz;refine WO.append (ht:=h1) (ht2:=h3) hx hy hr hs (AK _) hn λb b' a' c' h5 h5' h6=>?_
 have:=k b b' a' c' h5 h5' h6;rw[rA,bL] at this;exact this
theorem WO.ahm {d:α}{m e:Nat}{k1 k2:IntKind}[ht:TT E t e sz α enc](hd:∀z,uz E t e sz z->ak.cells (sz:=sz) d=z)(hx:Ev l x (.int k1 (m:Int)))(hy:Ev l y (.int k2 (m:Int)))(hm:m<=1000000)
  (k:∀b c,jX L b->K (.slice (some ⟨b,0,none⟩) (List.replicate m d).length c) (.aQ (.slice (some ⟨b,0,none⟩) (List.replicate m d).length c) e sz (ai (sz:=sz) (List.replicate m d))::L) b (b+1) (λi=>i=b) (λi=>i=b)):WO E X Γ l (.makeSlice t x y) L K:=by
 obtain⟨z,h1,_⟩:=ht.h;refine WO.makeSlice (ht:=h1) (hd z h1) hx hy hm λb h2=>?_
 have:=k b m h2;rw[qX] at this;exact this
end
section
variable {K:Kn->bZ->Prop}{t:Bool}
theorem alb (hd:mz aE j=some dj)(hl:lk l dj=some (.bool t))(ht:t=w)(h1:WO E X Γ l op L λv L' _ _ _ _=>WS E X Γ aE aS ((d,v)::l) L' K):WS E X Γ aE (⟨some d,op,ty,pos,after,some (j,w)⟩::aS) l L K:=wsg hd hl (λ_=>h1) (λh=>by subst ht;cases t<;>cases h)
theorem alc (hd:mz aE j=some dj)(hl:lk l dj=some (.bool t))(ht:t= !w)(h2:WS E X Γ aE aS ((d,.tuple ⟨[]⟩)::l) L K):WS E X Γ aE (⟨some d,op,ty,pos,after,some (j,w)⟩::aS) l L K:=wsg hd hl (λh=>by subst ht;cases w<;>cases h) (λ_=>h2)
theorem ald (hd:mz aE j=some dj)(hl:lk l dj=some (.bool t))(ht:t=w)(h1:WO E X Γ l op L λv L' n n' R Wr=>n=nx->k9 nx ((Region.before ⟨aE⟩).getD i 0) R Wr seen/\WD E X Γ aE aS (i+1) (⟨i,R,Wr⟩::seen) n' ((d,v)::l) L' K):WD E X Γ aE (⟨some d,op,ty,pos,after,some (j,w)⟩::aS) i seen nx l L K:=wdg hd hl (λ_=>h1) (λh=>by subst ht;cases t<;>cases h)
theorem ale (hd:mz aE j=some dj)(hl:lk l dj=some (.bool t))(ht:t= !w)(h2:WD E X Γ aE aS (i+1) seen nx ((d,.tuple ⟨[]⟩)::l) L K):WD E X Γ aE (⟨some d,op,ty,pos,after,some (j,w)⟩::aS) i seen nx l L K:=wdg hd hl (λh=>by subst ht;cases w<;>cases h) (λ_=>h2)
theorem aaI {P:Prop}(h:P):k9 n mask Z Z seen/\P:=by
 refine⟨?_,h⟩;induction seen with
 |nil=>trivial
 |cons x l ih=>exact⟨.inr ⟨λ_ _ _ h=>h,λ_ _ _ h=>h⟩,ih⟩
theorem Tp {R Wr:Fp}{P:Prop}(h:P):k9 n mask R Wr []/\P:=⟨trivial,h⟩
theorem Pd {R Wr:Fp}{P:Prop}{k:Nat}(h:k9 n mask R Wr seen/\P):k9 n mask R Wr (⟨k,Z,Z⟩::seen)/\P:=⟨⟨.inr ⟨λ_ _ h=>h.elim,λ_ _ h=>h.elim⟩,h.1⟩,h.2⟩
theorem LF {R R':Fp}{P:Prop}{k:Nat}(h:k9 n mask R Z seen/\P):k9 n mask R Z (⟨k,R',Z⟩::seen)/\P:=⟨⟨.inr ⟨λ_ _ h=>h.elim,λ_ _ _ h=>h⟩,h.1⟩,h.2⟩
theorem Jz {R Wr R' W':Fp}{P:Prop}{k:Nat}(hb:Nat.testBit mask k=true)(h:k9 n mask R Wr seen/\P):k9 n mask R Wr (⟨k,R',W'⟩::seen)/\P:=⟨⟨.inl hb,h.1⟩,h.2⟩
theorem WN {R Wr R' W':Fp}{P:Prop}{k:Nat}(h1:∀b,b<n->W' b->¬R b)(h2:∀b,b<n->R' b->¬Wr b)(h:k9 n mask R Wr seen/\P):k9 n mask R Wr (⟨k,R',W'⟩::seen)/\P:=⟨⟨.inr ⟨h1,h2⟩,h.1⟩,h.2⟩
theorem Tq {P:Prop}(h:P):k9 n mask (λi=>i=n) (λi=>i=n) seen/\P:=by
 refine⟨?_,h⟩;induction seen with
 |nil=>trivial
 |cons x l ih=>exact⟨.inr ⟨λb h1 _ h2=>by omega,λb h1 _ h2=>by omega⟩,ih⟩
end
theorem WO.min {k:IntKind}{a b:Int}{t2:TypeId}(hx:Ev l x (.int k a))(hy:Ev l y (.int k b))(h:∀n,K (.int k (min a b)) L n n Z Z):WO E X Γ l (.call ⟨.builtin .min,⟨[x,y]⟩,⟨[t,t2]⟩⟩) L K:=WO.val (λtm s call hl=>by
 show aah (aO tm x) (aO tm y) s=_;rw[hx.eval hl,hy.eval hl];show dZ (qo k k) (aN (.int k (bo (Vi b a) b a)) s)=_;rw[ve,eG,rR,dW];unfold aN
 congr 3
 by_cases h:b<a<;>simp[h]<;>omega) h
theorem WO.max {k:IntKind}{a b:Int}{t2:TypeId}(hx:Ev l x (.int k a))(hy:Ev l y (.int k b))(h:∀n,K (.int k (max a b)) L n n Z Z):WO E X Γ l (.call ⟨.builtin .max,⟨[x,y]⟩,⟨[t,t2]⟩⟩) L K:=WO.val (λtm s call hl=>by
 show aai (aO tm x) (aO tm y) s=_;rw[hx.eval hl,hy.eval hl];show dZ (qo k k) (aN (.int k (bo (Vi a b) b a)) s)=_;rw[ve,eG,rR,dW];unfold aN
 congr 3
 by_cases h:a<b<;>simp[h]<;>omega) h
theorem WO.conv {k1 k2:IntKind}{n m:Int}{t2:TypeId}[h1:xM E t k1][h2:xM E t2 k2]{k:IntKind}(hx:Ev l x (.int k n))(hm:k2.wrap n=m)(h:∀i,K (.int k2 m) L i i Z Z):WO E X Γ l (.convert t t2 x) L K:=WO.val (λtm s call hl=>by
 show wU E s t t2 (aO tm x)=_;rw[hx.eval hl];unfold wU;rw[h1.h,h2.h];show aN (.int k2 (qm k2 n)) s=_;rw[j2,hm];rfl) h
theorem pP (z:List UInt8)[enc:ak UInt8 1](he:∀c,ak.cells c=[bv c]):strCells z=ai z:=by
 induction z with
 |nil=>rfl
 |cons c z ih=>rw[dJ,he,<-ih];rfl
theorem Tr (z:List UInt8)[enc:ak UInt8 1](he:∀c,ak.cells c=[bv c]):Bw (ai z)=some z:=by
 induction z with
 |nil=>rfl
 |cons c z ih=>
  rw[dJ,he];show dZ (Nat.ble (Nat.succ c.toNat) 256) (ob (Bw (ai z)) λr=>some (UInt8.ofNat c.toNat::r))=_;rw[ih,gp (show Nat.succ c.toNat<=256 from by have:=c.toNat_lt;omega)];simp[eG]
theorem WO.str {a:aM}{c e:Nat}{p:List UInt8}{t2:TypeId}{enc:ak UInt8 1}[h1:TT E t e 1 UInt8 enc][h2:zc E t2][h3:xM E e .u8](he:∀c,ak.cells c=[bv c])(hx:Ev l x (.slice a p.length c))(hh:jB Γ L a p.length 1 (ai p))(k:∀n,K (sv p) L n n (λi=>i∈aj a) Z):WO E X Γ l (.convert t t2 x) L K:=λtm s hl hi=>by
 obtain⟨z,hr,_⟩:=h1.h;obtain⟨ze,lH⟩:=hh.row hi;refine fW.pure (v:=sv p) (s':=kK s a) (λcall=>?_) ⟨L,(λi=>i∈aj a),Z,hi.kK lH,xO (λb hb=>(lH b hb).1) (λb hb=>hb),by rw[xN];exact k _⟩;show wU E s t t2 (aO tm x)=_;rw[hx.eval hl];unfold wU;rw[hr.h.1,h2.h];show ob (ji E e) (λd=>dZ (isByte d)<| OE s a p.length)=_;rw[h3.h];show dZ true _=_;rw[eG];obtain⟨h4,h5⟩:=ze;rcases h5 with⟨h5,rfl|⟨b,o,q,rfl,h6⟩⟩|⟨b,o,c',e',w,rfl,h6,h7,h8⟩
 .have:p=[]:=mO h5;subst this;rfl
 .have:p=[]:=mO h5;subst this;rfl
 .show s.row b (λc _ _ s=>ob (ja p.length (eb o c)) λl=>ob (Bw l) λbs=>aN (.string ⟨⟨bs⟩⟩) s)=_;unfold St.row St.look;rw[h7];simp only[cu];rw[sK (m:=p.length) (by simpa using h8) (by simpa using h4),cu,Tr p he];rfl
theorem WO.bytes {e:Nat}{z:List UInt8}{t2:TypeId}{enc:ak UInt8 1}[h1:zc E t][h2:TT E t2 e 1 UInt8 enc][h3:xM E e .u8](he:∀c,ak.cells c=[bv c])(hx:Ev l x (sv z))(hz:z.length<=1000000)(k:∀b,jX L b->K (.slice (some ⟨b,0,none⟩) z.length ew) (.box b (ai z) e false::L) b (b+1) (λi=>i=b) (λi=>i=b)):WO E X Γ l (.convert t t2 x) L K:=
 WO.news (mk:=λb=>.slice (some ⟨b,0,none⟩) z.length ew) (ob:=λ_=>.cells (ai z) e false) (it:=λb=>.box b (ai z) e false) (λtm s call hl _=>by
   obtain⟨zz,hr,_⟩:=h2.h;obtain⟨hr1,i,v,nC,hr3,_⟩:=hr.h;show wU E s t t2 (aO tm x)=_;rw[hx.eval hl];unfold wU;rw[hr1,h1.h];show ob (ji E e) (λd=>dZ (isByte d)<| ob (size E e) λsz=>dZ (Nat.beq sz 1&&Nat.ble (ec z) 1000000)<| aN (bX s (ec z)) (s.new (.cells (strCells z) e false)))=_;rw[h3.h];show dZ true _=_;rw[eG];have hs:size E e=some 1:=by unfold size;rw[nC];simp[hr3]
   rw[hs,cu,dm,gp hz];show dZ true _=_;rw[eG,pP z he];rfl) (λs b h=>h) (λb=>rfl) k
theorem wrap_u8 (c:UInt8):IntKind.wrap .i64 (c.toNat:Int)=(c.toNat:Int):=qC ⟨by have:=c.toNat_lt;omega,by have:=c.toNat_lt;omega⟩
abbrev nQ (E:ig)(X:fR)(f:FuncId)(vs:a6)(s:St)(A:List Nat)(r:Value):Prop:=fM E X f vs s [] A λv L=>v=r/\L=[]
abbrev eU {α:Type}{sz:Nat}[ak α sz](E:ig)(X:fR)(f:FuncId)(vs:a6)(s:St)(A:List Nat)(e:TypeId)(p:List α):Prop:=fM E X f vs s [] A λv L=>∃a k,v= .slice a p.length k/\L=[.aQ v e sz (ai (sz:=sz) p)]
theorem WO.qE (hx:kA l xs vs)(h:∀s,Inv Γ s L->(∀b∈A,FT Γ s b)/\nQ E X f vs s A r)(k:∀m m',jX L m->m<=m'->K r L m m' (FtR A [] m m') (FtW [] m m')):WC E X Γ l f xs ts L K:=
 WO.call (Lm:=[]) (R:=L) hx (.refl _) (λs hi=>(h s hi).1) (λs hi=>(h s hi).2) (by rintro v L' m m' ho hm ⟨rfl,rfl⟩;exact k m m' ho hm)
theorem WO.aV (hx:kA l xs vs)(h:∀s,nQ E X f vs s [] r)(k:∀m m',jX L m->m<=m'->K r L m m' (FtR [] [] m m') (FtW [] m m')):WC E X Γ l f xs ts L K:=
 WO.qE hx (λs _=>⟨(λb hb=>by cases hb),h s⟩) k
theorem WO.LG {α:Type}{sz:Nat}{enc:ak α sz}{e:TypeId}{p:List α}(hx:kA l xs vs)(h:∀s,Inv Γ s L->(∀b∈A,FT Γ s b)/\eU E X f vs s A e p)(k:∀m m' a c,jX L m->m<=m'->K (.slice a p.length c) (.aQ (.slice a p.length c) e sz (ai (sz:=sz) p)::L) m m' (FtR A [] m m') (FtW [] m m')):WC E X Γ l f xs ts L K:=
 WO.call (Lm:=[]) (R:=L) hx (.refl _) (λs hi=>(h s hi).1) (λs hi=>(h s hi).2) (by rintro v L' m m' ho hm ⟨a,c,rfl,rfl⟩;exact k m m' a c ho hm)
theorem WO.rU {α:Type}{sz:Nat}{enc:ak α sz}{e:TypeId}{p:List α}(hx:kA l xs vs)(h:∀s,eU E X f vs s [] e p)(k:∀m m' a c,jX L m->m<=m'->K (.slice a p.length c) (.aQ (.slice a p.length c) e sz (ai (sz:=sz) p)::L) m m' (FtR [] [] m m') (FtW [] m m')):WC E X Γ l f xs ts L K:=
 WO.LG hx (λs _=>⟨(λb hb=>by cases hb),h s⟩) k
theorem WO.aej {a:aM}{n sz:Nat}{cs:a6}(hx:kA l xs vs)(hh:jB Γ L a n sz cs)(h:∀s,bH s a n sz cs->nQ E X f vs s (aj a) r)(k:∀m m',jX L m->m<=m'->K r L m m' (FtR (aj a) [] m m') (FtW [] m m')):WC E X Γ l f xs ts L K:=
 WO.qE hx (λs hi=>⟨(hh.row hi).2,h s (hh.row hi).1⟩) k
theorem WO.aek {a:aM}{n LC:Nat}{cs:a6}{α:Type}{sz:Nat}{enc:ak α sz}{e:TypeId}{p:List α}(hx:kA l xs vs)(hh:jB Γ L a n LC cs)(h:∀s,bH s a n LC cs->eU E X f vs s (aj a) e p)(k:∀m m' a' c,jX L m->m<=m'->K (.slice a' p.length c) (.aQ (.slice a' p.length c) e sz (ai (sz:=sz) p)::L) m m' (FtR (aj a) [] m m') (FtW [] m m')):WC E X Γ l f xs ts L K:=
 WO.LG hx (λs hi=>⟨(hh.row hi).2,h s (hh.row hi).1⟩) k
theorem Rd.of {s:St}{a:aM}{n sz:Nat}{cs:a6}{A:List Nat}(h:bH s a n sz cs)(hA:∀b∈aj a,b∈A):Rd ⟨s,([]:bZ).flatMap It.a8,A⟩ a n sz cs:=⟨h,hA,λ_ _ h=>by cases h⟩
theorem LH {n n' mask:Nat}{seen:List Sn}{P:Prop}(h:P):k9 n mask (λi=>i∈([]:List Nat)\/i∈([]:bZ).flatMap It.a8\/(n<=i/\i<n')) (λi=>i∈([]:bZ).flatMap It.a8\/(n<=i/\i<n')) seen/\P:=by
 refine⟨?_,h⟩;induction seen with
 |nil=>trivial
 |cons x l ih=>exact⟨.inr ⟨λb h1 _ h2=>by simp at h2;omega,λb h1 _ h2=>by simp at h2;omega⟩,ih⟩
section
variable {t:Bool}
theorem W.ahn (hx:Ev l x (.bool t))(ht:t=true)(h:W E X Γ a l L Q):W E X Γ (.cond x a b) l L Q:=W.cond hx (λ_=>h) (λh'=>by rw[ht] at h';cases h')
theorem W.aho (hx:Ev l x (.bool t))(ht:t=false)(h:W E X Γ b l L Q):W E X Γ (.cond x a b) l L Q:=W.cond hx (λh'=>by rw[ht] at h';cases h') (λ_=>h)
theorem WO.alf {y:Operand}{t t2:TypeId}{K:KO}{a b:Bool}[h:WE E t](hx:Ev l x (.bool a))(hy:Ev l y (.bool b))(k:∀n,K (.bool (a== b)) L n n Z Z):WO E X Γ l (.binOp .eql t x y t2) L K:=WO.bin hx hy (λcc=>by
 show ob (ji E t) (λd=>C9 .eql (eqV E d (.bool a) (.bool b)))=_;rw[h.h];rfl) k
theorem WO.alg {y:Operand}{t t2:TypeId}{K:KO}{a b:Bool}[h:WE E t](hx:Ev l x (.bool a))(hy:Ev l y (.bool b))(k:∀n,K (.bool (a != b)) L n n Z Z):WO E X Γ l (.binOp .neq t x y t2) L K:=WO.bin hx hy (λcc=>by
 show ob (ji E t) (λd=>C9 .neq (eqV E d (.bool a) (.bool b)))=_;rw[h.h];rfl) k
theorem JA {t:TypeId}{xs:a6}{ks:List Nat}:∀{l:List (TypeId×List Nat)},(t,ks)∈l->ff xs ks=true->yM t xs l=true
 |p::l,h,hk=>by
  show bo (bo (Nat.beq t p.1) (ff xs p.2) false) true (yM t xs l)=true;rcases bT.1 h with h|h
  .subst h;rw[kD,hk];rfl
  .rw[JA h hk];cases bo (Nat.beq t p.1) (ff xs p.2) false<;>rfl
theorem WO.ahp {y:Operand}{t t2:TypeId}{K:KO}{xs ys:a6}{ks:List Nat}[h:TEq E t ks]{r:Bool}(hx:Ev l x (.agg ⟨xs⟩))(hy:Ev l y (.agg ⟨ys⟩))(hk:ff xs ks=true)(hr:fQ xs ys=some r)(k:∀n,K (.bool r) L n n Z Z):WO E X Γ l (.binOp .eql t x y t2) L K:=WO.bin hx hy (λcc=>by
 show dZ (yM t xs E.eqs) (C9 .eql (fQ xs ys))=_;rw[JA h.h hk,eG,hr];rfl) k
theorem WO.ael {y:Operand}{t t2:TypeId}{K:KO}{xs ys:a6}{ks:List Nat}[h:TEq E t ks]{r:Bool}(hx:Ev l x (.agg ⟨xs⟩))(hy:Ev l y (.agg ⟨ys⟩))(hk:ff xs ks=true)(hr:fQ xs ys=some r)(k:∀n,K (.bool !r) L n n Z Z):WO E X Γ l (.binOp .neq t x y t2) L K:=WO.bin hx hy (λcc=>by
 show dZ (yM t xs E.eqs) (C9 .neq (fQ xs ys))=_;rw[JA h.h hk,eG,hr];rfl) k
end
theorem AM {n:Int}(h:0<=n/\n<=255):IntKind.wrap .u8 n=n:=by refine' zaU
section
variable {a b:Int}
theorem WO.alh (hx:Ev l x (.int .u8 a))(hy:Ev l y (.int .u8 b))(hf:0<=a-b/\a-b<=255)(h:∀n,K (.int .u8 (a-b)) L n n Z Z):WO E X Γ l (.binOp .sub t x y t2) L K:=WO.bin hx hy (λcc=>by
 show some (Value.int .u8 (qm .u8 (a-b)))=_;rw[j2,AM hf]) h
end
def Rk (id:Nat)(Q:DJ)(I WM:Kn->bZ->Prop):DJ
 |.normal,l,L=>I l L
 |.exit i,l,L=>if i=id then WM l L else py id Q (.exit i) l L
 |.ret,l,L=>py id Q .ret l L
theorem ej (h:I l L):Rk id Q I WM .normal l L:=h
theorem kn (h:py id Q .ret l L):Rk id Q I WM .ret l L:=h
theorem Pe (h:WM l L):Rk id Q I WM (.exit id) l L:=by
 show if id=id then WM l L else py id Q (.exit id) l L
 rw[if_pos rfl];exact h
theorem W.bN (I:Nat->Kn->bZ->Prop)(WM:Kn->bZ->Prop)(k:Nat)(h0:I k l L)(step:∀k l L,I k l L->W E X Γ a l L (Rk id Q (λl L=>∃j,j<k/\I j l L) WM))(h:∀l L,WM l L->Q .normal l L):W E X Γ (.loop a) l L (py id Q):=
 W.loop I k h0 λk l L hI=>(step k l L hI).mono λe l L hq=>by
   cases e with
   |normal=>exact hq
   |ret=>exact hq
   |exit i=>
    show py id Q (.exit i) l L;(have hq:if i=id then WM l L else py id Q (.exit i) l L:=hq);by_cases hi:i=id
    .subst hi;rw[if_pos rfl] at hq;exact BG (h l L hq)
    .rw[if_neg hi] at hq;exact hq
theorem WO.ahq {E:ig}{X:fR}{Γ:qV}{l:Kn}{L:bZ}{K:KO}{x:Operand}{t t2:TypeId}{n:Int}[h1:xM E t .i64][h2:xM E t2 .u8](hx:Ev l x (iv n))(hn:0<=n/\n<=255)(h:∀i,K (bv (UInt8.ofNat n.toNat)) L i i Z Z):WO E X Γ l (.convert t t2 x) L K:=by
 refine WO.conv (h1:=h1) (h2:=h2) (k:=.i64) hx (AM hn) λi=>?_
 have:=h i;unfold bv at this;have h3:(((UInt8.ofNat n.toNat).toNat:Nat):Int)=n:=by
  rw[UInt8.toNat_ofNat_of_lt' (by show _<256;omega)];omega
 rw[h3] at this;exact this
noncomputable def Rl (bU:Nat->Option (Nat×Nat)):List (Nat×Value)->a6->Option (a6)
 |[],cells=>some cells
 |(i,v)::l,cells=>match bU i with
  |none=>none
  |some (o,n)=>match Nat.beq (ec (cg v)) n with
   |false=>none
   |true=>match fT o (cg v) cells with
    |none=>none
    |some cs=>Rl bU l cs
termination_by structural l=>l
theorem LI (bU:Nat->Option (Nat×Nat)):∀(l:List (Nat×Value))(cells:a6),sr bU l cells=Rl bU l cells
 |[],cells=>rfl
 |(i,v)::l,cells=>by
  show ob (bU i) (λq=>dZ (Nat.beq (ec (cg v)) q.2)<| ob (fT q.1 (cg v) cells) λcs=>sr bU l cs)=_;unfold Rl;cases bU i with
  |none=>rfl
  |some q=>
   obtain⟨o,n⟩:=q;simp only[cu];cases Nat.beq (ec (cg v)) n with
   |false=>rfl
   |true=>
    rw[eG];cases fT o (cg v) cells with
    |none=>rfl
    |some cs=>exact LI bU l cs
theorem WO.aem {E:ig}{X:fR}{Γ:qV}{l:Kn}{L:bZ}{K:KO}{t:TypeId}{cs:a6}{ps:List (Nat×Operand)}{vs:List (Nat×Value)}{pl:List (Nat×Nat)}{z:a6}[ht:mo E t pl z](hp:Tk l ps vs)(hf:Rl (jj pl) vs z=some cs)(k:∀n,K (.agg ⟨cs⟩) L n n Z Z):WO E X Γ l (.build t ⟨ps⟩) L K:=WO.build hp (by rw[LI];exact hf) k
abbrev jQ {α:Type}{sz:Nat}[ak α sz](E:ig)(X:fR)(f:FuncId)(vs:a6)(s:St)(A:List Nat)(e:TypeId)(p:List α)(b:Bool):Prop:=fM E X f vs s [] A λv L=>∃a k,v= .tuple ⟨[.slice a p.length k,.bool b]⟩/\L=[.aQ (.slice a p.length k) e sz (ai (sz:=sz) p)]
theorem WO.WQ {α:Type}{sz:Nat}{enc:ak α sz}{e:TypeId}{p:List α}{b:Bool}(hx:kA l xs vs)(h:∀s,Inv Γ s L->(∀b∈A,FT Γ s b)/\jQ E X f vs s A e p b)(k:∀m m' a c,jX L m->m<=m'->K (.tuple ⟨[.slice a p.length c,.bool b]⟩) (.aQ (.slice a p.length c) e sz (ai (sz:=sz) p)::L) m m' (FtR A [] m m') (FtW [] m m')):WC E X Γ l f xs ts L K:=
 WO.call (Lm:=[]) (R:=L) hx (.refl _) (λs hi=>(h s hi).1) (λs hi=>(h s hi).2) (by rintro v L' m m' ho hm ⟨a,c,rfl,rfl⟩;exact k m m' a c ho hm)
theorem WO.oM {α:Type}{sz:Nat}{enc:ak α sz}{e:TypeId}{p:List α}{b:Bool}(hx:kA l xs vs)(h:∀s,jQ E X f vs s [] e p b)(k:∀m m' a c,jX L m->m<=m'->K (.tuple ⟨[.slice a p.length c,.bool b]⟩) (.aQ (.slice a p.length c) e sz (ai (sz:=sz) p)::L) m m' (FtR [] [] m m') (FtW [] m m')):WC E X Γ l f xs ts L K:=
 WO.WQ hx (λs _=>⟨(λb hb=>by cases hb),h s⟩) k
section
variable {x:Ex}{a:aM}{k:Nat}{p q:List α}{b:Bool}
theorem ali (hx:x= .normal\/x= .ret)(hr:qD E l L rs [.slice a q.length k])(hL:cC [.aQ (.slice a q.length k) e sz (ai (sz:=sz) q)] L)(h:p=q):vh E rs (λv L=>∃a k,v= .slice a p.length k/\L=[.aQ v e sz (ai (sz:=sz) p)]) x l L:=by subst h;exact⟨hx,_,_,hr,hL,a,k,rfl,rfl⟩
theorem Hm (hx:x= .normal\/x= .ret)(hr:qD E l L rs [.slice a q.length k,.bool b'])(hL:cC [.aQ (.slice a q.length k) e sz (ai (sz:=sz) q)] L)(h:p=q)(hb:b=b'):vh E rs (λv L=>∃a k,v= .tuple ⟨[.slice a p.length k,.bool b]⟩/\L=[.aQ (.slice a p.length k) e sz (ai (sz:=sz) p)]) x l L:=by subst h;subst hb;exact⟨hx,_,_,hr,hL,a,k,rfl,rfl⟩
end
theorem Rd.lt {Γ:qV}{a:aM}{n sz:Nat}{cs:a6}(h:Rd Γ a n sz cs):∀b∈aj a,b<Γ.s0.next:=λb hb=>by
 rcases h.row.2 with⟨_,rfl|⟨b',o,q,rfl,h1⟩⟩|⟨b',o,c,e,w,rfl,h1,_⟩
 .cases hb
 .have:b=b':=by simpa[aj] using hb
  subst this;exact h1
 .have:b=b':=by simpa[aj] using hb
  subst this;exact h1
theorem tQ (a:aM)(n c:Nat):mZ (.slice a n c)=aj a:=by cases a<;>rfl
section
variable {o:Operand}
theorem WO.WR [ht:zc E t](hx:Ev l x (sv p))(ho:Ev l o (.int k (i:Int)))(hi:i<=p.length)(h:∀n,K (sv (p.drop i)) L n n Z Z):WO E X Γ l (.slice t x (some o) none none) L K:=
 WO.Jy hx (.inr ⟨o,k,rfl,ho⟩) (.inl ⟨rfl,rfl⟩) hi (cG _) (by rw[qW ay];exact h)
theorem WO.WT [ht:zc E t](hx:Ev l x (sv p))(ho:Ev l o (.int k (j:Int)))(hj:j<=p.length)(h:∀n,K (sv (p.take j)) L n n Z Z):WO E X Γ l (.slice t x none (some o) none) L K:=
 WO.Jy (i:=0) hx (.inl ⟨rfl,rfl⟩) (.inr ⟨o,k,rfl,ho⟩) (iG _) hj (by rw[CX,Nat.sub_zero];exact h)
end
section
variable {K:Kn->bZ->Prop}
theorem alj (hd:mz aE j=some dj)(hl:lk l dj=some (.tuple ⟨[]⟩))(h2:WS E X Γ aE aS ((d,.tuple ⟨[]⟩)::l) L K):WS E X Γ aE (⟨some d,op,ty,pos,after,some (j,w)⟩::aS) l L K:=WS.pass rfl (.undef hd hl) h2
theorem alk (hd:mz aE j=some dj)(hl:lk l dj=some (.tuple ⟨[]⟩))(h2:WD E X Γ aE aS (i+1) seen nx ((d,.tuple ⟨[]⟩)::l) L K):WD E X Γ aE (⟨some d,op,ty,pos,after,some (j,w)⟩::aS) i seen nx l L K:=WD.pass rfl (.undef hd hl) h2
end
theorem WO.xP {E:ig}{X:fR}{Γ:qV}{l:Kn}{L:bZ}{K:KO}{x:Operand}{t:TypeId}{a:aM}{n sz:Nat}{α:Type}{enc:ak α sz}{p:List α}{i c e:Nat}{k:IntKind}{j:Int}[ht:pI E t e sz](hx:Ev l x (.slice a n c))(hj:j=(i:Int))(hh:jB Γ L a n sz (ai (sz:=sz) p))(hi:i<p.length)(hk:∀n,K (dr a i sz 0) L n n Z Z):WO E X Γ l (.indexAddr t x (.const (.int k j))) L K:=by subst hj;exact WO.indexAddr hx .const hh hi hk
section
variable {o:Operand}{j:Int}
theorem oc (h:Ev l y (.int k j))(hj:0<=j):Ev l y (.int k ((j.toNat:Nat):Int)):=by rw[yF hj];exact h
theorem WO.aen [ht:zc E t](hx:Ev l x (sv p))(hy:Ev l y (.int k j))(hj:0<=j/\j<p.length)(h:∀n,K (bv (p.getD j.toNat 0)) L n n Z Z):WO E X Γ l (.index t x y) L K:=WO.index hx (oc hy hj.1) ag h
theorem WO.aaJ [ht:zc E t](hx:Ev l x (sv p))(ho:Ev l o (.int k j))(hj:0<=j/\j<=p.length)(h:∀n,K (sv (p.drop j.toNat)) L n n Z Z):WO E X Γ l (.slice t x (some o) none none) L K:=WO.WR hx (oc ho hj.1) ag h
theorem WO.aaK [ht:zc E t](hx:Ev l x (sv p))(ho:Ev l o (.int k j))(hj:0<=j/\j<=p.length)(h:∀n,K (sv (p.take j.toNat)) L n n Z Z):WO E X Γ l (.slice t x none (some o) none) L K:=WO.WT hx (oc ho hj.1) ag h
theorem WO.aaL [ht:zc E t](hx:Ev l x (sv p))(ho:Ev l o (.int k j))(By:Ev l o' (.int k' j'))(hj:0<=j/\j<=j'/\j'<=p.length)(h:∀n,K (sv ((p.drop j.toNat).take (j'.toNat-j.toNat))) L n n Z Z):WO E X Γ l (.slice t x (some o) (some o') none) L K:=WO.Jy hx (.inr ⟨o,k,rfl,oc ho hj.1⟩) (.inr ⟨o',k',rfl,oc By ag⟩) ag ag h
theorem WO.Pf {a:aM}{n sz:Nat}{α:Type}{enc:ak α sz}{q:List α}{c e:Nat}[ht:pI E t e sz](hx:Ev l x (.slice a n c))(hy:Ev l y (.int k j))(hh:jB Γ L a n sz (ai (sz:=sz) q))(hi:0<=j/\j<q.length)(hk:∀n,K (dr a j.toNat sz 0) L n n Z Z):WO E X Γ l (.indexAddr t x y) L K:=WO.indexAddr hx (oc hy hi.1) hh ag hk
end
class TD (E:ig)(t:TypeId)(sz:Nat)(α:Type)(enc:ak α sz)(d:outParam α):Prop where
 h:∃e z,uz E t e sz z/\ak.cells (sz:=sz) d=z
theorem WO.make {d:α}{j:Int}{e:Nat}{k1 k2:IntKind}[ht:TT E t e sz α enc][hd:TD E t sz α enc d](hx:Ev l x (.int k1 j))(hy:Ev l y (.int k2 j))(hm:0<=j/\j<=1000000)
  (k:∀b c,jX L b->K (.slice (some ⟨b,0,none⟩) (List.replicate j.toNat d).length c) (.aQ (.slice (some ⟨b,0,none⟩) (List.replicate j.toNat d).length c) e sz (ai (sz:=sz) (List.replicate j.toNat d))::L) b (b+1) (λi=>i=b) (λi=>i=b)):WO E X Γ l (.makeSlice t x y) L K:=by
 refine WO.ahm (m:=j.toNat) (d:=d) (λz hz=>?_) (oc hx hm.1) (oc hy hm.1) ag k;obtain⟨e',z',h1,h2⟩:=hd.h;obtain⟨h3,i,v,h4,_,h5,h6,_⟩:=h1.h;obtain⟨Ts,i',v',h4',_,h5',h6',_⟩:=hz.h;have he:e'=e:=by
  have:=h3.symm.trans Ts;injection this with this
  injection this
 subst he;rw[h4] at h4';cases h4';rw[h5] at h5';cases h5';rw[h2,<-h6,h6']
variable {a' a0:aM}{c0:Nat}{p0:List α}
theorem p9 (a b:UInt8):(a<b)↔a.toNat<b.toNat:=SC
theorem qF:∀p q:List UInt8,(!(Op.bytesLess p q||decide (p=q)))=Op.bytesLess q p
 |[],[]=>by simp[Op.bytesLess]
 |[],_::_=>by simp[Op.bytesLess]
 |_::_,[]=>by simp[Op.bytesLess]
 |a::p,b::q=>by
  have ih:=qF p q;have hd:decide (a::p=b::q)=(decide (a=b)&&decide (p=q)):=by
   by_cases h1:a=b<;>by_cases h2:p=q<;>simp[h1,h2]
  rw[hd];show(!((decide (a<b)||(a== b&&Op.bytesLess p q))||(decide (a=b)&&decide (p=q))))=(decide (b<a)||(b== a&&Op.bytesLess q p));rw[<-ih];by_cases h:a=b
  .subst h;have:¬(a<a):=by rw[p9];omega
   simp[this]
  .have h':¬b=a:=λe=>h e.symm
   (have fY:a.toNat≠b.toNat:=λe=>h (uJ.1 e));(have h1:(a== b)=false:=by simpa using h);(have h2:(b== a)=false:=by simpa using h');by_cases h3:a<b
   .have:¬b<a:=by rw[p9] at *;omega
    simp[h,h1,h2,h3,this]
   .have:b<a:=by rw[p9] at *;omega
    simp[h,h1,h2,h3,this]
section
variable {a:aM}
theorem WO.alm (hx:Ev l x (sv p))(hy:Ev l y (sv q))(h:∀n,K (.bool (Op.bytesLess q p)) L n n Z Z):WO E X Γ l (.binOp .gtr t x y t2) L K:=WO.bin hx hy (λcc=>by
 show some (Value.bool (!(bo (oG p q) true (gB p q))))=_;rw[tt,eY,<-qF p q];have:∀a b:Bool,bo a true b=(a||b):=by intro a b;cases a<;>rfl
 rw[this]
 congr 4
 rw[po];simp) h
end
def Rm (a:aM)(k:Nat):aM:=match a with
 |some ⟨b,o,none⟩=>some ⟨b,o+k,none⟩
 |a=>a
structure DO (sz:Nat)(a:aM)(i n:Nat)(a':aM):Prop where
 h:a'=Rm a (i*sz)\/(n=0/\(a'=a\/∃b o o' r,a=some ⟨b,o,none⟩/\a'=some ⟨b,o',some r⟩))
structure Sub {α:Type}(sz:Nat)(a:aM)(p:List α)(a':aM)(q:List α):Prop where
 h:∃i n,q=(p.drop i).take n/\i+n<=p.length/\DO sz a i n a'
theorem aaM {a:aM}{k:Nat}:aj (Rm a k)=aj a:=by unfold Rm;split<;>rfl
theorem DO.a8 {sz i n:Nat}{a a':aM}(h:DO sz a i n a'):aj a'=aj a:=by
 rcases h.h with rfl|⟨_,rfl|⟨b,o,o',r,rfl,rfl⟩⟩
 .exact aaM
 .rfl
 .rfl
section
variable {p q:List α}{a:aM}
theorem Sub.a8 (h:Sub sz a p a' q):aj a'=aj a:=by obtain⟨_,_,_,_,h⟩:=h.h;exact h.a8
theorem bH.sub (h:bH s a p.length sz (ai (sz:=sz) p))(hs:Sub sz a p a' q):bH s a' q.length sz (ai (sz:=sz) q):=by
 obtain⟨i,n,rfl,u3,hs⟩:=hs.h;refine⟨bp _,?_⟩;have cX:((p.drop i).take n).length=n:=by rw[cW,eW];omega
 rcases hs.h with rfl|⟨rfl,rfl|⟨b,o,o',r,rfl,rfl⟩⟩
 .rcases h.2 with⟨h0,rfl|⟨b,o,r,rfl,hb⟩⟩|⟨b,o,c,e,w,rfl,h1,h2,h3⟩
  .exact .inl ⟨ag,.inl rfl⟩
  .exact .inl ⟨ag,.inr ⟨b,o,r,rfl,hb⟩⟩
  .refine .inr ⟨b,o+i*sz,c,e,w,rfl,h1,h2,?_⟩;rw[cX,<-pZ,<-sJ,<-h3,List.drop_take,OC,mu]
   congr 1
   (have:n*sz<=p.length*sz-i*sz:=by rw[<-Nat.sub_mul];exact KM _ ag);omega
 .rcases h.2 with⟨h0,h1⟩|⟨b,o,c,e,w,rfl,h1,h2,h3⟩
  .exact .inl ⟨ay,h1⟩
  .exact .inr ⟨b,o,c,e,w,rfl,h1,h2,by simp[ai]⟩
 .refine .inl ⟨ay,.inr ⟨b,o',r,rfl,?_⟩⟩;rcases h.2 with⟨h0,h1|⟨b,o,r,h1,hb⟩⟩|⟨b,o,c,e,w,h1,h2,h3,h4⟩
  .cases h1
  .cases h1
  .cases h1;exact h2
end
def w9 (s:St)(a:aM)(n c e sz:Nat):Prop:=(a=none/\n=0/\c=0)\/∃b o cs w,a=some ⟨b,o,none⟩/\b<s.next/\s.heap.get b=some (.cells cs e w)/\((n<=c/\c<ew)\/(w=true/\ew<=c/\o=(c-ew)*sz/\o+n*sz<=cs.length))
theorem xL.slv {s:St}{a:aM}{n c e sz:Nat}{cs:a6}(h:xL s (.slice a n c) e sz cs)(hb:∀b∈aj a,b<s.next):w9 s a n c e sz:=by
 rcases h with⟨h1,rfl⟩|⟨b,m,k,w,aS,h1,h2,h3,h4⟩
 .cases h1;exact .inl ⟨rfl,rfl,rfl⟩
 .cases h1
  refine .inr ⟨b,0,cs++aS,w,rfl,hb b (by simp[aj]),h2,?_⟩;rcases h4 with⟨h4,h5,_⟩|⟨rfl,h4⟩
  .exact .inl ⟨h4,h5⟩
  .exact .inr ⟨h4,cG _,ay,by rw[bL,h3];omega⟩
section
variable {o:Operand}{a:aM}{c:Nat}{p:List α}
structure WU (l:Kn)(len:Nat)(lo hi:Option Operand)(i j:Nat):Prop where
 lo:(lo=none/\i=0)\/∃o k,lo=some o/\Ev l o (.int k (i:Int))
 hi:(hi=none/\j=len)\/∃o k,hi=some o/\Ev l o (.int k (j:Int))
 h:i<=j/\j<=len
theorem qa {β:Type}{tm:Tm}{lo hi:Option Operand}{i j len cap:Nat}(h:WU l len lo hi i j)(hl:mQ l tm)(hc:len<=cap)(k:Nat->Nat->Nat->Option β):bounds len cap (dH (aO tm) lo) (dH (aO tm) hi) none k=k i j cap:=by
 have h1:hiV len cap (dH (aO tm) hi) none=some j:=by
  rcases h.hi with⟨rfl,rfl⟩|⟨o,k,rfl,ho⟩
  .rfl
  .show pL (aO tm o) cap=_;rw[ho.eval hl];show bo (Nat.ble j cap) (some j) none=_;rw[gp (by have:=h.h;omega)];rfl
 have h2:SG (dH (aO tm) lo) j 0=some i:=by
  rcases h.lo with⟨rfl,rfl⟩|⟨o,k,rfl,ho⟩
  .rfl
  .show pL (aO tm o) j=_;rw[ho.eval hl];show bo (Nat.ble i j) (some i) none=_;rw[gp h.h.1];rfl
 show ob (some cap) (λm=>ob (hiV len m (dH (aO tm) hi) none) λh=>ob (SG (dH (aO tm) lo) h 0) λl=>k l h m)=_;simp only[cu,h1,h2]
theorem LJ {tm:Tm}{lo hi:Option Operand}{i j len:Nat}(h:WU l len lo hi i j)(hl:mQ l tm)(hz:nS (dH (aO tm) lo) (dH (aO tm) hi) none=true):i=0/\j=0:=by
 obtain⟨h1,h2,h3,_⟩:=h;rcases h1 with⟨rfl,rfl⟩|⟨o,k,rfl,ho⟩
 .rcases h2 with⟨rfl,rfl⟩|⟨o,k,rfl,ho⟩
  .cases hz
  .simp only[dH,ho.eval hl] at hz;cases j with
   |zero=>exact⟨rfl,rfl⟩
   |succ j=>cases hz
 .exact absurd hz (by show ¬(nS (some _) _ _=true);simp[nS])
theorem CG [ht:TT E t e sz α enc]{tm:Tm}{lo hi:Option Operand}{i j:Nat}(h:WU l n lo hi i j)(hl:mQ l tm)(hv:w9 s a n c e sz):
  ∃a' c' s',kv E s t (.slice a n c) (dH (aO tm) lo) (dH (aO tm) hi) none=some (.slice a' (j-i) c',s')/\(s'=s\/∃b∈aj a,s'=s.aY b)/\DO sz a i (j-i) a'/\(0<j-i->a'=Rm a (i*sz)/\((c<ew/\c'=c-i)\/(ew<=c/\c'=c+i))):=by
 obtain⟨z,hr,_⟩:=ht.h;obtain⟨hu,ii,z1,KC,tA,hi3,KE,hi5,hi6,hi7⟩:=hr.h;have jd:size E e=some sz:=by unfold size;rw[KC];simp[tA]
 have qu:=h.h;have DP:∀a,n<=c->ey sz a n c (dH (aO tm) lo) (dH (aO tm) hi) none=some (.slice (bo (Nat.beq c i) a (sq a (Nat.mul i sz))) (j-i) (c-i)):=λa hc=>by
  unfold ey;rw[qa h hl hc];rfl
 have Jt:∀a,(a=none\/∃b o,a=some ⟨b,o,none⟩)->n<=c->DO sz a i (j-i) (bo (Nat.beq c i) a (sq a (Nat.mul i sz))):=λa ha hc=>by
  cases hci:Nat.beq c i with
  |true=>
   have:c=i:=nR hci;exact⟨.inr ⟨ag,.inl rfl⟩⟩
  |false=>
   refine⟨.inl ?_⟩;show sq a (Nat.mul i sz)=_;rcases ha with rfl|⟨b,o,rfl⟩
   .rfl
   .show bo (Nat.beq (i*sz) 0) (some (⟨b,o,none⟩:Addr)) (some (⟨b,o+i*sz,none⟩:Addr))=some (⟨b,o+i*sz,none⟩:Addr);cases hb:Nat.beq (i*sz) 0 with
    |true=>have:i*sz=0:=nR hb
           rw[this];rfl
    |false=>rfl
 have hnz:∀a,(a=none\/∃b o,a=some ⟨b,o,none⟩)->n<=c->0<j-i->bo (Nat.beq c i) a (sq a (Nat.mul i sz))=Rm a (i*sz):=λa ha hc h0=>by
  cases hci:Nat.beq c i with
  |true=>
   have:c=i:=nR hci;omega
  |false=>
   show sq a (Nat.mul i sz)=_;rcases ha with rfl|⟨b,o,rfl⟩
   .rfl
   .show bo (Nat.beq (i*sz) 0) (some (⟨b,o,none⟩:Addr)) (some (⟨b,o+i*sz,none⟩:Addr))=some (⟨b,o+i*sz,none⟩:Addr);cases hb:Nat.beq (i*sz) 0 with
    |true=>have:i*sz=0:=nR hb
           rw[this];rfl
    |false=>rfl
 unfold kv;rw[hu];show ∃a' c' s',dZ (IZ a) (ob (size E e) λsz=>bo (Nat.ble ew c) (bo (nS (dH (aO tm) lo) (dH (aO tm) hi) none) (nT a c s) (iJ e sz a n c (dH (aO tm) lo) (dH (aO tm) hi) none s)) (ob (ey sz a n c (dH (aO tm) lo) (dH (aO tm) hi) none) λv=>aN v s))=_/\_;rw[jd];rcases hv with⟨rfl,rfl,rfl⟩|⟨b,o,cs,w,rfl,hb,hg,⟨hc,hu⟩|⟨rfl,hu,ho,cX⟩⟩
 .refine⟨bo (Nat.beq 0 i) none (sq none (Nat.mul i sz)),0-i,s,?_,.inl rfl,Jt none (.inl rfl) (cG _),λh0=>by omega⟩;show(ob (ey sz none 0 0 _ _ none) λv=>aN v s)=_;rw[DP none (cG _)];rfl
 .refine⟨bo (Nat.beq c i) (some ⟨b,o,none⟩) (sq (some ⟨b,o,none⟩) (Nat.mul i sz)),c-i,s,?_,.inl rfl,Jt _ (.inr ⟨b,o,rfl⟩) hc,λh0=>⟨hnz _ (.inr ⟨b,o,rfl⟩) hc h0,.inl ⟨hu,rfl⟩⟩⟩;rw[show Nat.ble ew c=false from by rw[<-jf,nG];omega];show(ob (ey sz (some ⟨b,o,none⟩) n c _ _ none) λv=>aN v s)=_;rw[DP _ hc];rfl
 .rw[gp hu];show ∃a' c' s',bo (nS (dH (aO tm) lo) (dH (aO tm) hi) none) (nT (some ⟨b,o,none⟩) c s) (iJ e sz (some ⟨b,o,none⟩) n c (dH (aO tm) lo) (dH (aO tm) hi) none s)=_/\_;cases hz:nS (dH (aO tm) lo) (dH (aO tm) hi) none with
  |true=>
   obtain⟨rfl,rfl⟩:=LJ h hl hz;exact⟨some ⟨b,o,none⟩,c,s,rfl,.inl rfl,DO.mk (.inr ⟨rfl,.inl rfl⟩),λh0=>absurd h0 ag⟩
  |false=>
   show ∃a' c' s',iJ e sz (some ⟨b,o,none⟩) n c (dH (aO tm) lo) (dH (aO tm) hi) none s=_/\_;have nZ:iJ e sz (some ⟨b,o,none⟩) n c (dH (aO tm) lo) (dH (aO tm) hi) none s=bo (Nat.beq i 0||Nat.ble (Nat.succ i) j) (aN (.slice (some ⟨b,o+i*sz,none⟩) (j-i) (c+i)) (s.aY b)) (aN (.slice (some ⟨b,o+i*sz,some o⟩) 0 (c+i)) (s.aY b)):=by
    unfold iJ;show s.row b (λc' e' w s=>dZ (bo w true (Nat.beq sz 1)&&Nat.beq e' e&&Nat.beq o (Nat.mul (Nat.sub c ew) sz)&&Nat.ble (Nat.add o (Nat.mul n sz)) (ec c')) (bounds n n (dH (aO tm) lo) (dH (aO tm) hi) none λl h _=>_))=_;unfold St.row St.look;rw[hg];simp only[cu];rw[show Nat.mul (Nat.sub c ew) sz=o from ho.symm,kD,kD,dm,gp (show Nat.add o (Nat.mul n sz)<=cs.length from cX)];show bounds n n _ _ none _=_;rw[qa h hl (cG _)];rfl
   rw[nZ];cases nD:(Nat.beq i 0||Nat.ble (Nat.succ i) j) with
   |true=>exact⟨some ⟨b,o+i*sz,none⟩,c+i,s.aY b,rfl,.inr ⟨b,by simp[aj],rfl⟩,DO.mk (.inl rfl),λ_=>⟨rfl,.inr ⟨hu,rfl⟩⟩⟩
   |false=>
    have h0:j-i=0:=by
     have h1:Nat.ble (Nat.succ i) j=false:=by
      cases hh:Nat.ble (Nat.succ i) j with
      |true=>rw[hh,Bool.or_true] at nD;cases nD
      |false=>rfl
     (have h2:¬i+1<=j:=λh=>by rw[gp (show Nat.succ i<=j from h)] at h1;cases h1);omega
    rw[h0];exact⟨some ⟨b,o+i*sz,some o⟩,c+i,s.aY b,rfl,.inr ⟨b,by simp[aj],rfl⟩,DO.mk (.inr ⟨rfl,.inr ⟨b,o,_,_,rfl,rfl⟩⟩),λh0=>absurd h0 ag⟩
end
structure Part (e sz:Nat)(a:aM)(n c:Nat)(a':aM)(n' c':Nat):Prop where
 h:0<n'->∀s,w9 s a n c e sz->w9 s a' n' c' e sz
theorem Part.refl {e sz:Nat}{a:aM}{n c:Nat}:Part e sz a n c a n c:=⟨λ_ _ h=>h⟩
theorem Part.of {e sz n c c' i j:Nat}{a a':aM}(nD:i<=j/\j<=n)(h:0<j-i->a'=Rm a (i*sz)/\((c<ew/\c'=c-i)\/(ew<=c/\c'=c+i))):Part e sz a n c a' (j-i) c':=⟨λh0 s hv=>by
 obtain⟨rfl,hc⟩:=h h0;rcases hv with⟨rfl,rfl,rfl⟩|⟨b,o,cs,w,rfl,hb,hg,hr⟩
 .omega
 .refine .inr ⟨b,o+i*sz,cs,w,rfl,hb,hg,?_⟩;rcases hr with⟨h1,h2⟩|⟨h1,h2,h3,h4⟩
  .rcases hc with⟨_,rfl⟩|⟨h3,_⟩
   .exact .inl ⟨ag,ag⟩
   .omega
  .rcases hc with⟨h5,_⟩|⟨_,rfl⟩
   .omega
   .refine .inr ⟨h1,ag,?_,?_⟩
    .rw[h3,show c+i-ew=(c-ew)+i by omega,mM]
    .have:i*sz+(j-i)*sz=j*sz:=by rw[<-mM];congr 1;omega
     have:j*sz<=n*sz:=KM _ nD.2;omega⟩
theorem aaN {a:aM}{i j:Nat}:Rm (Rm a i) j=Rm a (i+j):=by rcases a with _|⟨b,o,_|q⟩<;>simp[Rm,Nat.add_assoc]
theorem Sub.trans {α:Type}{sz:Nat}{p0 p q:List α}{a0 a a':aM}{i n:Nat}(h0:0<p.length)(h:Sub sz a0 p0 a p)(hq:(p.drop i).take n=q)(hn:i+n<=p.length)(h':DO sz a i n a'):Sub sz a0 p0 a' q:=by
 obtain⟨i0,n0,rfl,u3,hs⟩:=h.h;have cX:((p0.drop i0).take n0).length=n0:=by rw[cW,eW];omega
 rw[cX] at h0 hn;have ha:a=Rm a0 (i0*sz):=by
  rcases hs.h with h|⟨h,_⟩
  .exact h
  .omega
 subst ha;have hq':q=(p0.drop (i0+i)).take n:=by
  rw[<-hq,List.drop_take,OC,mu]
  congr 1;omega
 rcases h'.h with rfl|⟨rfl,rfl|⟨b,o,o',r,h1,rfl⟩⟩
 .exact⟨⟨i0+i,n,hq',ag,⟨.inl (by rw[aaN,mM])⟩⟩⟩
 .exact⟨⟨i0,0,by rw[hq'];simp,ag,⟨.inl rfl⟩⟩⟩
 .refine⟨⟨i0,0,by rw[hq'];simp,ag,⟨.inr ⟨rfl,.inr ?_⟩⟩⟩⟩;rcases a0 with _|⟨b0,o0,_|q0⟩
  .cases h1
  .cases h1;exact⟨_,_,_,_,rfl,rfl⟩
  .cases h1
section
variable {o:Operand}{a:aM}{c:Nat}{p q:List α}{lo hi:Option Operand}{u v:Int}
theorem jB.aln (hs:Sub sz a p a' q)(h:It.aQ (.slice a p.length c) e sz (ai (sz:=sz) p)∈L):jB Γ L a' q.length sz (ai (sz:=sz) q):=
 .sub h (λs hr=>hr.sub hs) (by rw[hs.a8];exact λb hb=>hb)
theorem DQ (h:i<=j/\j<=p.length):((p.drop i).take (j-i)).length=j-i:=by rw[cW,eW];omega
theorem WO.aeo [ht:TT E t e sz α enc](hx:Ev l x (.slice a p.length c))(hm:It.aQ (.slice a p.length c) e sz (ai (sz:=sz) p)∈L)(hb:WU l p.length lo hi i j)(hq:(p.drop i).take (j-i)=q)
  (h:∀m a' c',Sub sz a p a' q->Part e sz a p.length c a' q.length c'->K (.slice a' q.length c') L m m (λb=>b∈aj a) Z):WO E X Γ l (.slice t x lo hi none) L K:=λtm s hl hi=>by
 have h1:∀b∈aj a,FT Γ s b:=λb hb=>hi.may hm (by
  cases a with
  |none=>simp[aj] at hb
  |some a=>simpa[It.a8,mZ,aj] using hb)
 have hv:=xL.slv (hi.it _ hm) λb hb=>(h1 b hb).1
 obtain⟨a',c',s',h2,h3,h4,h5⟩:=CG (ht:=ht) hb hl hv;have hs:Sub sz a p a' q:=⟨⟨i,j-i,hq.symm,by have:=hb.h;omega,h4⟩⟩;have cX:q.length=j-i:=by rw[<-hq];exact DQ hb.h
 have uF:Part e sz a p.length c a' q.length c':=by rw[cX];exact Part.of hb.h h5
 refine' zaI
 .exact fW.pure mG ⟨L,_,Z,hi,kP.id,h _ _ _ hs uF⟩
 .exact fW.pure mG ⟨L,_,Z,hi.aY (h1 b lD),db (h1 b lD).1 lD,by rw[cz];exact h _ _ _ hs uF⟩
theorem WO.alo [ht:TT E t e sz α enc](hx:Ev l x (.slice a p.length c))(WV:0<p.length)(hs0:Sub sz a0 p0 a p)(aaO:Part e sz a0 p0.length c0 a p.length c)(hm:It.aQ (.slice a0 p0.length c0) e sz (ai (sz:=sz) p0)∈L)(hb:WU l p.length lo hi i j)(hq:(p.drop i).take (j-i)=q)
  (h:∀m a' c',Sub sz a0 p0 a' q->Part e sz a0 p0.length c0 a' q.length c'->K (.slice a' q.length c') L m m (λb=>b∈aj a0) Z):WO E X Γ l (.slice t x lo hi none) L K:=λtm s hl hi=>by
 have h1:∀b∈aj a0,FT Γ s b:=λb hb=>hi.may hm (by
  cases a0 with
  |none=>simp[aj] at hb
  |some a=>simpa[It.a8,mZ,aj] using hb)
 have hv:=aaO.h WV s (xL.slv (hi.it _ hm) λb hb=>(h1 b hb).1);obtain⟨a',c',s',h2,h3,h4,h5⟩:=CG (ht:=ht) hb hl hv;have hs:Sub sz a0 p0 a' q:=Sub.trans WV hs0 hq (by have:=hb.h;omega) h4;have cX:q.length=j-i:=by rw[<-hq];exact DQ hb.h
 have uF:Part e sz a0 p0.length c0 a' q.length c':=⟨λh0 s hv=>by rw[cX] at h0⊢;exact(Part.of hb.h h5).h h0 s (aaO.h WV s hv)⟩;have mG:∀call:eX,FK E call (aO tm) s (.slice t x lo ‹Option Operand› none)=some (.slice a' q.length c',s'):=λcall=>by
  show kv E s t (aO tm x) _ _ none=_;rw[hx.eval hl,h2,cX]
 rw[hs0.a8] at h3;rcases h3 with rfl|⟨b,lD,rfl⟩
 .exact fW.pure mG ⟨L,_,Z,hi,kP.id,h _ _ _ hs uF⟩
 .exact fW.pure mG ⟨L,_,Z,hi.aY (h1 b lD),db (h1 b lD).1 lD,by rw[cz];exact h _ _ _ hs uF⟩
theorem Rd.may {cs:a6}(h:Rd Γ a n sz cs)(hi:Inv Γ s L):∀b∈aj a,FT Γ s b:=(jB.row (.rd h) hi).2
theorem w9.inv (h:w9 Γ.s0 a n c e sz)(hi:Inv Γ s L)(hM:∀b∈aj a,b∉Γ.M):w9 s a n c e sz:=by
 rcases h with h|⟨b,o,cs,w,rfl,h1,h2,h3⟩
 .exact .inl h
 .have:=hi.le;exact .inr ⟨b,o,cs,w,rfl,ag,by rw[hi.fr b h1 (hM b (by simp[aj]))];exact h2,h3⟩
theorem Rd.sub (h:Rd Γ a p.length sz (ai (sz:=sz) p))(hs:Sub sz a p a' q):Rd Γ a' q.length sz (ai (sz:=sz) q):=
 ⟨h.row.sub hs,by rw[hs.a8];exact h.A,by rw[hs.a8];exact h.M⟩
theorem WO.ahr [ht:TT E t e sz α enc](hx:Ev l x (.slice a p.length c))(hm:Rd Γ a p.length sz (ai (sz:=sz) p))(hv:w9 Γ.s0 a p.length c e sz)(hb:WU l p.length lo hi i j)(hq:(p.drop i).take (j-i)=q)
  (h:∀m a' c',Rd Γ a' q.length sz (ai (sz:=sz) q)->K (.slice a' q.length c') L m m (λb=>b∈aj a) Z):WO E X Γ l (.slice t x lo hi none) L K:=λtm s hl hi=>by
 have h1:=hm.may hi;obtain⟨a',c',s',h2,h3,h4,_⟩:=CG (ht:=ht) hb hl (hv.inv hi hm.M);have hs:Sub sz a p a' q:=⟨⟨i,j-i,hq.symm,by have:=hb.h;omega,h4⟩⟩;have cX:q.length=j-i:=by rw[<-hq];exact DQ hb.h
 refine' zaI
 .exact fW.pure mG ⟨L,_,Z,hi,kP.id,h _ _ _ (hm.sub hs)⟩
 .exact fW.pure mG ⟨L,_,Z,hi.aY (h1 b lD),db (h1 b lD).1 lD,by rw[cz];exact h _ _ _ (hm.sub hs)⟩
theorem acI (ho:Ev l o (.int k u))(hj:0<=u/\u<=(n:Int)):WU l n (some o) none u.toNat n:=⟨.inr ⟨o,k,rfl,oc ho hj.1⟩,.inl ⟨rfl,rfl⟩,ag⟩
theorem Rn (ho:Ev l o (.int k u))(hj:0<=u/\u<=(n:Int)):WU l n none (some o) 0 u.toNat:=⟨.inl ⟨rfl,rfl⟩,.inr ⟨o,k,rfl,oc ho hj.1⟩,ag⟩
theorem ahs (ho:Ev l o (.int k u))(By:Ev l o' (.int k' v))(hj:0<=u/\u<=v/\v<=(n:Int)):WU l n (some o) (some o') u.toNat v.toNat:=⟨.inr ⟨o,k,rfl,oc ho hj.1⟩,.inr ⟨o',k',rfl,oc By ag⟩,ag⟩
theorem WW:(p.drop i).take (p.length-i)=p.drop i:=qW (by rw[eW];omega)
theorem Ph:(p.drop 0).take (j-0)=p.take j:=by simp
theorem WO.aht [ht:TT E t e sz α enc](hx:Ev l x (.slice a p.length c))(ho:Ev l o (.int k u))(hm:It.aQ (.slice a p.length c) e sz (ai (sz:=sz) p)∈L)(hj:0<=u/\u<=(p.length:Int))
  (h:∀m a' c',Sub sz a p a' (p.drop u.toNat)->Part e sz a p.length c a' (p.drop u.toNat).length c'->K (.slice a' (p.drop u.toNat).length c') L m m (λb=>b∈aj a) Z):WO E X Γ l (.slice t x (some o) none none) L K:=WO.aeo hx hm (acI ho hj) WW h
theorem WO.ahu [ht:TT E t e sz α enc](hx:Ev l x (.slice a p.length c))(ho:Ev l o (.int k u))(hm:It.aQ (.slice a p.length c) e sz (ai (sz:=sz) p)∈L)(hj:0<=u/\u<=(p.length:Int))
  (h:∀m a' c',Sub sz a p a' (p.take u.toNat)->Part e sz a p.length c a' (p.take u.toNat).length c'->K (.slice a' (p.take u.toNat).length c') L m m (λb=>b∈aj a) Z):WO E X Γ l (.slice t x none (some o) none) L K:=WO.aeo hx hm (Rn ho hj) Ph h
theorem WO.ahv [ht:TT E t e sz α enc](hx:Ev l x (.slice a p.length c))(ho:Ev l o (.int k u))(By:Ev l o' (.int k' v))(hm:It.aQ (.slice a p.length c) e sz (ai (sz:=sz) p)∈L)(hj:0<=u/\u<=v/\v<=(p.length:Int))
  (h:∀m a' c',Sub sz a p a' ((p.drop u.toNat).take (v.toNat-u.toNat))->Part e sz a p.length c a' ((p.drop u.toNat).take (v.toNat-u.toNat)).length c'->K (.slice a' ((p.drop u.toNat).take (v.toNat-u.toNat)).length c') L m m (λb=>b∈aj a) Z):WO E X Γ l (.slice t x (some o) (some o') none) L K:=WO.aeo hx hm (ahs ho By hj) rfl h
theorem WO.ahw [ht:TT E t e sz α enc](hx:Ev l x (.slice a p.length c))(ho:Ev l o (.int k u))(hs0:Sub sz a0 p0 a p)(aaO:Part e sz a0 p0.length c0 a p.length c)(hm:It.aQ (.slice a0 p0.length c0) e sz (ai (sz:=sz) p0)∈L)(WV:0<p.length)(hj:0<=u/\u<=(p.length:Int))
  (h:∀m a' c',Sub sz a0 p0 a' (p.take u.toNat)->Part e sz a0 p0.length c0 a' (p.take u.toNat).length c'->K (.slice a' (p.take u.toNat).length c') L m m (λb=>b∈aj a0) Z):WO E X Γ l (.slice t x none (some o) none) L K:=WO.alo hx WV hs0 aaO hm (Rn ho hj) Ph h
theorem WO.ahx [ht:TT E t e sz α enc](hx:Ev l x (.slice a p.length c))(ho:Ev l o (.int k u))(hm:Rd Γ a p.length sz (ai (sz:=sz) p))(hv:w9 Γ.s0 a p.length c e sz)(hj:0<=u/\u<=(p.length:Int))
  (h:∀m a' c',Rd Γ a' (p.drop u.toNat).length sz (ai (sz:=sz) (p.drop u.toNat))->K (.slice a' (p.drop u.toNat).length c') L m m (λb=>b∈aj a) Z):WO E X Γ l (.slice t x (some o) none none) L K:=WO.ahr hx hm hv (acI ho hj) WW h
theorem WO.ahy [ht:TT E t e sz α enc](hx:Ev l x (.slice a p.length c))(ho:Ev l o (.int k u))(hm:Rd Γ a p.length sz (ai (sz:=sz) p))(hv:w9 Γ.s0 a p.length c e sz)(hj:0<=u/\u<=(p.length:Int))
  (h:∀m a' c',Rd Γ a' (p.take u.toNat).length sz (ai (sz:=sz) (p.take u.toNat))->K (.slice a' (p.take u.toNat).length c') L m m (λb=>b∈aj a) Z):WO E X Γ l (.slice t x none (some o) none) L K:=WO.ahr hx hm hv (Rn ho hj) Ph h
end
abbrev acJ {α:Type}{sz:Nat}[ak α sz](E:ig)(X:fR)(f:FuncId)(vs:a6)(s:St)(A:List Nat)(e:TypeId)(p:List α):Prop:=fM E X f vs s [] A λv L=>∃a k a0,∃p0:List α,∃k0,v= .slice a p.length k/\L=[.aQ (.slice a0 p0.length k0) e sz (ai (sz:=sz) p0)]/\Sub sz a0 p0 a p/\Part e sz a0 p0.length k0 a p.length k
theorem WO.aep {α:Type}{sz:Nat}{enc:ak α sz}{e:TypeId}{p:List α}(hx:kA l xs vs)(h:∀s,acJ E X f vs s [] e p)(k:∀m m' a c a0 (p0:List α) c0,Sub sz a0 p0 a p->Part e sz a0 p0.length c0 a p.length c->jX L m->m<=m'->K (.slice a p.length c) (.aQ (.slice a0 p0.length c0) e sz (ai (sz:=sz) p0)::L) m m' (FtR [] [] m m') (FtW [] m m')):WC E X Γ l f xs ts L K:=
 WO.call (Lm:=[]) (R:=L) hx (.refl _) (λs hi b hb=>by cases hb) (λs hi=>h s) (by rintro v L' m m' ho hm ⟨a,c,a0,p0,c0,rfl,rfl,hs,hp⟩;exact k m m' a c a0 p0 c0 hs hp ho hm)
theorem aaP (a:aM):Rm a 0=a:=by rcases a with _|⟨b,o,_|q⟩<;>rfl
theorem Sub.all {α:Type}{sz:Nat}{a:aM}{p:List α}:Sub sz a p a p:=⟨⟨0,p.length,ay,ag,⟨.inl (by rw[IY,aaP])⟩⟩⟩
theorem alp {α:Type}{sz e:Nat}{enc:ak α sz}{p q p0:List α}{a a0:aM}{k k0:Nat}{rs:List ResultVar}{x:Ex}(hx:x= .normal\/x= .ret)(hr:qD E l L rs [.slice a q.length k])(hs:Sub sz a0 p0 a q)(uF:Part e sz a0 p0.length k0 a q.length k)(hL:cC [.aQ (.slice a0 p0.length k0) e sz (ai (sz:=sz) p0)] L)(h:p=q):
  vh E rs (λv L=>∃a k a0,∃p0:List α,∃k0,v= .slice a p.length k/\L=[.aQ (.slice a0 p0.length k0) e sz (ai (sz:=sz) p0)]/\Sub sz a0 p0 a p/\Part e sz a0 p0.length k0 a p.length k) x l L:=by
 subst h;exact⟨hx,_,_,hr,hL,a,k,a0,p0,k0,rfl,rfl,hs,uF⟩
theorem WO.iN {a:aM}{n sz:Nat}{cs:a6}(hx:kA l xs vs)(h:∀s,bH s a n sz cs->nQ E X f vs s (aj a) r)(hh:jB Γ L a n sz cs)(k:∀m m',jX L m->m<=m'->K r L m m' (FtR (aj a) [] m m') (FtW [] m m')):WC E X Γ l f xs ts L K:=WO.aej hx hh h k
theorem WO.JB {a:aM}{n LC:Nat}{cs:a6}{α:Type}{sz:Nat}{enc:ak α sz}{e:TypeId}{p:List α}(hx:kA l xs vs)(h:∀s,bH s a n LC cs->eU E X f vs s (aj a) e p)(hh:jB Γ L a n LC cs)(k:∀m m' a' c,jX L m->m<=m'->K (.slice a' p.length c) (.aQ (.slice a' p.length c) e sz (ai (sz:=sz) p)::L) m m' (FtR (aj a) [] m m') (FtW [] m m')):WC E X Γ l f xs ts L K:=WO.aek hx hh h k
section
variable {o:Operand}{a:aM}{c:Nat}{p q:List α}
theorem LK [ht:TT E t e sz α enc]{tm:Tm}(h:WU l n none (some o) 0 j)(hl:mQ l tm)(hv:w9 s a n c e sz):
  ∃s',kv E s t (.slice a n c) (dH (aO tm) none) (dH (aO tm) (some o)) none=some (.slice a j c,s')/\(s'=s\/∃b∈aj a,s'=s.aY b):=by
 obtain⟨z,hr,_⟩:=ht.h;obtain⟨hu,ii,z1,KC,tA,hi3,KE,hi5,hi6,hi7⟩:=hr.h;have jd:size E e=some sz:=by unfold size;rw[KC];simp[tA]
 have qu:=h.h;have Vr:∀a:aM,(a=none\/∃b o,a=some ⟨b,o,none⟩)->sq a (Nat.mul 0 sz)=a:=λa ha=>by
  rw[show Nat.mul 0 sz=0 from IY _];rcases ha with rfl|⟨b,o,rfl⟩<;>rfl
 have DP:∀a:aM,(a=none\/∃b o,a=some ⟨b,o,none⟩)->n<=c->ey sz a n c (dH (aO tm) none) (dH (aO tm) (some o)) none=some (.slice a j c):=λa ha hc=>by
  unfold ey;rw[qa h hl hc];show some (Value.slice (bo (Nat.beq c 0) a (sq a (Nat.mul 0 sz))) (j-0) (c-0))=_;rw[Vr a ha];cases Nat.beq c 0<;>rfl
 unfold kv;rw[hu];show ∃s',dZ (IZ a) (ob (size E e) λsz=>bo (Nat.ble ew c) (bo (nS (dH (aO tm) none) (dH (aO tm) (some o)) none) (nT a c s) (iJ e sz a n c (dH (aO tm) none) (dH (aO tm) (some o)) none s)) (ob (ey sz a n c (dH (aO tm) none) (dH (aO tm) (some o)) none) λv=>aN v s))=_/\_;rw[jd];rcases hv with⟨rfl,rfl,rfl⟩|⟨b,o',cs,w,rfl,hb,hg,⟨hc,hu⟩|⟨rfl,hu,ho,cX⟩⟩
 .refine⟨s,?_,.inl rfl⟩;show(ob (ey sz none 0 0 _ _ none) λv=>aN v s)=_;rw[DP none (.inl rfl) (cG _)];rfl
 .refine⟨s,?_,.inl rfl⟩;rw[show Nat.ble ew c=false from by rw[<-jf,nG];omega];show(ob (ey sz (some ⟨b,o',none⟩) n c _ _ none) λv=>aN v s)=_;rw[DP _ (.inr ⟨b,o',rfl⟩) hc];rfl
 .rw[gp hu];show ∃s',bo (nS (dH (aO tm) none) (dH (aO tm) (some o)) none) (nT (some ⟨b,o',none⟩) c s) (iJ e sz (some ⟨b,o',none⟩) n c (dH (aO tm) none) (dH (aO tm) (some o)) none s)=_/\_;cases hz:nS (dH (aO tm) none) (dH (aO tm) (some o)) none with
  |true=>
   obtain⟨_,rfl⟩:=LJ h hl hz;exact⟨s,rfl,.inl rfl⟩
  |false=>
   refine⟨s.aY b,?_,.inr ⟨b,by simp[aj],rfl⟩⟩;show iJ e sz (some ⟨b,o',none⟩) n c (dH (aO tm) none) (dH (aO tm) (some o)) none s=_;unfold iJ;show s.row b (λc' e' w s=>dZ (bo w true (Nat.beq sz 1)&&Nat.beq e' e&&Nat.beq o' (Nat.mul (Nat.sub c ew) sz)&&Nat.ble (Nat.add o' (Nat.mul n sz)) (ec c')) (bounds n n (dH (aO tm) none) (dH (aO tm) (some o)) none λl h _=>_))=_;unfold St.row St.look;rw[hg];simp only[cu];rw[show Nat.mul (Nat.sub c ew) sz=o' from ho.symm,kD,kD,dm,gp (show Nat.add o' (Nat.mul n sz)<=cs.length from cX)];show bounds n n _ _ none _=_;rw[qa h hl (cG _)];show aN (Value.slice (some ⟨b,o'+0*sz,none⟩) (j-0) (c+0)) (s.aY b)=_;rw[IY];rfl
theorem WO.aeq [ht:TT E t e sz α enc](hx:Ev l x (.slice a p.length c))(ho:Ev l o (.int k (i:Int)))(hm:It.aQ (.slice a p.length c) e sz (ai (sz:=sz) p)∈L)(hj:i<=p.length)
  (h:∀m,K (.slice a i c) L m m (λb=>b∈aj a) Z):WO E X Γ l (.slice t x none (some o) none) L K:=λtm s hl hi=>by
 have h1:∀b∈aj a,FT Γ s b:=λb hb=>hi.may hm (by
  cases a with
  |none=>simp[aj] at hb
  |some a=>simpa[It.a8,mZ,aj] using hb)
 refine' zaq
 .exact fW.pure mG ⟨L,_,Z,hi,kP.id,h _⟩
 .exact fW.pure mG ⟨L,_,Z,hi.aY (h1 b lD),db (h1 b lD).1 lD,by rw[cz];exact h _⟩
theorem nb:∀p q:List α,ai (sz:=sz) (p++q)=ai (sz:=sz) p++ai (sz:=sz) q
 |[],q=>rfl
 |x::p,q=>by rw[yv,dJ,dJ,nb p q,ku]
theorem WO.Tt {c2:Nat}[ht:TT E t e sz α enc][ht2:TT E t2 e sz α enc](hx:Ev l x (.slice a i c))(hy:Ev l y (.slice a2 q.length c2))(hr:O8 (.aQ (.slice a p.length c) e sz (ai (sz:=sz) p)) L R)(hs:jB Γ L a2 q.length sz (ai (sz:=sz) q))(hn:i<=p.length/\i+q.length<=1000000)
  (k:∀b b' a' c',jX L b->b<=b'->(∀i∈aj a',i∈aj a\/i=b)->K (.slice a' (p.take i++q).length c') (.aQ (.slice a' (p.take i++q).length c') e sz (ai (sz:=sz) (p.take i++q))::R) b b' (λi=>i∈aj a2\/i∈aj a\/i=b) (λi=>i∈aj a\/i=b)):WO E X Γ l (.call ⟨.builtin .append,⟨[x,y]⟩,⟨[t,t2]⟩⟩) L K:=by
 obtain⟨z,h1,d,h2⟩:=ht.h;obtain⟨z2,h3,d2,h4⟩:=ht2.h;have hz:z2=z:=by
  refine' za3
 subst hz;refine WO.aoX (ht:=h1) (ht2:=h3) (cs:=ai (sz:=sz) (p.take i)) hx hy hr (λs h=>by have:=h.front hn.1;rwa [pZ] at this) hs (AK _) hn.2 λb b' a' c' h5 h5' h6=>?_
 have:=k b b' a' c' h5 h5' h6;rw[bL,cW,As hn.1,nb] at this;exact this
end
variable {κ ν:Type}{vf:ν->Value}{fv:Operand}{z:Value}{g:FuncId}{fi ca ws:a6}{ys:List Operand}
class Hn (E:ig)(t:TypeId)(z:outParam Value):Prop where
 h:∃kt e,ji E t=some (.map kt e)/\ji E kt=some .string/\zero E e=some z
class Ro (E:ig)(t:TypeId)(z:outParam Value):Prop where
 h:∃kt e k,ji E t=some (.map kt e)/\ji E kt=some (.int k)/\zero E e=some z
class Rp (E:ig)(t:TypeId):Prop where
 h:∃d,ji E t=some d/\isIface d=false
class aer (E:ig)(t:TypeId):Prop where
 h:∃u,ji E t=some (.pointer u)
section
variable [DecidableEq κ]
def dz:List (κ×ν)->κ->Option ν
 |[],_=>none
 |p::m,k=>if k=p.1 then some p.2 else dz m k
def eB:List (κ×ν)->κ->ν->List (κ×ν)
 |[],k,v=>[(k,v)]
 |p::m,k,v=>if k=p.1 then(k,v)::m else p::eB m k v
def od (kf:κ->Value)(vf:ν->Value)(m:List (κ×ν)):List (Value×Value):=m.map λp=>(kf p.1,vf p.2)
theorem og:∀(m:List (κ×ν))(k k':κ)(v:ν),dz (eB m k v) k'=if k'=k then some v else dz m k'
 |[],k,k',v=>by
  unfold eB dz;split<;>rfl
 |p::m,k,k',v=>by
  unfold eB;by_cases h:k=p.1
  .rw[if_pos h];unfold dz;by_cases h':k'=k
   .rw[if_pos h',if_pos h']
   .rw[if_neg h',if_neg h',if_neg (by rw[<-h];exact h')]
  .rw[if_neg h];unfold dz;by_cases h2:k'=p.1
   .rw[if_pos h2,if_pos h2,if_neg (λe=>h (e.symm.trans h2))]
   .rw[if_neg h2,if_neg h2,og m k k' v]
variable {kf:κ->Value}
theorem AN (hk:∀a b,kE (kf a) (kf b)=some (decide (a=b)))(k:κ):∀m:List (κ×ν),ss (kf k) (od kf vf m)=some ((dz m k).map vf)
 |[]=>rfl
 |p::m=>by
  show ob (kE (kf k) (kf p.1)) (λb=>bo b (some (some (vf p.2))) (ss (kf k) (od kf vf m)))=_;rw[hk,AN hk k m];show _=some ((if k=p.1 then some p.2 else dz m k).map vf);by_cases h:k=p.1
  .rw[if_pos h,bY h];rfl
  .rw[if_neg h,eI h];rfl
theorem LL (hk:∀a b,kE (kf a) (kf b)=some (decide (a=b)))(k:κ)(v:ν):∀m:List (κ×ν),(dz m k).isSome=true->OF (kf k) (vf v) (od kf vf m)=some (od kf vf (eB m k v))
 |[],h=>by cases h
 |p::m,h=>by
  show ob (kE (kf k) (kf p.1)) (λb=>bo b (some ((kf k,vf v)::od kf vf m)) (ob (OF (kf k) (vf v) (od kf vf m)) λr=>some ((kf p.1,vf p.2)::r)))=_;rw[hk];unfold dz at h;unfold eB;by_cases h':k=p.1
  .rw[if_pos h'];simp only[h',decide_true];rfl
  .rw[if_neg h'] at h;rw[if_neg h',LL hk k v m h];simp only[h',decide_false];rfl
theorem LM (k:κ)(v:ν):∀m:List (κ×ν),dz m k=none->od kf vf m++[(kf k,vf v)]=od kf vf (eB m k v)
 |[],h=>rfl
 |p::m,h=>by
  unfold dz at h;unfold eB;by_cases h':k=p.1
  .rw[if_pos h'] at h;cases h
  .rw[if_neg h'] at h;rw[if_neg h'];show(kf p.1,vf p.2)::(od kf vf m++[(kf k,vf v)])=_;rw[LM k v m h];rfl
theorem LN (a b:List UInt8):kE (sv a) (sv b)=some (decide (a=b)):=by show some (gB a b)=_;rw[eY];by_cases h:a=b<;>simp[h]
theorem Tv (a b:Int):kE (iv a) (iv b)=some (decide (a=b)):=by
 show dZ (qo .i64 .i64) (some (yK a b))=_;rw[jN];by_cases h:a=b
 .subst h;simp;rfl
 .rw[show(a== b)=false by simpa using h,eI h];rfl
end
section
variable {o:Operand}{b:Nat}[DecidableEq κ]{kf:κ->Value}{m:List (κ×ν)}{k:κ}{v d:ν}
theorem WO.makeMap (h:∀b,jX L b->K (.map (some b)) (.lz b (.map [])::L) b (b+1) (λi=>i=b) (λi=>i=b)):WO E X Γ l (.makeMap t none) L K:=
 WO.news (mk:=λb=>.map (some b)) (ob:=λ_=>.map []) (it:=λb=>.lz b (.map [])) (λtm s call hl _=>rfl) (λs b h=>h) (λb=>rfl) h
theorem Pj {kt e:TypeId}{kd:TypeDesc}(h1:ji E t=some (.map kt e))(h2:ji E kt=some kd)(h3:yN E kt kd (kf k)=true)(h4:zero E e=some z)(hk:∀a b,kE (kf a) (kf b)=some (decide (a=b)))(hz:vf d=z){o:gV}(ho:o= .map (od kf vf m))(hg:s.heap.get b=some o)(ok:Bool):
  yP E s t (.map (some b)) (kf k) ok=some (bo ok (.tuple ⟨[vf ((dz m k).getD d),.bool (dz m k).isSome]⟩) (vf ((dz m k).getD d)),s.aY b):=by
 subst ho;unfold yP;rw[h1];show ob (ji E kt) _=_;rw[h2];show dZ (yN E kt kd (kf k)) _=_;rw[h3,eG,h4];show ob (s.look b) _=_;unfold St.look;rw[hg];show ob (ss (kf k) (od kf vf m)) _=_;rw[AN hk];cases dz m k with
 |none=>rw[<-hz];rfl
 |some v=>rfl
theorem WO.WX {kt e:TypeId}{kd:TypeDesc}(h1:ji E t=some (.map kt e))(h2:ji E kt=some kd)(h3:yN E kt kd (kf k)=true)(h4:zero E e=some z)(hk:∀a b,kE (kf a) (kf b)=some (decide (a=b)))(hz:vf d=z)(hx:Ev l x (.map (some b)))(hy:Ev l y (kf k))(hm:It.lz b (.map (od kf vf m))∈L)(ok:Bool)
  (h:∀n,K (bo ok (.tuple ⟨[vf ((dz m k).getD d),.bool (dz m k).isSome]⟩) (vf ((dz m k).getD d))) L n n (λi=>i=b) Z):WO E X Γ l (.lookup t x y ok) L K:=λtm s hl hi=>by
 have lH:=hi.may hm (b:=b) (by simp[It.a8]);refine fW.pure (v:=bo ok (.tuple ⟨[vf ((dz m k).getD d),.bool (dz m k).isSome]⟩) (vf ((dz m k).getD d))) (s':=s.aY b) (λcall=>?_) ⟨L,(λi=>i=b),Z,hi.aY lH,db lH.1 rfl,by rw[cz];exact h _⟩;show yP E s t (aO tm x) (aO tm y) ok=_;rw[hx.eval hl,hy.eval hl];exact Pj h1 h2 h3 h4 hk hz rfl (hi.it _ hm) ok
theorem WO.aes {kt e:TypeId}{kd:TypeDesc}(h1:ji E t=some (.map kt e))(h2:ji E kt=some kd)(h3:yN E kt kd (kf k)=true)(hk:∀a b,kE (kf a) (kf b)=some (decide (a=b)))(hx:Ev l x (.map (some b)))(hy:Ev l y (kf k))(hw:Ev l o (vf v))(hu:zd (.lz b (.map (od kf vf m))) (.lz b (.map (od kf vf (eB m k v)))) L L')
  (h:∀n,K (.tuple ⟨[]⟩) L' n n (λi=>i=b) (λi=>i=b)):WO E X Γ l (.mapUpdate t x y o) L K:=λtm s hl hi=>by
 obtain⟨R,p1,p2⟩:=hu.cZ;have hm:It.lz b (.map (od kf vf m))∈L:=p1.mem_iff.2 ay;have lH:=hi.may hm (b:=b) (by simp[It.a8]);refine fW.pure (v:=.tuple ⟨[]⟩) (s':=s.put b (some (.map (od kf vf (eB m k v))))) (λcall=>?_) ⟨L',(λi=>i=b),(λi=>i=b),hi.put hu rfl rfl (by show T.get (St.heap _) b=_;simp),j6 lH.1 rfl rfl,by rw[eh];exact h _⟩;show ti E s t (aO tm x) (aO tm y) (aO tm o)=_;rw[hx.eval hl,hy.eval hl,hw.eval hl];unfold ti;rw[h1];show ob (ji E kt) _=_;rw[h2];show dZ (yN E kt kd (kf k)) _=_;rw[h3,eG];show ob (s.look b) _=_;have hg:s.heap.get b=some (.map (od kf vf m)):=hi.it _ hm;unfold St.look;rw[hg];show ob (ss (kf k) (od kf vf m)) _=_;rw[AN hk];cases ha:dz m k with
 |none=>
  show aN (Value.tuple ⟨[]⟩) (s.put b (some (.map (od kf vf m++[(kf k,vf v)]))))=_;rw[LM k v m ha];rfl
 |some w=>
  show ob (OF (kf k) (vf v) (od kf vf m)) _=_;rw[LL hk k v m (by rw[ha];rfl)];rfl
omit [DecidableEq κ] in
theorem WO.aet {kt e:TypeId}(h1:ji E t=some (.map kt e))(hx:Ev l x (.map (some b)))(hm:It.lz b (.map (od kf vf m))∈L)
  (h:∀n,K (iv (m.length:Int)) L n n (λi=>i=b) Z):WO E X Γ l (.call ⟨.builtin .len,⟨[x]⟩,⟨[t]⟩⟩) L K:=λtm s hl hi=>by
 have lH:=hi.may hm (b:=b) (by simp[It.a8]);refine fW.pure (v:=iv (m.length:Int)) (s':=s.aY b) (λcall=>?_) ⟨L,(λi=>i=b),Z,hi.aY lH,db lH.1 rfl,by rw[cz];exact h _⟩;show su E s .len [t] (aO tm x)=_;rw[hx.eval hl];show Cs E s t b=_;have hg:s.heap.get b=some (.map (od kf vf m)):=hi.it _ hm;unfold Cs;rw[h1];show ob (s.look b) _=_;unfold St.look;rw[hg];show aN (Value.int .i64 (.ofNat (ec (od kf vf m)))) (s.aY b)=_;rw[dm];unfold od;rw[td];rfl
end
section
variable {o:Operand}{b:Nat}
abbrev mII (m:List (Int×Int)):gV:=.map (od iv iv m)
abbrev mSI (m:List (List UInt8×Int)):gV:=.map (od sv iv m)
abbrev mSB (m:List (List UInt8×Bool)):gV:=.map (od sv Value.bool m)
theorem WO.aeu [ht:Ro E t (iv 0)]{m:List (Int×Int)}{k:Int}(hx:Ev l x (.map (some b)))(hy:Ev l y (iv k))(hm:It.lz b (mII m)∈L)(h:∀n,K (iv ((dz m k).getD 0)) L n n (λi=>i=b) Z):WO E X Γ l (.lookup t x y false) L K:=by obtain⟨kt,e,kd,h1,h2,h3⟩:=ht.h;exact WO.WX h1 h2 rfl h3 Tv rfl hx hy hm false h
theorem WO.aev [ht:Hn E t (iv 0)]{m:List (List UInt8×Int)}{k:List UInt8}(hx:Ev l x (.map (some b)))(hy:Ev l y (sv k))(hm:It.lz b (mSI m)∈L)(h:∀n,K (iv ((dz m k).getD 0)) L n n (λi=>i=b) Z):WO E X Γ l (.lookup t x y false) L K:=by obtain⟨kt,e,h1,h2,h3⟩:=ht.h;exact WO.WX h1 h2 rfl h3 LN rfl hx hy hm false h
theorem WO.aew [ht:Hn E t (.bool false)]{m:List (List UInt8×Bool)}{k:List UInt8}(hx:Ev l x (.map (some b)))(hy:Ev l y (sv k))(hm:It.lz b (mSB m)∈L)(h:∀n,K (.bool ((dz m k).getD false)) L n n (λi=>i=b) Z):WO E X Γ l (.lookup t x y false) L K:=by obtain⟨kt,e,h1,h2,h3⟩:=ht.h;exact WO.WX h1 h2 rfl h3 LN rfl hx hy hm false h
theorem WO.ahA {z:Value}[ht:Ro E t z]{m:List (Int×Int)}{k v:Int}(hx:Ev l x (.map (some b)))(hy:Ev l y (iv k))(hw:Ev l o (iv v))(hu:zd (.lz b (mII m)) (.lz b (mII (eB m k v))) L L')(h:∀n,K (.tuple ⟨[]⟩) L' n n (λi=>i=b) (λi=>i=b)):WO E X Γ l (.mapUpdate t x y o) L K:=by obtain⟨kt,e,kd,h1,h2,h3⟩:=ht.h;exact WO.aes h1 h2 rfl Tv hx hy hw hu h
theorem WO.ahB {z:Value}[ht:Hn E t z]{m:List (List UInt8×Int)}{k:List UInt8}{v:Int}(hx:Ev l x (.map (some b)))(hy:Ev l y (sv k))(hw:Ev l o (iv v))(hu:zd (.lz b (mSI m)) (.lz b (mSI (eB m k v))) L L')(h:∀n,K (.tuple ⟨[]⟩) L' n n (λi=>i=b) (λi=>i=b)):WO E X Γ l (.mapUpdate t x y o) L K:=by obtain⟨kt,e,h1,h2,h3⟩:=ht.h;exact WO.aes h1 h2 rfl LN hx hy hw hu h
theorem WO.ahC {z:Value}[ht:Hn E t z]{m:List (List UInt8×Bool)}{k:List UInt8}{v:Bool}(hx:Ev l x (.map (some b)))(hy:Ev l y (sv k))(hw:Ev l o (.bool v))(hu:zd (.lz b (mSB m)) (.lz b (mSB (eB m k v))) L L')(h:∀n,K (.tuple ⟨[]⟩) L' n n (λi=>i=b) (λi=>i=b)):WO E X Γ l (.mapUpdate t x y o) L K:=by obtain⟨kt,e,h1,h2,h3⟩:=ht.h;exact WO.aes h1 h2 rfl LN hx hy hw hu h
theorem WO.ahD {z:Value}[ht:Ro E t z]{m:List (Int×Int)}(hx:Ev l x (.map (some b)))(hm:It.lz b (mII m)∈L)(h:∀n,K (iv (m.length:Int)) L n n (λi=>i=b) Z):WO E X Γ l (.call ⟨.builtin .len,⟨[x]⟩,⟨[t]⟩⟩) L K:=by obtain⟨kt,e,kd,h1,h2,h3⟩:=ht.h;exact WO.aet h1 hx hm h
theorem AO:∀vs:a6,kA l (vs.map Operand.const) vs
 |[]=>.nil
 |v::vs=>.cons .const (AO vs)
theorem WO.alr (hf:Ev l fv (.func (.func g) ⟨fi⟩ ⟨ca⟩))(hx:kA l xs vs)(k:WO E X Γ l (.call ⟨.value (.func g),⟨(fi++(vs++ca)).map Operand.const⟩,ts⟩) L K):WO E X Γ l (.call ⟨.value fv,⟨xs⟩,ts⟩) L K:=λtm s hl hi=>by
 obtain⟨N,v,s',hk,hr⟩:=k tm s hl hi;refine⟨N,v,s',hk,λn hn lf Ce=>(?_:_=_).trans (hr n hn lf Ce)⟩;generalize pH E X lf [] n=call;show xy call (aO tm fv) (xw (aO tm) xs) s=xy call (.func (.func g) #[] #[]) (xw (aO tm) ((fi++(vs++ca)).map Operand.const)) s;rw[hf.eval hl,rk,rk,hx.eval hl,(AO _).eval hl];show call g _ s=call g _ s;simp
theorem WO.invoke {mn:String}{it:TypeId}{a:Addr}(hr:Ev l fv (.iface it (.pointer (some a))))(hm:mh it mn E.sk=some g)(hx:kA l xs vs)(k:WO E X Γ l (.call ⟨.value (.func g),⟨(Value.pointer (some a)::vs).map Operand.const⟩,ts⟩) L K):WO E X Γ l (.call ⟨.invoke fv mn,⟨xs⟩,ts⟩) L K:=λtm s hl hi=>by
 obtain⟨N,v,s',hk,SV⟩:=k tm s hl hi;refine⟨N,v,s',hk,λn hn lf Ce=>(?_:_=_).trans (SV n hn lf Ce)⟩;generalize pH E X lf [] n=call;show Ct E call (aO tm fv) mn (xw (aO tm) xs) s=xy call (.func (.func g) #[] #[]) (xw (aO tm) ((Value.pointer (some a)::vs).map Operand.const)) s;rw[hr.eval hl,rk,rk,hx.eval hl,(AO _).eval hl];unfold Ct;show ob (mh it mn E.sk) _=_;rw[hm];show call g _ s=call g _ s;simp
theorem WO.makeFunc {fn:Fn}(hx:kA l xs vs)(hy:kA l ys ws)(k:∀n,K (.func fn ⟨vs⟩ ⟨ws⟩) L n n Z Z):WO E X Γ l (.makeFunc fn ⟨xs⟩ ⟨ys⟩) L K:=WO.val (λtm s call hl=>by
 show aN (Value.func fn ⟨xw (aO tm) xs⟩ ⟨xw (aO tm) ys⟩) s=_;rw[rk,rk,hx.eval hl,hy.eval hl];rfl) k
theorem WO.Ho [ht:Rp E t]{v:Value}(hx:Ev l x v)(k:∀n,K (.iface t v) L n n Z Z):WO E X Γ l (.makeInterface t x) L K:=WO.val (λtm s call hl=>by
 show OH E t (aO tm x) s=_;rw[hx.eval hl];obtain⟨d,h1,h2⟩:=ht.h;unfold OH;rw[h1];show dZ (!isIface d) _=_;rw[h2];rfl) k
theorem WO.nilFunc {f:FuncId}{a b:Array Value}(hx:Ev l x (.func (.func f) a b))(k:∀n,K (.func (.func f) a b) L n n Z Z):WO E X Γ l (.nilCheck x) L K:=WO.val (λtm s call hl=>by
 show GW E (aO tm x) s=_;rw[hx.eval hl];rfl) k
theorem WO.WY [ht:aer E t]{t2:TypeId}{p:aM}(hx:Ev l x (.pointer p))(hy:Ev l y (.pointer none))(k:∀n,K (.bool p.isNone) L n n Z Z):WO E X Γ l (.binOp .eql t x y t2) L K:=WO.bin hx hy (λcc=>by
 obtain⟨u,h1⟩:=ht.h;show ob (ji E t) (λd=>C9 .eql (eqV E d (.pointer p) (.pointer none)))=_;rw[h1];cases p<;>rfl) k
end
section
variable {o:Operand}{b p:Nat}{z:List UInt8}
theorem WO.afd [ht:zc E t](hx:Ev l x (sv z))(h:∀b,jX L b->K (.pointer (some ⟨b,0,none⟩)) (.lz b (.lQ z 0)::L) b (b+1) (λi=>i=b) (λi=>i=b)):WO E X Γ l (.range t x) L K:=
 WO.news (mk:=λb=>.pointer (some ⟨b,0,none⟩)) (ob:=λ_=>.lQ z 0) (it:=λb=>.lz b (.lQ z 0)) (λtm s call hl _=>by
   show I0 E s t (aO tm x)=_;rw[hx.eval hl];unfold I0;rw[ht.h];rfl) (λs b h=>h) (λb=>rfl) h
theorem WO.afe (hx:Ev l x (.pointer (some ⟨b,0,none⟩)))(hu:zd (.lz b (.lQ z p)) (.lz b (.lQ z (p+1))) L L')(hp:p<z.length)(hc:(z.getD p 0).toNat<128)(h:∀n,K (.tuple ⟨[.bool true,iv (p:Int),.int .i32 ((z.getD p 0).toNat:Int)]⟩) L' n n (λi=>i=b) (λi=>i=b)):WO E X Γ l (.next x true) L K:=λtm s hl hi=>by
 obtain⟨R,p1,p2⟩:=hu.cZ;have hm:It.lz b (.lQ z p)∈L:=p1.mem_iff.2 ay;have lH:=hi.may hm (b:=b) (by simp[It.a8]);have hg:s.heap.get b=some (.lQ z p):=hi.it _ hm;have hn:jj z p=some (z.getD p 0):=by
  rw[dR,bd hp,aZ,bd hp];rfl
 refine fW.pure (v:=.tuple ⟨[.bool true,iv (p:Int),.int .i32 ((z.getD p 0).toNat:Int)]⟩) (s':=s.put b (some (.lQ z (p+1)))) (λcall=>?_) ⟨L',(λi=>i=b),(λi=>i=b),hi.put hu rfl rfl (by show T.get (St.heap _) b=_;simp),j6 lH.1 rfl rfl,by rw[eh];exact h _⟩;show K1 s (aO tm x) true=_;rw[hx.eval hl];show ob (s.look b) _=_;unfold St.look;rw[hg];show dZ true (GV s b z p)=_;rw[eG];unfold GV;rw[hn];show dZ (Nat.ble (Nat.succ (z.getD p 0).toNat) 128) _=_;rw[gp (show Nat.succ (z.getD p 0).toNat<=128 by omega)];rfl
theorem WO.aff (hx:Ev l x (.pointer (some ⟨b,0,none⟩)))(hm:It.lz b (.lQ z p)∈L)(hp:z.length<=p)(h:∀n,K (.tuple ⟨[.bool false]⟩) L n n (λi=>i=b) Z):WO E X Γ l (.next x true) L K:=λtm s hl hi=>by
 have lH:=hi.may hm (b:=b) (by simp[It.a8]);have hg:s.heap.get b=some (.lQ z p):=hi.it _ hm;refine fW.pure (v:=.tuple ⟨[.bool false]⟩) (s':=s.aY b) (λcall=>?_) ⟨L,(λi=>i=b),Z,hi.aY lH,db lH.1 rfl,by rw[cz];exact h _⟩;show K1 s (aO tm x) true=_;rw[hx.eval hl];show ob (s.look b) _=_;unfold St.look;rw[hg];show dZ true (GV s b z p)=_;rw[eG];unfold GV;rw[show jj z p=none by rw[dR,sh hp]];rfl
end
section
variable {a:aM}{p:List α}
theorem WO.aaZ [ht:aer E t](hx:Ev l x (dr a i sz j))(hy:Ev l y (.pointer none))(hh:jB Γ L a n sz (ai (sz:=sz) p))(hi:i<p.length)(k:∀n,K (.bool false) L n n Z Z):WO E X Γ l (.binOp .eql t x y t2) L K:=λtm s hl h2=>by
 obtain⟨b,o,_,_,_,rfl,_⟩:=(hh.row h2).1.at_ hi;exact WO.WY (p:=some ⟨b,o+(i*sz+j),none⟩) (ht:=ht) hx hy k tm s hl h2
theorem WO.aaY (hx:Ev l x (dr a i sz j))(hh:jB Γ L a n sz (ai (sz:=sz) p))(hi:i<p.length)(k:∀n,K (dr a i sz j) L n n Z Z):WO E X Γ l (.nilCheck x) L K:=λtm s hl h2=>by
 obtain⟨b,o,_,_,_,rfl,_⟩:=(hh.row h2).1.at_ hi;refine fW.pure (v:=dr (some ⟨b,o,none⟩) i sz j) (s':=s) (λcall=>?_) ⟨L,Z,Z,h2,kP.id,k _⟩;show GW E (aO tm x) s=_;rw[hx.eval hl];rfl
end
theorem WO.alM (hx:Ev l x (sv p))(hy:Ev l y (sv q))(h:∀n,K (.bool (!(Op.bytesLess q p))) L n n Z Z):WO E X Γ l (.binOp .leq t x y t2) L K:=WO.bin hx hy (λcc=>by
 show some (Value.bool (bo (oG p q) true (gB p q)))=_;rw[tt,eY,<-qF p q];have:∀a b:Bool,bo a true b=(a||b):=by intro a b;cases a<;>rfl
 rw[this,Bool.not_not]
 congr 3
 rw[po];simp) h
section
variable {o:Operand}
theorem WO.aa1 {mn:String}{it:TypeId}{a:Addr}{g:FuncId}{c:Array Value}(hx:Ev l x (.func (.method mn) ⟨[.iface it (.pointer (some a))]⟩ c))(hm:mh it mn E.sk=some g)(k:∀n,K (.func (.method mn) ⟨[.iface it (.pointer (some a))]⟩ c) L n n Z Z):WO E X Γ l (.nilCheck x) L K:=WO.val (λtm s call hl=>by
 show GW E (aO tm x) s=_;rw[hx.eval hl];show ob (mh it mn E.sk) _=_;rw[hm];rfl) k
end
variable {c':Nat}
section
variable {o:Operand}{a:aM}{c:Nat}{p q:List α}
theorem WO.aeY {cs:a6}[ht:TT E t e sz α enc](hx:Ev l x (.slice a n c))(ho:Ev l o (.int k (i:Int)))(hm:It.aQ (.slice a n c) e sz cs∈L)(hj:i<=n)
  (h:∀m a' c',DO sz a i (n-i) a'->K (.slice a' (n-i) c') L m m (λb=>b∈aj a) Z):WO E X Γ l (.slice t x (some o) none none) L K:=λtm s hl hi=>by
 have h1:∀b∈aj a,FT Γ s b:=λb hb=>hi.may hm (by
  cases a with
  |none=>simp[aj] at hb
  |some a=>simpa[It.a8,mZ,aj] using hb)
 have hv:=xL.slv (hi.it _ hm) λb hb=>(h1 b hb).1
 obtain⟨a',c',s',h2,h3,h4,h5⟩:=CG (ht:=ht) (i:=i) (j:=n) (lo:=some o) (hi:=none) ⟨.inr ⟨o,k,rfl,ho⟩,.inl ⟨rfl,rfl⟩,ag⟩ hl hv;have mG:∀call:eX,FK E call (aO tm) s (.slice t x (some o) none none)=some (.slice a' (n-i) c',s'):=λcall=>by
  show kv E s t (aO tm x) _ _ none=_;rw[hx.eval hl,h2]
 rcases h3 with rfl|⟨b,lD,rfl⟩
 .exact fW.pure mG ⟨L,_,Z,hi,kP.id,h _ _ _ h4⟩
 .exact fW.pure mG ⟨L,_,Z,hi.aY (h1 b lD),db (h1 b lD).1 lD,by rw[cz];exact h _ _ _ h4⟩
theorem WO.X2 {cs:a6}[ht:TT E t e sz α enc](hx:Ev l x (.slice a n c))(ho:Ev l o (.int k (i:Int)))(hm:It.aQ (.slice a n c) e sz cs∈L)(hj:i<=n)
  (h:∀m,K (.slice a i c) L m m (λb=>b∈aj a) Z):WO E X Γ l (.slice t x none (some o) none) L K:=λtm s hl hi=>by
 have h1:∀b∈aj a,FT Γ s b:=λb hb=>hi.may hm (by
  cases a with
  |none=>simp[aj] at hb
  |some a=>simpa[It.a8,mZ,aj] using hb)
 refine' zaq
 .exact fW.pure mG ⟨L,_,Z,hi,kP.id,h _⟩
 .exact fW.pure mG ⟨L,_,Z,hi.aY (h1 b lD),db (h1 b lD).1 lD,by rw[cz];exact h _⟩
theorem WO.aeZ {n0:Nat}{d:α}[ht:TT E t e sz α enc][hd:TD E t sz α enc d](hx:Ev l x (.slice a' n c'))(hs:DO sz a i n a')(hu:zd (.aQ (.slice a n0 c) e sz (ai (sz:=sz) p)) (.aQ (.slice a n0 c) e sz (ai (sz:=sz) (p.take i++List.replicate n d++p.drop (i+n)))) L L')(hn:i+n<=p.length)
  (h:∀m,K (.tuple ⟨[]⟩) L' m m (λb=>b∈aj a) (λb=>b∈aj a)):WO E X Γ l (.call ⟨.builtin .clear,⟨[x]⟩,⟨[t]⟩⟩) L K:=λtm s hl hi=>by
 obtain⟨z,DR,_⟩:=ht.h;obtain⟨Vq,ii,z1,KC,tA,hi3,KE,hi5,hi6,hi7⟩:=DR.h;obtain⟨e',z',tZ,hdz⟩:=hd.h;obtain⟨alU,ii',z1',ai0,aoa,ai1,alV,_⟩:=tZ.h;have hee:e'=e:=by
  have:=alU.symm.trans Vq;injection this with this
  injection this
 subst hee;rw[KC] at ai0;cases ai0;rw[hi3] at ai1;cases ai1;have hzd:cg z1=ak.cells (sz:=sz) d:=by rw[hdz,<-alV]
 obtain⟨R,p1,p2⟩:=hu.cZ;have hm:It.aQ (.slice a n0 c) e' sz (ai (sz:=sz) p)∈L:=p1.mem_iff.2 ay;have nZ:∀call:eX,FK E call (aO tm) s (.call ⟨.builtin .clear,⟨[x]⟩,⟨[t]⟩⟩)=Aw E s [t] (.slice a' n c'):=λcall=>by
  show su E s .clear [t] (aO tm x)=_;rw[hx.eval hl];rfl
 rcases wD n with yw|yw
 .subst yw;have e1:p.take i++List.replicate 0 d++p.drop (i+0)=p:=by simp
  have e2:L.Perm L':=by rw[e1] at p2;exact p1.trans p2.symm
  have uV:Aw E s [t] (.slice a' 0 c')=some (.tuple ⟨[]⟩,s):=by
   cases a' with
   |none=>
    show Ev.elemOf E (jj [t] 0) (λ_=>aN (Value.tuple ⟨[]⟩) s)=_;unfold Ev.elemOf;show ob (some t) _=_;rw[cu,Vq];rfl
   |some a'=>
    obtain⟨b,o',r⟩:=a';show Ev.elemOf E (jj [t] 0) (λe=>bo (Nat.beq 0 0) (aN (Value.tuple ⟨[]⟩) s) _)=_;unfold Ev.elemOf;show ob (some t) _=_;rw[cu,Vq];rfl
  exact fW.pure (λcall=>(nZ call).trans uV) ⟨L',(λi=>i∈aj a),(λi=>i∈aj a),hi.cZ e2,kP.id,h _⟩
 .rcases hi.it _ hm with⟨h3,h4⟩|⟨b,n',k',w,aS,h3,h4,h5,h6⟩
  .exfalso;have rS:=bp (sz:=sz) p;rw[h4] at rS;have h7:0<p.length*sz:=Nat.mul_pos ag ag;simp at rS;omega
  .cases h3
   have ha':a'=some ⟨b,0+i*sz,none⟩:=by
    rcases hs.h with h|⟨h,_⟩
    .exact h
    .omega
   subst ha';have dG:=(hi.may hm (b:=b) (by simp[It.a8,mZ]));have hr:=hi.aY dG;have rS:=bp (sz:=sz) p;(have cX:i*sz+n*sz<=p.length*sz:=by rw[<-mM];exact KM _ hn);have alW:lY (cg z1) n=ai (sz:=sz) (List.replicate n d):=by rw[hzd,DK]
   have dM:fT (0+i*sz) (lY (cg z1) n) (ai (sz:=sz) p)=some (ai (sz:=sz) (p.take i++List.replicate n d++p.drop (i+n))):=by
    rw[alW,mU,xQ _ _ _ (by rw[bp,qX,rS];exact cX),nb,nb,<-pZ,<-sJ,bp,qX,mM]
   (have Cg:jE (cg z1)=true:=by rw[hzd];exact(mA _).2 (enc.fl d));(have hp2:(p.take i++List.replicate n d++p.drop (i+n)).length=p.length:=by rw[bL,bL,cW,qX,eW];omega);refine fW.pure (v:=.tuple ⟨[]⟩) (s':=(s.aY b).put b (some (.cells (ai (sz:=sz) (p.take i++List.replicate n d++p.drop (i+n))++aS) e' w))) (λcall=>(nZ call).trans ?_) ⟨L',(λi=>i∈aj (some ⟨b,0,none⟩)),(λi=>i∈aj (some ⟨b,0,none⟩)),hr.put hu rfl rfl ?_,(kP.trans (db dG.1 (by simp[aj])) (j6 (by simpa using dG.1) (by simp[aj]) (by simp[aj]))),by rw[eh,cz];exact h _⟩
   .unfold Aw Ev.elemOf;show ob (some t) _=_;rw[cu,Vq];show bo (Nat.beq n 0) _ _=_;rw[WI yw];show dZ true _=_;rw[eG];unfold St.row St.look;rw[h4,cu];show ob (size E e') _=_;have RJ:size E e'=some sz:=by unfold size;rw[KC];simp[tA]
    (have hze:zero E e'=some z1:=by unfold zero;rw[KC];simp[hi3]);rw[RJ,cu,hze,cu,dm,show(cg z1).length=sz by rw[KE];exact hi5,kD,gp hi6,Cg];show ob (fT (0+i*sz) (lY (cg z1) n) (ai (sz:=sz) p++aS)) _=_;rw[aoE aS _ _ _ _ dM];rfl
   .exact .inr ⟨b,_,_,w,aS,rfl,by show T.get (St.heap _) b=_;simp,by rw[bp,hp2,<-rS];exact h5,aoK h6 (by rw[bp,bp,hp2])⟩
end
section
variable {o:Operand}{b:Nat}{enc:ak UInt8 1}{z u:List UInt8}
theorem WO.alX [ht:TT E t e 1 UInt8 enc](hx:Ev l x (.slice (some ⟨b,0,none⟩) z.length ew))(ho:Ev l o (.int k (i:Int)))(hm:It.box b (ai z) e false∈L)(hj:i<z.length)
  (h:∀m,K (.slice (some ⟨b,i,none⟩) (z.length-i) (ew+i)) L m m (λc=>c=b) Z):WO E X Γ l (.slice t x (some o) none none) L K:=λtm s hl hi=>by
 obtain⟨zz,hr,_⟩:=ht.h;obtain⟨hu,ii,z1,KC,tA,hi3,KE,hi5,hi6,hi7⟩:=hr.h;have jd:size E e=some 1:=by unfold size;rw[KC];simp[tA]
 have h1:=hi.may hm (b:=b) (by simp[It.a8]);have hg:s.heap.get b=some (.cells (ai z) e false):=hi.it _ hm;have alY:WU l z.length (some o) none i z.length:=⟨.inr ⟨o,k,rfl,ho⟩,.inl ⟨rfl,rfl⟩,ag⟩;refine fW.pure (v:=.slice (some ⟨b,i,none⟩) (z.length-i) (ew+i)) (s':=s.aY b) (λcall=>?_) ⟨L,(λc=>c=b),Z,hi.aY h1,db h1.1 rfl,by rw[cz];exact h _⟩;show kv E s t (aO tm x) (dH (aO tm) (some o)) (dH (aO tm) none) none=_;rw[hx.eval hl];unfold kv;rw[hu];show dZ (IZ (some ⟨b,0,none⟩)) (ob (size E e) λsz=>bo (Nat.ble ew ew) (bo (nS (dH (aO tm) (some o)) (dH (aO tm) none) none) (nT (some ⟨b,0,none⟩) ew s) (iJ e sz (some ⟨b,0,none⟩) z.length ew (dH (aO tm) (some o)) (dH (aO tm) none) none s)) _)=_;rw[jd];show iJ e 1 (some ⟨b,0,none⟩) z.length ew (dH (aO tm) (some o)) (dH (aO tm) none) none s=_;unfold iJ;show s.row b (λc' e' w s=>dZ (bo w true (Nat.beq 1 1)&&Nat.beq e' e&&Nat.beq 0 (Nat.mul (Nat.sub ew ew) 1)&&Nat.ble (Nat.add 0 (Nat.mul z.length 1)) (ec c')) (bounds z.length z.length (dH (aO tm) (some o)) (dH (aO tm) none) none λl h _=>_))=_;unfold St.row St.look;rw[hg];simp only[cu];rw[show Nat.mul (Nat.sub ew ew) 1=0 by show(ew-ew)*1=0;omega,dm,bp,kD,gp (show Nat.add 0 (Nat.mul z.length 1)<=z.length*1 by show 0+z.length*1<=_;omega)];rw[kD];show bounds z.length z.length _ _ none _=_;rw[qa alY hl (cG _)];show bo (Nat.beq i 0||Nat.ble (Nat.succ i) z.length) (aN (Value.slice (some ⟨b,0+i*1,none⟩) (z.length-i) (ew+i)) (s.aY b)) _=_;rw[gp (show Nat.succ i<=z.length from hj),Bool.or_true,xr,mU];rfl
theorem WO.ai2 {c:Nat}[ht:TT E t e 1 UInt8 enc](he:∀c,ak.cells c=[bv c])(hx:Ev l x (.slice (some ⟨b,i,none⟩) (z.length-i) c))(hy:Ev l y (sv u))(hu:zd (.box b (ai z) e false) (.box b (ai (z.take i++u++z.drop (i+u.length))) e false) L L')(hj:i+u.length<=z.length)
  (h:∀m,K (iv (u.length:Int)) L' m m (λc=>c=b) (λc=>c=b)):WO E X Γ l (.call ⟨.builtin .copy,⟨[x,y]⟩,⟨[t,t2]⟩⟩) L K:=λtm s hl hi=>by
 obtain⟨zz,hr,_⟩:=ht.h;obtain⟨Vq,ii,z1,KC,tA,hi3,KE,hi5,hi6,hi7⟩:=hr.h;have jd:size E e=some 1:=by unfold size;rw[KC];simp[tA]
 obtain⟨R,p1,p2⟩:=hu.cZ;have hm:It.box b (ai z) e false∈L:=p1.mem_iff.2 ay;have h1:=hi.may hm (b:=b) (by simp[It.a8]);have hg:s.heap.get b=some (.cells (ai z) e false):=hi.it _ hm;have hrd:=hi.aY h1;have dM:fT i (strCells u) (ai z)=some (ai (z.take i++u++z.drop (i+u.length))):=by
  rw[pP u he,xQ _ _ _ (by rw[bp,bp];omega),nb,nb,<-pZ,<-sJ,bp];simp
 have hlu:(strCells u).length=u.length:=by rw[pP u he,bp,xr]
 refine fW.pure (v:=iv (u.length:Int)) (s':=(s.aY b).put b (some (.cells (ai (z.take i++u++z.drop (i+u.length))) e false))) (λcall=>?_) ⟨L',(λc=>c=b),(λc=>c=b),hrd.put hu rfl rfl (by show T.get (St.heap _) b=_;simp),(kP.trans (db h1.1 rfl) (j6 (by simpa using h1.1) rfl rfl)),by rw[eh,cz];exact h _⟩;show copyV E s [t,t2] (aO tm x) (aO tm y)=_;rw[hx.eval hl,hy.eval hl];show Ev.elemOf E (jj [t,t2] 0) (λe=>ob (size E e) λsz=>K0 s sz (sv u) λk new s=>Av sz b i (z.length-i) k new s)=_;unfold Ev.elemOf;show ob (some t) _=_;rw[cu,Vq];show ob (size E e) _=_;rw[jd];show dZ (Nat.beq 1 1) (Av 1 b i (z.length-i) (ec u) (strCells u) s)=_;rw[dm];show Av 1 b i (z.length-i) u.length (strCells u) s=_;unfold Av;have Cg:jE (strCells u)=true:=by rw[pP u he];exact(mA _).2 (AK _)
 have SM:Da u.length (z.length-i)=u.length:=by
  show bo (Nat.ble u.length (z.length-i)) u.length (z.length-i)=_;rw[gp ag];rfl
 have htk:ja (Nat.mul u.length 1) (strCells u)=some (strCells u):=by
  have:=sK (cs:=strCells u) (o:=0) (m:=u.length) (c:=strCells u) (by rw[CX];exact qW ag) hlu;rw[show Nat.mul u.length 1=u.length from xr _];exact this
 rw[Cg,eG,SM,htk,cu];unfold St.row St.look;rw[hg];simp only[cu];rw[dM];rfl
end
class YW (E:ig)(t:TypeId)(i:Nat)(off:outParam Nat):Prop where
 h:∃fs f d,ji E t=some (.struct ⟨fs⟩)/\jj fs i=some f/\ji E f.type=some d/\Au d=false/\f.offset=off
noncomputable def ajd (E:ig)(t:TypeId)(i:Nat):Option Nat:=ob (ji E t) λd=>match d with
 |.struct ⟨fs⟩=>ob (jj fs i) λf=>ob (ji E f.type) λd=>dZ (!Au d) (some f.offset)
 |_=>none
theorem abY {E:ig}{t:TypeId}{i off:Nat}(h:ajd E t i=some off):YW E t i off:=by
 obtain⟨d,h1,h2⟩:=aD h;split at h2
 .rename_i fs;obtain⟨f,h3,h4⟩:=aD h2;obtain⟨d,h5,h6⟩:=aD h4;obtain⟨h7,h8⟩:=bz h6;exact⟨fs,f,d,h1,h3,h5,by simpa using h7,ke h8⟩
 .cases h2
theorem YX {x:It}{L:bZ}(h:x∈L):zd x x L L:=by
 induction L with
 |nil=>cases h
 |cons y L ih=>
  rcases bT.1 h with rfl|h
  .exact .here
  .exact .there (ih h)
section
variable {a:aM}
theorem WO.aeA {i off:Nat}{cs:a6}{v:Value}[ht:YW E t i off](hx:Ev l x (.agg ⟨cs⟩))(hv:cs[off]?=some v)(k:∀n,K v L n n Z Z):WO E X Γ l (.field t x i) L K:=WO.val (λtm s call hl=>by
 obtain⟨fs,f,d,h1,h2,h3,h4,h5⟩:=ht.h;show I3 E s t (aO tm x) i=_;rw[hx.eval hl];unfold I3;rw[h1];show ob (jj fs i) _=_;rw[h2];show ob (ji E f.type) _=_;rw[h3];show dZ (!Au d) _=_;rw[h4,h5];show dZ true (ob (jj cs off) _)=_;rw[eG,dR,hv];rfl) k
theorem WO.xor {m n:Nat}(hx:Ev l x (iv m))(hy:Ev l y (iv n))(hm:m<4611686018427387904)(hn:n<4611686018427387904)(h:∀i,K (iv ((m^^^ n:Nat):Int)) L i i Z Z):WO E X Γ l (.binOp .xor t x y t2) L K:=WO.bin hx hy (tN rfl (by
 show dZ (Nat.ble (Nat.succ m) 4611686018427387904&&Nat.ble (Nat.succ n) 4611686018427387904) (some (Value.int .i64 (.ofNat (Nat.xor m n))))=_;rw[gp hm,gp hn];rfl)) h
theorem WO.aeB {e:Nat}{p:List UInt8}{enc:ak UInt8 1}[h1:TT E t e 1 UInt8 enc][h3:xM E e .u8](hx:Ev l x (.slice a p.length p.length))(hm:It.aQ (.slice a p.length p.length) e 1 (ai p)∈L)(hp:0<p.length)(hb:p.length<=1000000)
  (k:∀n,K (.slice a p.length p.length) L n n (λi=>i∈aj a) (λi=>i∈aj a)):WO E X Γ l (.convert t t x) L K:=λtm s hl hi=>by
 rcases hi.it _ hm with⟨h5,_⟩|⟨b,n',k',w,aS,h5,h6,h7,h8⟩
 .exfalso
  injection h5 with h5 h6
  omega
 .cases h5
  have hu:(1000000:Nat)<ew:=by decide
  obtain rfl:aS=[]:=mO (by
   rcases h8 with⟨_,_,h8⟩|⟨h8,_⟩
   .rw[bL,h7] at h8;omega
   .omega)
  rw[gg] at h6;have dG:=(hi.may hm (b:=b) (by simp[It.a8,mZ]));have hr:=hi.aY dG;obtain⟨z,SV,_⟩:=h1.h;obtain⟨hr1,i,v,nC,hr3,_⟩:=SV.h;have hs:size E e=some 1:=by unfold size;rw[nC];simp[hr3]
  refine fW.pure (v:=.slice (some ⟨b,0,none⟩) p.length p.length) (s':=(s.aY b).put b (some (.cells (ai p) e false))) (λcall=>?_) ⟨L,(λi=>i∈aj (some ⟨b,0,none⟩)),(λi=>i∈aj (some ⟨b,0,none⟩)),hr.put (YX hm) rfl rfl ?_,(kP.trans (db dG.1 (by simp[aj])) (j6 (by simpa using dG.1) (by simp[aj]) (by simp[aj]))),by rw[eh,cz];exact k _⟩
  .show wU E s t t (aO tm x)=_;rw[hx.eval hl];unfold wU;rw[hr1];show ob (ji E e) (λd=>dZ (isByte d&&Nat.beq t t)<| s.row b λcs e' _ s=>ob (size E e') λsz=>ob (ji E e') λd'=>dZ (isByte d'&&Nat.beq sz 1)<| aN (.slice (some ⟨b,0,none⟩) p.length p.length) (s.put b (some (.cells cs e' false))))=_;rw[h3.h];show dZ (Nat.beq t t) _=_;rw[kD,eG];unfold St.row St.look;rw[h6];simp only[cu,hs,h3.h];rfl
  .exact xL.cJ (w:=false) (by rw[rl,if_pos rfl]) h7 (.inl ⟨rfl,Nat.lt_of_le_of_lt hb hu⟩)
end
end Go.Lg
