/- Lemmas of the proof. No conditions. -/
import Derived.Test.YtoiielhpadnflaaGreatDoorAa1
set_option maxRecDepth 100000
set_option maxHeartbeats 4000000
set_option linter.unusedVariables false
set_option linter.unusedSimpArgs false
namespace Go
variable{P:Prop}
theorem zaE (h:P:=by
 rw[hf];show(uV X f args s<| match fn.body with
   |none=>KX X f args s
   |some c=>bo (Nat.beq f X.look) (C4 args s)<| dN (Nat.ble (dX args) fn.ntmps)<| KY E fn (lN E (oP E X lf [] n) lf c (kv args (nat_lit 0) .nil) s))=_
 all_goals(rcases _ with h;exact h)):P:=h
theorem zaF (h:P:=by
 have og:∀call:ff,GI E call (aO tm) s (.slice t x lo ‹Option Operand› none)=some (.slice a' q.length c',s'):=λcall=>by
  show kH E s t (aO tm x) _ _ none=_;rw[hx.eval hl,h2,cX]
 rcases h3 with rfl|⟨b,lO,rfl⟩
 all_goals(rcases _ with h;exact h)):P:=h
theorem zaP (h:P:=by
 have h1:=h.1;have h2:=h.2;unfold IntKind.wrap;simp[IntKind.signed,IntKind.bits];omega
 all_goals(rcases _ with h;exact h)):P:=h
theorem zaT (h:P:=by
 have:=iU h2;simp only[cw] at this;obtain⟨rfl,rfl,rfl⟩:=this;exact⟨hc.1,λX A ρ w a Q hp gL ht hQ=>wp_block (hc.2 X A ρ w a _ hp gL ht hQ)⟩
 all_goals(rcases _ with h;exact h)):P:=h
theorem zaU (h:P:=by
 have:=iU h2;simp only[cw] at this;obtain⟨rfl,rfl,rfl⟩:=this;exact⟨hx.1,λX A ρ w a Q hp gL ht hQ=>wp_seq (hx.2 X A ρ w a _ hp gL ht hQ)⟩
 all_goals(rcases _ with h;exact h)):P:=h
theorem zaY (h:P:=by
 have:=iU h2;simp only[cw] at this;obtain⟨rfl,rfl,rfl⟩:=this;exact⟨z7.1,λX A ρ w a Q hp gL ht hQ=>xB (z7.2 X A ρ w a _ hp gL ht hQ)⟩
 all_goals(rcases _ with h;exact h)):P:=h
end Go
namespace Go.Ev
open Go
variable {E:iq}{P:Program}{call:ff}{aG:List Oper}{TM:Nat->Tm}{S S':Nat->St}{V:Nat->Value}{X A0:Nat->Prop}{ρ0:ig}{w0:World}
section
variable {W:Nat}
def Wa (S:Nat->St)(k i:Nat):Prop:=(S k).next<=i/\i<(S (k+1)).next
def Dp (aG:List Oper)(S:Nat->St)(A0:Nat->Prop)(j:Nat):Nat->Prop:=λi=>A0 i\/∃k,anc aG j k/\Wa S k i
def DA (aG:List Oper)(S:Nat->St)(A0:Nat->Prop)(j:Nat):Nat->Prop:=λi=>Dp aG S A0 j i\/Wa S j i
def SY (aG:List Oper)(S S':Nat->St)(A0:Nat->Prop)(L:Nat->Bool)(b:Nat)(o:gv)(D:Nat->Prop):Prop:=
 ((∀k,L k=true->¬In (S' k).wr b)/\(S 0).heap.get b=some o/\D=A0)\/
 ∃k,L k=true/\In (S' k).wr b/\(∀k',L k'=true->In (S' k').wr b->k'<=k)/\(S' k).heap.get b=some o/\D=DA aG S A0 k
structure Inv (P:Program)(aG:List Oper)(S S':Nat->St)(V:Nat->Value)(X A0:Nat->Prop)(ρ0:ig)(w0:World)(W:Nat)(L:Nat->Bool)(vals:Nat->Value)(w:World)(ρ:ig):Prop where
 same:∀i,(∀k,L k=true->¬Wa S k i)->ρ i=ρ0 i
 kK:∀b o D,X b->SY aG S S' A0 L b o D->D b/\∃x,w.heap[(ρ b).1]?=some x/\FI P D ρ (ρ b) o x
 inj:∀b b' o o' D D',X b->X b'->SY aG S S' A0 L b o D->SY aG S S' A0 L b' o' D'->(ρ b).1=(ρ b').1->b=b'
 vals:∀k,L k=true->VR (DA aG S A0 k) ρ (V k) (vals k)
 eN:Fr w0 w λr=>∃c o,In W c/\X c/\(S 0).heap.get c=some o/\(ρ0 c).1=r
 old:∀b o D,X b->SY aG S S' A0 L b o D->b<(S 0).next->(S 0).heap.get b≠none
 cu:∀b o D,X b->SY aG S S' A0 L b o D->(S 0).next<=b->w0.heap.size<=(ρ b).1\/∃c o,In W c/\X c/\(S 0).heap.get c=some o/\(ρ b).1=(ρ0 c).1
theorem dg.ag0 {j:Nat}(hS:(S (j+1)).next=(S' j).next):dg (Dp aG S A0 j) (S j).next (S' j).next=DA aG S A0 j:=by
 funext i
 unfold dg DA Wa;rw[hS]
section chain
theorem kO (hE:cW E P)(hC:dK P call)(dP:pB E call aG 0 aG.length TM S V S'){j:Nat}(hj:j<aG.length):aH (S j) (S' j):=by
 obtain⟨o,ho⟩:∃o,aG[j]?=some o:=⟨aG[j],bc hj⟩;rcases(dP.step j o (iK _) hj ho).2.2 with⟨_,h⟩|⟨_,_,h⟩
 .exact(I5 hE hC h).1
 .rw[h];exact aH.refl _
theorem sk (hE:cW E P)(hC:dK P call)(dP:pB E call aG 0 aG.length TM S V S'){j:Nat}(hj:j<aG.length){b:Nat}(h:In (S' j).wr b):In (S' j).cV b:=
 (kO hE hC dP hj).sub (λc hc=>by rw[(dP.clear j (iK _) (rV hj)).2] at hc;exact absurd hc (re c)) b h
theorem oh (hE:cW E P)(hC:dK P call)(dP:pB E call aG 0 aG.length TM S V S'){j:Nat}(hj:j<aG.length):(S (j+1)).next=(S' j).next/\(S (j+1)).heap=(S' j).heap:=by have _h1:=hE;have _h2:=hC;obtain⟨o,ho⟩:∃o,aG[j]?=some o:=⟨aG[j],bc hj⟩;rw[(dP.step j o (iK _) hj ho).2.1,jD];exact⟨rfl,rfl⟩
theorem fj (hE:cW E P)(hC:dK P call)(dP:pB E call aG 0 aG.length TM S V S'){i j:Nat}(nI:i<=j)(hj:j<=aG.length):(S i).next<=(S j).next:=by
 induction j with
 |zero=>have:i=0:=by omega
        subst this;exact cC _
 |succ j ih=>
  rcases lq i (j+1) with h|h
  .refine gu (ih af af) ?_;rw[(oh hE hC dP af).1];exact(kO hE hC dP af).next
  .have:i=j+1:=by omega
   subst this;exact cC _
theorem rh (hE:cW E P)(hC:dK P call)(dP:pB E call aG 0 aG.length TM S V S')(lS:∀b,(S 0).next<=b->(S 0).heap.get b=none){j:Nat}(hj:j<=aG.length):∀b,(S j).next<=b->(S j).heap.get b=none:=by
 induction j with
 |zero=>exact lS
 |succ j ih=>
  obtain⟨h1,h2⟩:=oh hE hC dP (j:=j) af;rw[h1,h2];exact(kO hE hC dP af).dI (ih af)
theorem Dk (hE:cW E P)(hC:dK P call)(dP:pB E call aG 0 aG.length TM S V S')(lS:∀b,(S 0).next<=b->(S 0).heap.get b=none){j:Nat}(hj:j<=aG.length){b:Nat}{o:gv}(h:(S j).heap.get b=some o):((∀k,k<j->¬In (S' k).wr b)/\(S 0).heap.get b=some o)\/∃k,k<j/\In (S' k).wr b/\(∀k',k'<j->In (S' k').wr b->k'<=k)/\(S' k).heap.get b=some o:=by
 induction j with
 |zero=>exact .inl ⟨λk hk=>by omega,h⟩
 |succ j ih=>
  obtain⟨h1,h2⟩:=oh hE hC dP (j:=j) af;rw[h2] at h;by_cases hw:In (S' j).wr b
  .exact .inr ⟨j,af,hw,λk' GV _=>by omega,h⟩
  .have hg:=kO hE hC dP (j:=j) af;have hb:b<(S j).next:=by
    rcases lq b (S j).next with h3|h3
    .exact h3
    .rcases lq b (S' j).next with h4|h4
     .exact absurd (hg.made b h3 h4) hw
     .rw[hg.dI (rh hE hC dP lS af) b h4] at h;cases h
   rw[hg.kept b hb hw] at h;rcases ih af h with⟨h3,h4⟩|⟨k,h3,h4,h5,h6⟩
   .refine .inl ⟨λk hk=>?_,h4⟩;rcases lq k j with h5|h5
    .exact h3 k h5
    .have:k=j:=by omega
     subst this;exact hw
   .refine .inr ⟨k,af,h4,λk' GV Dl=>?_,h6⟩;rcases lq k' j with h7|h7
    .exact h5 k' h7 Dl
    .have:k'=j:=by omega
     subst this;exact absurd Dl hw
theorem vP (hE:cW E P)(hC:dK P call)(dz:∀j oj,aG[j]?=some oj->∀e∈oj.after,Region.binds .any e=true->e.on<j)(dP:pB E call aG 0 aG.length TM S V S')(lS:∀b,(S 0).next<=b->(S 0).heap.get b=none){L:Nat->Bool}{j:Nat}{oj:Oper}(yV:aG[j]?=some oj)(Wb:L j=false)(Vh:∀e∈oj.after,Region.binds .any e=true->L e.on=true)(hL:tC ⟨aG⟩ L)(N7:∀k,L k=true->k<aG.length)
  {b:Nat}{o:gv}(kL:In (S' j).cV b)(h:(S j).heap.get b=some o):∃D,SY aG S S' A0 L b o D/\∀i,D i->Dp aG S A0 j i:=by
 have hj:j<aG.length:=(sV.1 yV).1;have va:∀N5,aG[j]?=some N5->∀e∈N5.after,Region.binds .any e=true->L e.on=true:=λN5 h'=>by rw[yV] at h';cases h';exact Vh
 have later:∀k',L k'=true->In (S' k').wr b->k'<j:=λk' GV Dl=>by
  rcases CP k' j with h1|h1|h1
  .exact h1
  .subst h1;rw[Wb] at GV;cases GV
  .exfalso;have hkn:=N7 k' GV;rcases dP.apart j k' (iK _) h1 hkn with h2|h2
   .obtain⟨ok,gd⟩:∃o,aG[k']?=some o:=⟨aG[k'],bc hkn⟩;have h3:=xz dz gd h2 L hL (λN5 h' e he hb=>hL k' N5 (by simpa using h') GV e he hb);rw[Wb] at h3;cases h3
   .exact h2.2 b ⟨kL,Dl⟩
 rcases Dk hE hC dP lS (rV hj) h with⟨h1,h2⟩|⟨k,h1,h2,h3,h4⟩
 .exact⟨A0,.inl ⟨λk hk hw=>h1 k (later k hk hw) hw,h2,rfl⟩,λi hi=>.inl hi⟩
 .have aec:anc aG j k:=by
   rcases dP.apart k j (iK _) h1 hj with h5|h5
   .exact xz dz yV h5
   .exact absurd ⟨h2,kL⟩ (h5.1 b)
  refine⟨DA aG S A0 k,.inr ⟨k,aec L hL va,h2,λk' GV Dl=>h3 k' (later k' GV Dl) Dl,h4,rfl⟩,?_⟩;rintro i ((hi|⟨k2,hi,hr⟩)|hi)
  .exact .inl hi
  .exact .inr ⟨k2,G5 aec hi,hr⟩
  .exact .inr ⟨k,aec,hi⟩
end chain
end
variable {L:Nat->Bool}{vals:Nat->Value}{w:World}{ρ:ig}{j:Nat}{oj:Oper}
section
variable {W:Nat}
theorem G8 (hE:cW E P)(hC:dK P call)(dP:pB E call aG 0 aG.length TM S V S'){k j:Nat}(SX:k≠j)(hk:k<aG.length)(hj:j<aG.length){i:Nat}(h:Wa S k i):¬Wa S j i:=by
 rintro⟨h1,h2⟩;obtain⟨h3,h4⟩:=h;rcases lq k j with h5|h5
 .have:=fj hE hC dP (i:=k+1) (j:=j) af af;omega
 .have:=fj hE hC dP (i:=j+1) (j:=k) af af;omega
theorem ag1 (hE:cW E P)(hC:dK P call)(dz:∀j oj,aG[j]?=some oj->∀e∈oj.after,Region.binds .any e=true->e.on<j)(dP:pB E call aG 0 aG.length TM S V S')(hA:∀i,A0 i->i<(S 0).next){j:Nat}(hj:j<aG.length):∀i,Dp aG S A0 j i->i<(S j).next:=by
 rintro i (h|⟨k,hk,hr⟩)
 .have:=hA i h;have:=fj hE hC dP (i:=0) (j:=j) af af;omega
 .have SX:=V9 dz hk;have:=fj hE hC dP (i:=k+1) (j:=j) af af;have:=hr.2;omega
theorem SZ (hE:cW E P)(hC:dK P call)(dz:∀j oj,aG[j]?=some oj->∀e∈oj.after,Region.binds .any e=true->e.on<j)(dP:pB E call aG 0 aG.length TM S V S')(lS:∀b,(S 0).next<=b->(S 0).heap.get b=none)(hX:∀k,k<aG.length->∀b,In (S' k).cV b->X b)(yV:aG[j]?=some oj)(Wb:L j=false)(Vh:∀e∈oj.after,Region.binds .any e=true->L e.on=true)(hL:tC ⟨aG⟩ L)(N7:∀k,L k=true->k<aG.length)(hI:Inv P aG S S' V X A0 ρ0 w0 W L vals w ρ):eX P (In (S' j).cV) (Dp aG S A0 j) ρ (S j).heap.get w:=by
 have hj:j<aG.length:=(sV.1 yV).1;refine⟨λb o kL h=>?_,λb b' o o' kL acG h h' e=>?_⟩
 .obtain⟨D,hc,jf⟩:=vP (A0:=A0) hE hC dz dP lS yV Wb Vh hL N7 kL h;obtain⟨h1,x,h2,h3⟩:=hI.kK b o D (hX j hj b kL) hc;exact⟨jf b h1,x,h2,h3.mono jf (λ_ _=>rfl)⟩
 .obtain⟨D,hc,_⟩:=vP (A0:=A0) hE hC dz dP lS yV Wb Vh hL N7 kL h;obtain⟨D',tg,_⟩:=vP (A0:=A0) hE hC dz dP lS yV Wb Vh hL N7 acG h';exact hI.inj b b' o o' D D' (hX j hj b kL) (hX j hj b' acG) hc tg e
theorem Li (hE:cW E P)(hC:dK P call)(dz:∀j oj,aG[j]?=some oj->∀e∈oj.after,Region.binds .any e=true->e.on<j)(dP:pB E call aG 0 aG.length TM S V S')(lS:∀b,(S 0).next<=b->(S 0).heap.get b=none)(hA:∀i,A0 i->i<(S 0).next)(hX:∀k,k<aG.length->∀b,In (S' k).cV b->X b)(hW:∀k,k<aG.length->∀b,In (S' k).wr b->In W b)(yV:aG[j]?=some oj)(Wb:L j=false)(Vh:∀e∈oj.after,Region.binds .any e=true->L e.on=true)(hL:tC ⟨aG⟩ L)(N7:∀k,L k=true->k<aG.length)(hI:Inv P aG S S' V X A0 ρ0 w0 W L vals w ρ){w':World}{eb:ig}{v':Value}(hv:VR (dg (Dp aG S A0 j) (S j).next (S' j).next) eb (V j) v')(hG:Good P (In (S' j).cV) (Dp aG S A0 j) ρ (S j) (S' j) w w' eb):
  Inv P aG S S' V X A0 ρ0 w0 W (gP L j true) (gP vals j v') w' eb:=by
 have hj:j<aG.length:=(sV.1 yV).1;obtain⟨QS,GW⟩:=oh hE hC dP hj;have Z5:=kO hE hC dP hj;have va:∀k N5,aG[k]?=some N5->L k=true->∀e∈N5.after,Region.binds .any e=true->L e.on=true:=λk N5 h' hk=>hL k N5 (by simpa using h') hk
 have jf:=λb=>sk hE hC dP hj (b:=b)
 have FZ:=λb o kL h=>vP (A0:=A0) (b:=b) (o:=o) hE hC dz dP lS yV Wb Vh hL N7 kL h
 have akx:(S 0).next<=(S j).next:=fj hE hC dP (iK _) (rV hj)
 have Ax:∀b o D,SY aG S S' A0 (gP L j true) b o D->(In (S' j).wr b/\(S' j).heap.get b=some o/\D=DA aG S A0 j)\/(¬In (S' j).wr b/\SY aG S S' A0 L b o D):=by
  intro b o D hc;have hup:∀k,L k=true->gP L j true k=true:=λk hk=>by unfold gP;split<;>first|rfl|exact hk
  have S0:gP L j true j=true:=by simp[gP]
  rcases hc with⟨h1,h2,h3⟩|⟨k,h1,h2,h3,h4,h5⟩
  .exact .inr ⟨h1 j S0,.inl ⟨λk hk=>h1 k (hup k hk),h2,h3⟩⟩
  .by_cases hw:In (S' j).wr b
   .have SX:k=j:=by
     rcases CP k j with h6|h6|h6
     .have:=h3 j S0 hw;omega
     .exact h6
     .exfalso;have hk:L k=true:=by unfold gP at h1;rw[if_neg af] at h1;exact h1
      have hkn:=N7 k hk;obtain⟨ok,gd⟩:∃o,aG[k]?=some o:=⟨aG[k],bc hkn⟩;rcases dP.apart j k (iK _) h6 hkn with h7|h7
      .have:=xz dz gd h7 L hL (λN5 h' e he hb=>va k N5 h' hk e he hb);rw[Wb] at this;cases this
      .exact h7.1 b ⟨hw,sk hE hC dP hkn h2⟩
    subst SX;exact .inl ⟨hw,h4,h5⟩
   .have SX:k≠j:=by rintro rfl;exact hw h2
    (have hk:L k=true:=by unfold gP at h1;rw[if_neg SX] at h1;exact h1);exact .inr ⟨hw,.inr ⟨k,hk,h2,λk' GV Dl=>h3 k' (hup k' GV) Dl,h4,h5⟩⟩
 have hDA:∀k,L k=true->∀i,DA aG S A0 k i->eb i=ρ i:=λk hk i hi=>hG.same i λhr=>by
  rw[<-QS] at hr;have hkn:=N7 k hk;rcases hi with(hi|⟨k2,hi,mG⟩)|hi
  .have:=hA i hi;omega
  .have yW:L k2=true:=hi L hL (λN5 h' e he hb=>va k N5 h' hk e he hb);exact G8 hE hC dP (by rintro rfl;rw[Wb] at yW;cases yW) (N7 k2 yW) hj mG hr
  .exact G8 hE hC dP (by rintro rfl;rw[Wb] at hk;cases hk) hkn hj hi hr
 have Lj:∀b o D,SY aG S S' A0 L b o D->∀i,D i->eb i=ρ i:=by
  rintro b o D (⟨_,_,rfl⟩|⟨k,hk,_,_,_,rfl⟩) i hi
  .exact hG.same i λhr=>by have:=hA i hi;omega
  .exact hDA k hk i hi
 have ag2:∀b,b<(S j).next->eb b=ρ b:=λb hb=>hG.same b λhr=>by omega
 have OM:∀b o,In (S' j).wr b->(S' j).heap.get b=some o->b<(S j).next->∃o2,(S j).heap.get b=some o2:=λb o hw h hb=>
  KD.1 (hG.old b hb (by rw[h];simp))
 have Wc:∀b o,(S' j).heap.get b=some o->b<(S' j).next:=λb o h=>by
  rcases lq b (S' j).next with h1|h1
  .exact h1
  .rw[hG.dI b h1] at h;cases h
 have hXj:=hX j hj;have ag3:∀b b' o o' D',In (S' j).wr b->(S' j).heap.get b=some o->¬In (S' j).wr b'->X b'->SY aG S S' A0 L b' o' D'->(eb b).1=(eb b').1->False:=by
  intro b b' o o' D' hw h Dl te tg e;obtain⟨hD',x',S2,_⟩:=hI.kK b' o' D' te tg;rw[Lj b' o' D' tg b' hD'] at e;rcases lq b (S j).next with hb|hb
  .obtain⟨o2,OJ⟩:=OM b o hw h hb;obtain⟨D2,qQ,_⟩:=FZ b o2 (jf b hw) OJ;rw[ag2 b hb] at e;have:=hI.inj b b' o2 o' D2 D' (hXj b (jf b hw)) te qQ tg e;subst this;exact Dl hw
  .rcases hG.cu b hb (Wc b o h) (by rw[h];simp) with h1|⟨c,o3,vM,qQ,IW,h1⟩
   .have:=(uK.1 S2).1;omega
   .obtain⟨D3,Vd,_⟩:=FZ c o3 qQ IW;rw[h1] at e;have:=hI.inj c b' o3 o' D3 D' (hXj c qQ) te Vd tg e;subst this;exact Dl vM
 refine⟨λi hi=>?_,λb o D hx hc=>?_,λb b' o o' D D' hx te hc tg e=>?_,λk hk=>?_,?_,λb o D hx hc hb=>?_,λb o D hx hc hb=>?_⟩
 .rw[hG.same i λhr=>hi j (by simp[gP]) (by unfold Wa;rw[QS];exact hr)];exact hI.same i λk hk=>hi k (by unfold gP;split<;>first|rfl|exact hk)
 .rcases Ax b o D hc with⟨hw,h,rfl⟩|⟨hw,qQ⟩
  .have:=hG.state.kK b o (jf b hw) h;rw[dg.ag0 QS] at this;exact this
  .obtain⟨h1,x,h2,h3⟩:=hI.kK b o D hx qQ;have V5:=Lj b o D qQ;refine⟨h1,x,?_,?_⟩
   .rw[V5 b h1,hG.eN.block _ (uK.1 h2).1 ?_]
    .exact h2
    .rintro⟨c,o2,IW,Vd,hc5,e⟩;obtain⟨D2,hc6,_⟩:=FZ c o2 Vd hc5;have:=hI.inj c b o2 o D2 D (hXj c Vd) hx hc6 qQ e;subst this;exact hw IW
   .rw[V5 b h1];exact h3.mono (λ_ h=>h) V5
 .rcases Ax b o D hc with⟨hw,h,rfl⟩|⟨hw,qQ⟩
  .rcases Ax b' o' D' tg with⟨Dl,h',rfl⟩|⟨Dl,Wd⟩
   .exact hG.state.inj b b' o o' (jf b hw) (jf b' Dl) h h' e
   .exact(ag3 b b' o o' D' hw h Dl te Wd e).elim
  .rcases Ax b' o' D' tg with⟨Dl,h',rfl⟩|⟨Dl,Wd⟩
   .exact(ag3 b' b o' o D Dl h' hw hx qQ e.symm).elim
   .rw[Lj b o D qQ b (hI.kK b o D hx qQ).1,Lj b' o' D' Wd b' (hI.kK b' o' D' te Wd).1] at e;exact hI.inj b b' o o' D D' hx te qQ Wd e
 .by_cases SX:k=j
  .subst SX;simp only[gP,if_true];rw[<-dg.ag0 QS];exact hv
  .have GV:L k=true:=by unfold gP at hk;rw[if_neg SX] at hk;exact hk
   simp only[gP,SX,pQ];exact(hI.vals k GV).mono (λ_ h=>h) (hDA k GV)
 .refine⟨hG.eN.os.trans hI.eN.os,hG.eN.tape.trans hI.eN.tape,hG.eN.output.trans hI.eN.output,gu hI.eN.size hG.eN.size,λr hr ht=>?_⟩;rw[hG.eN.block r (xi hr hI.eN.size) ?_,hI.eN.block r hr ht];rintro⟨c,o,vM,qQ,IW,e⟩;obtain⟨D,Vd,_⟩:=FZ c o qQ IW;rcases lq c (S 0).next with h1|h1
  .obtain⟨o2,OJ⟩:=KD.1 (hI.old c o D (hXj c qQ) Vd h1);refine ht ⟨c,o2,hW j hj c vM,hXj c qQ,OJ,?_⟩;rw[<-e,hI.same c λk hk SL=>by
    have:=fj hE hC dP (i:=0) (j:=k) (iK _) (rV (N7 k hk));have:=SL.1;omega]
  .rcases hI.cu c o D (hXj c qQ) Vd h1 with h2|⟨c',o',h3,h4,h5,h6⟩
   .omega
   .exact ht ⟨c',o',h3,h4,h5,by rw[<-h6,e]⟩
 .rcases Ax b o D hc with⟨hw,h,rfl⟩|⟨hw,qQ⟩
  .obtain⟨o2,OJ⟩:=OM b o hw h af;obtain⟨D2,qQ,_⟩:=FZ b o2 (jf b hw) OJ;exact hI.old b o2 D2 hx qQ hb
  .exact hI.old b o D hx qQ hb
 .have key:∀c o2,In (S' j).wr c->In (S' j).cV c->(S j).heap.get c=some o2->w0.heap.size<=(ρ c).1\/∃c' o',In W c'/\X c'/\(S 0).heap.get c'=some o'/\(ρ c).1=(ρ0 c').1:=by
   intro c o2 vM qQ IW;obtain⟨D2,Vd,_⟩:=FZ c o2 qQ IW;rcases lq c (S 0).next with h1|h1
   .obtain⟨o3,ho3⟩:=KD.1 (hI.old c o2 D2 (hXj c qQ) Vd h1);refine .inr ⟨c,o3,hW j hj c vM,hXj c qQ,ho3,?_⟩;rw[hI.same c λk hk SL=>by
     have:=fj hE hC dP (i:=0) (j:=k) (iK _) (rV (N7 k hk));have:=SL.1;omega]
   .exact hI.cu c o2 D2 (hXj c qQ) Vd h1
  rcases Ax b o D hc with⟨hw,h,rfl⟩|⟨hw,qQ⟩
  .rcases lq b (S j).next with h1|h1
   .obtain⟨o2,OJ⟩:=OM b o hw h h1;rw[ag2 b h1];exact key b o2 hw (jf b hw) OJ
   .rcases hG.cu b h1 (Wc b o h) (by rw[h];simp) with h2|⟨c,o3,vM,qQ,IW,h2⟩
    .exact .inl (gu hI.eN.size h2)
    .rw[h2];exact key c o3 vM qQ IW
  .rw[Lj b o D qQ b (hI.kK b o D hx qQ).1];exact hI.cu b o D hx qQ hb
end
variable {a0:Act}{N:Nat}{tm jC:Tm}{s s':St}
section
variable {W N:Nat}
theorem ON (hE:cW E P)(hC:dK P call)(dP:pB E call aG 0 aG.length TM S V S'){j:Nat}(hj:j<=aG.length){b:Nat}(hb:b<(S 0).next)(hw:∀k,k<j->¬In (S' k).wr b):(S j).heap.get b=(S 0).heap.get b:=by
 induction j with
 |zero=>rfl
 |succ j ih=>
  obtain⟨h1,h2⟩:=oh hE hC dP (j:=j) af;rw[h2,(kO hE hC dP af).kept b (by have:=fj hE hC dP (i:=0) (j:=j) (iK _) af;omega) (hw j af),ih af λk hk=>hw k af]
theorem OO (hE:cW E P)(hC:dK P call)(dP:pB E call aG 0 aG.length TM S V S'){j:Nat}(hj:j<=aG.length){b:Nat}(h1:(S 0).next<=b)(h2:b<(S j).next):∃k,k<j/\In (S' k).wr b:=by
 induction j with
 |zero=>omega
 |succ j ih=>
  obtain⟨h3,h4⟩:=oh hE hC dP (j:=j) af;rcases lq b (S j).next with h5|h5
  .obtain⟨k,hk,yW⟩:=ih af h5;exact⟨k,af,yW⟩
  .exact⟨j,af,(kO hE hC dP af).made b h5 af⟩
theorem Dm (hE:cW E P)(hC:dK P call)(dP:pB E call aG 0 aG.length TM S V S')(k:Nat)(vals:Nat->Value):gY ⟨aG⟩ a0 (λ_=>true) vals (k+1)=(gY ⟨aG⟩ a0 (λ_=>true) vals k).put (((⟨aG⟩:Array Oper)[k]?).bind (·.dst)) (vals k):=by
 have _h1:=hE;have _h2:=hC;have _h3:=dP
 conv=>lhs;unfold gY
 simp
theorem We (hE:cW E P)(hC:dK P call)(dP:pB E call aG 0 aG.length TM S V S')(kD:∀o∈aG,u7 N o=true){j:Nat}{L:Nat->Bool}{vals:Nat->Value}{w:World}{ρ:ig}(hA:∀i,A0 i->i<(S 0).next)(N7:∀k,L k=true->k<aG.length)(hI:Inv P aG S S' V X A0 ρ0 w0 W L vals w ρ)(Wf:N2 A0 ρ0 N (TM 0) a0)(t:Nat):
  ∀k,k<=aG.length->(∀i o,i<k->aG[i]?=some o->o.dst=some t->anc aG j i/\L i=true)->VR (Dp aG S A0 j) ρ (lX ((TM k).get t)) ((gY ⟨aG⟩ a0 (λ_=>true) vals k).tmps.getD t undef)
 |0,_,_=>by
  refine(Wf.2 t).mono (λi hi=>.inl hi) λi hi=>?_
  refine hI.same i λk hk hr=>?_
  have:=hA i hi;have:=fj hE hC dP (i:=0) (j:=k) (iK _) (rV (N7 k hk));have:=hr.1;omega
 |k+1,hk,h=>by
  obtain⟨o,ho⟩:∃o,aG[k]?=some o:=⟨aG[k],bc af⟩;have hoo:=kD o (CO ho);have ih:=We hE hC dP kD hA N7 hI Wf t k af λi oi hi=>h i oi af
  rw[Dm hE hC dP,(dP.step k o (iK _) af ho).1];have Bt:(⟨aG⟩:Array Oper)[k]?=some o:=by simpa using ho
  rw[Bt];simp only[Be];cases hd:o.dst with
  |none=>exact ih
  |some d=>
   have hdN:=od hoo d hd;(have iX:(gY ⟨aG⟩ a0 (λ_=>true) vals k).tmps.size=N:=by rw[oO];exact Wf.1);rw[Lb _ d t _ (by rw[iX];exact hdN)];unfold Tm.gY;simp only[T.vG];by_cases htd:t=d
   .subst htd;simp only[if_true];obtain⟨h1,h2⟩:=h k o af ho hd;refine(hI.vals k h2).mono (λi hi=>?_) (λ_ _=>rfl);rcases hi with(hi|⟨k2,hi,hr⟩)|hi
    .exact .inl hi
    .exact .inr ⟨k2,G5 h1 hi,hr⟩
    .exact .inr ⟨k,h1,hi⟩
   .simp only[htd,pQ];exact ih
end
theorem Wg (hE:cW E P)(hC:dK P call)(hm:P.follows .mixedOrders=true){aG:List Oper}(kD:∀o∈aG,u7 N o=true)(ag4:Aw ⟨aG⟩=true)(h:uU E call aG aG 0 tm s []=some (jC,s')):
  aH s s'/\∀X A ρ w a Q id,pb P X A ρ s s' w->Gl A ρ->N2 A ρ N tm a->(∀a' w',Left P X A ρ N s s' w a jC a' w'->Q Exit.normal a' w')->(Code.region id ⟨aG⟩ true).wp P Q a w:=by
 obtain⟨TM,S,V,S',dP,e1,e2,e3,e4,jf,hA1,hW1,hA2,hW2,_⟩:=Di hE hC aG aG 0 tm s [] ay h;rw[mS] at dP e3 e4 jf hA2 hW2;have S3:(S 0).next=s.next/\(S 0).heap=s.heap:=by rw[e2,jD];exact⟨rfl,rfl⟩
 have hSn:(S aG.length).next=s'.next/\(S aG.length).heap=s'.heap:=by rw[e4,jD];exact⟨rfl,rfl⟩
 have Dg:=Bw ag4;have dz:∀j oj,aG[j]?=some oj->∀e∈oj.after,Region.binds .any e=true->e.on<j:=λj oj hj=>(Dg.2 j oj (by simpa using hj)).1
 have Ja:aH s s':=by
  refine⟨?_,hA1,hW1,λb h1 h2=>?_,λhs b hb=>?_,λb hb hw=>?_,λha b hb=>?_⟩
  .rw[<-S3.1,<-hSn.1];exact fj hE hC dP (iK _) (cC _)
  .obtain⟨k,hk,yW⟩:=OO hE hC dP (cC _) (b:=b) af af;exact(jf k (iK _) hk).2 b yW
  .rcases hW2 b hb with h1|⟨i,_,h2,h3⟩
   .exact hA1 b (hs b h1)
   .exact(jf i (iK _) h2).1 b (sk hE hC dP h2 h3)
  .rw[<-hSn.2,<-S3.2];exact ON hE hC dP (cC _) af λk hk Dl=>hw ((jf k (iK _) hk).2 b Dl)
  .rw[<-hSn.2];exact rh hE hC dP (by rw[S3.1,S3.2];exact ha) (cC _) b af
 refine⟨Ja,λX A ρ w a Q id hp gL ht hQ=>?_⟩;have lS:∀b,(S 0).next<=b->(S 0).heap.get b=none:=by rw[S3.1,S3.2];exact hp.dI
 have hA:∀i,A i->i<(S 0).next:=by rw[S3.1];exact hp.lt
 have hX:∀k,k<aG.length->∀b,In (S' k).cV b->X b:=λk hk b hb=>hp.cV b ((jf k (iK _) hk).1 b hb)
 have hW:∀k,k<aG.length->∀b,In (S' k).wr b->In s'.wr b:=λk hk=>(jf k (iK _) hk).2
 have Wf:N2 A ρ N (TM 0) a:=by rw[e1];exact ht
 refine FY hm ag4 (λL vals w1=>(∀k,L k=true->k<aG.length)/\∃B3,Inv P aG S S' V X A ρ w.drew s'.wr L vals w1 B3) (λL vals w1 i o ho hLi Vh hL N7 hI=>?_) (λL vals w1 bU hI=>?_) ?_
 .obtain⟨Dn,B3,hI⟩:=hI;have Bt:aG[i]?=some o:=by simpa using ho
  have hi:i<aG.length:=(sV.1 Bt).1;have hoo:=kD o (CO Bt);have ag5:∀k,gP L i true k=true->k<aG.length:=λk hk=>by
   unfold gP at hk;split at hk
   .omega
   .exact Dn k hk
  have Ld:∀t,t∈o.looksAt ⟨aG⟩->VR (Dp aG S A i) B3 (lX ((TM i).get t)) ((gY ⟨aG⟩ a (λ_=>true) vals i).tmps.getD t undef):=λt qM=>
   We hE hC dP kD hA Dn hI Wf t i af λk ok hk gd hd=>by
    rcases(Dg.2 i o ho).2.1 k ok hk (by simpa using gd) with⟨e,he,hb,Vf⟩|Kw
    .subst Vf;exact⟨OL Bt he hb,Vh e he hb⟩
    .exact absurd qM ((Oper.apart_spec Kw).1 t hd)
  have ag6:Gl (Dp aG S A i) B3:=gL.mono (λj hj=>.inl hj) λj hj=>hI.same j λk hk hr=>by
   have:=hA j hj;have:=fj hE hC dP (i:=0) (j:=k) (iK _) (rV (Dn k hk));have:=hr.1;omega
  have jz:=SZ hE hC dz dP lS hX Bt hLi Vh hL Dn hI;have V8:Region.wanted o (yielded ⟨aG⟩ (gY ⟨aG⟩ a (λ_=>true) vals i).tmps)=ib aG (TM i) o.guard:=by
   refine Au (A:=Dp aG S A i) (ρ:=B3) (N:=N) (by rw[oO];exact Wf.1) (λp hp d hd=>od (kD p hp) d hd) λg want hg d hd=>?_
   refine Ld d ?_;unfold Oper.looksAt;refine dt _ ?_;have:((⟨aG⟩:Array Oper)[g]?).bind (·.dst)=some d:=by
    unfold mB at hd;rw[dO] at hd;simp only[KG];cases hq:aG[g]? with
    |none=>rw[hq] at hd;cases hd
    |some p=>rw[hq] at hd;exact hd
   rw[hg];simp only[this];simp
  rw[V8];rcases(dP.step i o (iK _) hi Bt).2.2 with⟨N6,og⟩|⟨N6,hv,hs⟩
  .refine⟨λ_=>?_,λhf=>by rw[N6] at hf;cases hf⟩;obtain⟨yO,aky⟩:=I5 hE hC og;have wF:pb P (In (S' i).cV) (Dp aG S A i) B3 (S i) (S' i) w1:=⟨ag1 hE hC dz dP hA hi,rh hE hC dP lS (rV hi),λb hb=>hb,jz⟩;refine Oper.wp_mono (λa' w' G1=>?_) (aky (In (S' i).cV) (Dp aG S A i) B3 w1 (gY ⟨aG⟩ a (λ_=>true) vals i) _ wF ag6 λx hx=>Cw (Bv hoo x hx) ag6 λt IX=>Ld t ?_)
   .obtain⟨v',ha',Fw,OG,hG⟩:=G1;exact⟨v',ha',ag5,Fw,Li hE hC dz dP lS hA hX hW Bt hLi Vh hL Dn hI OG hG⟩
   .subst IX;exact cA _ (List.mem_filterMap.2 ⟨.tmp t,by simpa using hx,rfl⟩)
  .refine⟨λhf=>(by rw[N6] at hf;cases hf),λ_=>⟨ag5,B3,?_⟩⟩;refine Li hE hC dz dP lS hA hX hW Bt hLi Vh hL Dn hI ?_ ?_
   .rw[hv];exact VR.undef
   .rw[hs] at jz⊢;exact Good.refl jz (rh hE hC dP lS (rV hi))
 .obtain⟨Dn,B3,hI⟩:=hI;have acH:∀i,i<aG.length->L i=true:=λi hi=>bU i (by simpa using hi)
  have akz:∀i,A i->B3 i=ρ i:=λi hi=>hI.same i λk hk hr=>by
   have:=hA i hi;have:=fj hE hC dP (i:=0) (j:=k) (iK _) (rV (Dn k hk));have:=hr.1;omega
  have aed:∀k i,k<aG.length->Wa S k i->s.next<=i/\i<s'.next:=λk i hk hr=>by
   have h1:=fj hE hC dP (i:=0) (j:=k) (iK _) (rV hk);have h2:=fj hE hC dP (i:=k+1) (j:=aG.length) af (cC _);have:=hr.1;have:=hr.2;omega
  have hDA:∀k,k<aG.length->∀i,DA aG S A k i->dg A s.next s'.next i:=λk hk i hi=>by
   rcases hi with(hi|⟨k2,hi,hr⟩)|hi
   .exact .inl hi
   .have:=V9 dz hi;exact .inr (aed k2 i af hr)
   .exact .inr (aed k i hk hi)
  have FZ:∀b o,s'.heap.get b=some o->((∀k,k<aG.length->¬In (S' k).wr b)/\s.heap.get b=some o/\SY aG S S' A L b o A)\/∃k,k<aG.length/\In (S' k).wr b/\SY aG S S' A L b o (DA aG S A k):=by
   intro b o hb;rw[<-hSn.2] at hb;rcases Dk hE hC dP lS (cC _) hb with⟨h1,h2⟩|⟨k,h1,h2,h3,h4⟩
   .exact .inl ⟨h1,by rw[<-S3.2];exact h2,.inl ⟨λk hk=>h1 k (Dn k hk),h2,rfl⟩⟩
   .exact .inr ⟨k,h1,h2,.inr ⟨k,acH k h1,h2,λk' GV Dl=>h3 k' (Dn k' GV) Dl,h4,rfl⟩⟩
  have Wh:∀b o,s'.heap.get b=some o->∃D,SY aG S S' A L b o D/\∀i,D i->dg A s.next s'.next i:=by
   intro b o hb;rcases FZ b o hb with⟨_,_,h1⟩|⟨k,hk,_,h1⟩
   .exact⟨A,h1,λi hi=>.inl hi⟩
   .exact⟨_,h1,hDA k hk⟩
  refine hQ _ w1 ⟨?_,B3,?_,⟨Ja.next,λi hi=>?_,⟨λb o hx hb=>?_,λb b' o o' hx te hb lO e=>?_⟩,?_,λb hb gh=>?_,λb hb Vg gh=>?_,Ja.kept,Ja.dI hp.dI⟩⟩
  .have:∀k,(gY ⟨aG⟩ a (λ_=>true) vals k).defers=a.defers:=λk=>by
    induction k with
    |zero=>rfl
    |succ k ih=>rw[Dm hE hC dP,u9,ih]
   exact this _
  .have key:∀k,k<=aG.length->N2 (dg A s.next s'.next) B3 N (TM k) (gY ⟨aG⟩ a (λ_=>true) vals k):=λk=>by
    induction k with
    |zero=>exact λ_=>Wf.mono (λi hi=>.inl hi) akz
    |succ k ih=>
     intro hk;obtain⟨o,ho⟩:∃o,aG[k]?=some o:=⟨aG[k],bc af⟩;rw[Dm hE hC dP,(dP.step k o (iK _) af ho).1];(have Bt:(⟨aG⟩:Array Oper)[k]?=some o:=by simpa using ho);rw[Bt];exact(ih af).put ((hI.vals k (acH k af)).mono (hDA k af) (λ_ _=>rfl)) (od (kD o (CO ho)))
   rw[<-e3];exact key aG.length (cC _)
  .exact hI.same i λk hk hr=>hi (aed k i (Dn k hk) hr)
  .obtain⟨D,hc,hD⟩:=Wh b o hb;obtain⟨h1,x,h2,h3⟩:=hI.kK b o D hx hc;exact⟨hD b h1,x,h2,h3.mono hD (λ_ _=>rfl)⟩
  .obtain⟨D,hc,_⟩:=Wh b o hb;obtain⟨D',tg,_⟩:=Wh b' o' lO;exact hI.inj b b' o o' D D' hx te hc tg e
  .have:=hI.eN;rw[S3.2] at this;exact⟨this.os,this.tape,this.output,this.size,this.block⟩
  .obtain⟨o,ho⟩:=KD.1 gh;rcases FZ b o ho with⟨_,h1,_⟩|⟨k,hk,hw,hc⟩
   .rw[h1];simp
   .have:=hI.old b o _ (hX k hk b (sk hE hC dP hk hw)) hc af;rw[S3.2] at this;exact this
  .obtain⟨o,ho⟩:=KD.1 gh;rcases FZ b o ho with⟨_,h1,_⟩|⟨k,hk,hw,hc⟩
   .rw[hp.dI b hb] at h1;cases h1
   .have:=hI.cu b o _ (hX k hk b (sk hE hC dP hk hw)) hc af;rw[S3.2] at this;exact this
 .refine⟨λk hk=>(by cases hk),ρ,λi _=>rfl,λb o D hx hc=>?_,λb b' o o' D D' hx te hc tg e=>?_,λk hk=>(by cases hk),⟨rfl,rfl,rfl,cC _,λ_ _ _=>rfl⟩,λb o D hx hc hb=>?_,λb o D hx hc hb=>?_⟩
  .rcases hc with⟨_,h1,rfl⟩|⟨k,hk,_⟩
   .rw[S3.2] at h1;exact hp.st.kK b o hx h1
   .cases hk
  .rcases hc with⟨_,h1,rfl⟩|⟨k,hk,_⟩
   .rcases tg with⟨_,h2,rfl⟩|⟨k,hk,_⟩
    .rw[S3.2] at h1 h2;exact hp.st.inj b b' o o' hx te h1 h2 e
    .cases hk
   .cases hk
  .rcases hc with⟨_,h1,rfl⟩|⟨k,hk,_⟩
   .rw[h1];simp
   .cases hk
  .rcases hc with⟨_,h1,rfl⟩|⟨k,hk,_⟩
   .rw[lS b hb] at h1;cases h1
   .cases hk
variable {A:Nat->Prop}{a:Act}{Q:Exit->Act->World->Prop}
def codeOk (N:Nat):Code->Bool
 |.region _ aG draw=>aG.toList.all (u7 N)&&(!draw||Aw aG)
 |.seq a b=>codeOk N a&&codeOk N b
 |.cond c a b=>I6 c&&codeOk N a&&codeOk N b
 |.block _ c=>codeOk N c
 |.loop c=>codeOk N c
 |_=>true
def aaB:Ex->Exit
 |.normal=>.normal
 |.exit id=>.exit id
 |.ret=>.ret
def Dq (P:Program)(c:Code)(Q:Exit->Act->World->Prop)(a:Act)(w:World):Prop:=
 ∀(b:Frame)(k:List Item)(cs:List Frame),∃e a' w',Q e a' w'/\Arrives P (lone (b.at a (.code c:: .inLoop c::k)) cs w) b k cs e a' w'
theorem aaC {c:Code}(h:Dq P c Q a w):(Code.loop c).wp P Q a w:=λb k cs=>by
 obtain⟨e,a',w',hq,FU⟩:=h b k cs;exact⟨e,a',w',hq,.of_steps (.one step_loop) FU⟩
theorem xB {c:Code}(h:c.wp P (Exit.then (Dq P c Q) Q) a w):Dq P c Q a w:=λb k cs=>by
 obtain⟨e,Wi,Wj,hq,FU⟩:=h b (.inLoop c::k) cs;cases e with
 |normal=>
  obtain⟨akA,akB,akC,ag7,aaD⟩:=hq b k cs;exact⟨akA,akB,akC,ag7,.of_steps (Steps.trans FU (.one step_inLoop)) aaD⟩
 |exit id=>exact⟨_,Wi,Wj,hq,.pass (x:=.inLoop c) rfl (λ_ _=>.inl ay) FU⟩
 |goto l=>exact⟨_,Wi,Wj,hq,.pass (x:=.inLoop c) rfl (λ_ _=>.inl ay) FU⟩
 |ret=>exact⟨_,Wi,Wj,hq,.pass (x:=.inLoop c) rfl (λ_ _=>.inl ay) FU⟩
 |panic ch=>exact⟨_,Wi,Wj,hq,.pass (x:=.inLoop c) rfl (λ_ _=>.inl ay) FU⟩
 |outgrown=>exact⟨_,Wi,Wj,hq,.pass (x:=.inLoop c) rfl (λ_ _=>.inl ay) FU⟩
def Ds (P:Program)(N:Nat)(c:Code)(s:St)(tm:Tm)(e:Ex)(jC:Tm)(s':St)(go:(Exit->Act->World->Prop)->Act->World->Prop):Prop:=
 aH s s'/\∀X A ρ w a Q,pb P X A ρ s s' w->Gl A ρ->N2 A ρ N tm a->(∀a' w',Left P X A ρ N s s' w a jC a' w'->Q (aaB e) a' w')->go Q a w
theorem Left.same (hp:pb P X A ρ s s w){tm:Tm}(ht:N2 A ρ N tm a):Left P X A ρ N s s w a tm a w:=
 ⟨rfl,ρ,ht.mono (λi hi=>.inl hi) (λ_ _=>rfl),Good.refl hp.st hp.dI⟩
theorem Ds.next {c c2:Code}{s s1 s2:St}{sq tm2:Tm}{e:Ex}{go2:(Exit->Act->World->Prop)->Act->World->Prop}(yO:aH s s1)(h2:Ds P N c2 s1 sq e tm2 s2 go2)(hp:pb P X A ρ s s2 w)(gL:Gl A ρ)
  (hQ:∀a' w',Left P X A ρ N s s2 w a tm2 a' w'->Q (aaB e) a' w'){a1:Act}{w1:World}(hl:Left P X A ρ N s s1 w a sq a1 w1):go2 Q a1 w1:=by
 obtain⟨hd,B3,ht1,hG⟩:=hl;have V5:∀i,A i->B3 i=ρ i:=λi hi=>hG.same i (by have:=hp.lt i hi;omega)
 refine h2.2 X _ B3 w1 a1 Q ⟨dg.lt hp.lt yO.next,hG.dI,hp.cV,hG.state⟩ (gL.mono (λi hi=>.inl hi) V5) ht1 λa2 w2 ur=>hQ a2 w2 ?_
 obtain⟨OP,Fw,ht2,hG2⟩:=ur;exact⟨OP.trans hd,Fw,ht2.mono (λi hi=>dg.join yO.next h2.1.next hi) (λ_ _=>rfl),Good.trans hp.cV yO h2.1 hp.lt hG hG2⟩
theorem pb.part {s1 s2:St}(hp:pb P X A ρ s s2 w)(hg:aH s1 s2):pb P X A ρ s s1 w:=⟨hp.lt,hp.dI,λb hb=>hp.cV b (hg.cV b hb),hp.st⟩
theorem Lk {c:Code}{body:Tm->St->R4}(hb:∀tm s e jC s',body tm s=some (e,jC,s')->Ds P N c s tm e jC s' (c.wp P)):∀(n:Nat)(tm:Tm)(s:St){e:Ex}{jC:Tm}{s':St},C2 body n tm s=some (e,jC,s')->Ds P N c s tm e jC s' (Dq P c)
 |0,tm,s,e,jC,s',h=>by cases h
 |n+1,tm,s,e,jC,s',h=>by
  have h':GJ (body tm s) (C2 body n)=some (e,jC,s'):=h;obtain⟨⟨e1,sq,s1⟩,h1,h2⟩:=aF h';have z7:=hb tm s e1 sq s1 h1;cases e1 with
  |normal=>
   have ih:=Lk hb n sq s1 h2;refine⟨z7.1.trans ih.1,λX A ρ w a Q hp gL ht hQ=>xB ?_⟩;(refine z7.2 X A ρ w a _ (hp.part ih.1) gL ht λa1 w1 hl=>?_);exact Ds.next (c:=c) (c2:=c) (go2:=Dq P c) z7.1 ih hp gL hQ hl
  |exit id=>
   refine' zaY
  |ret=>
   refine' zaY
theorem Wk (hE:cW E P)(hC:dK P call)(hm:P.follows .mixedOrders=true)(lf:Nat):∀(c:Code),codeOk N c=true->∀(tm:Tm)(s:St)(e:Ex)(jC:Tm)(s':St),lN E call lf c tm s=some (e,jC,s')->Ds P N c s tm e jC s' (c.wp P):=by
 intro c;induction c with
 |skip=>
  intro _ tm s e jC s' h;have:=iU h;simp only[cw] at this;obtain⟨rfl,rfl,rfl⟩:=this;exact⟨aH.refl _,λX A ρ w a Q hp gL ht hQ=>wp_skip (hQ a w (Left.same hp ht))⟩
 |region id aG draw=>
  intro gd tm s e jC s' h;obtain⟨aG⟩:=aG;simp only[codeOk,bI,fT] at gd;obtain⟨ag8,akD⟩:=gd;have h':QH E call aG draw tm s=some (e,jC,s'):=h;cases draw with
  |false=>
   obtain⟨⟨sq,s1⟩,h1,h2⟩:=aF (show GK (KW E call aG aG tm s)=some (e,jC,s') from h');have:=iU h2;simp only[cw] at this;obtain⟨rfl,rfl,rfl⟩:=this;obtain⟨hg,hk⟩:=I8 hE hC aG ag8 aG 0 tm s ay h1;refine⟨hg,λX A ρ w a Q hp gL ht hQ=>wp_region ?_⟩;have:=hk X A ρ w a Q hp gL ht hQ
   rwa [List.range_eq_range']
  |true=>
   obtain⟨⟨sq,s1⟩,h1,h2⟩:=aF (show GK (uU E call aG aG 0 tm s [])=some (e,jC,s') from h');have:=iU h2;simp only[cw] at this;obtain⟨rfl,rfl,rfl⟩:=this;obtain⟨hg,hk⟩:=Wg hE hC hm ag8 (by simpa using akD) h1;exact⟨hg,λX A ρ w a Q hp gL ht hQ=>hk X A ρ w a Q id hp gL ht hQ⟩
 |seq x y ihx ihy=>
  intro gd tm s e jC s' h;simp only[codeOk,bI] at gd;have h':GJ (lN E call lf x tm s) (lN E call lf y)=some (e,jC,s'):=h;obtain⟨⟨e1,sq,s1⟩,h1,h2⟩:=aF h';have hx:=ihx gd.1 tm s e1 sq s1 h1;cases e1 with
  |normal=>
   have hy:=ihy gd.2 sq s1 e jC s' h2;refine⟨hx.1.trans hy.1,λX A ρ w a Q hp gL ht hQ=>wp_seq ?_⟩;(refine hx.2 X A ρ w a _ (hp.part hy.1) gL ht λa1 w1 hl=>?_);exact Ds.next (c:=x) (c2:=y) (go2:=y.wp P) hx.1 hy hp gL hQ hl
  |exit id=>
   refine' zaU
  |ret=>
   refine' zaU
 |cond c x y ihx ihy=>
  intro gd tm s e jC s' h;simp only[codeOk,bI] at gd;have h':QG (aO tm c) (lN E call lf x tm s) (lN E call lf y tm s)=some (e,jC,s'):=h;unfold QG at h';split at h'
  .rename_i b hb;cases b with
   |true=>
    have hx:=ihx gd.1.2 tm s e jC s' h';refine⟨hx.1,λX A ρ w a Q hp gL ht hQ=>wp_cond_true ?_ (hx.2 X A ρ w a Q hp gL ht hQ)⟩;(have:=Cw (tm:=tm) (a:=a) gd.1.1 gL λt _=>ht.2 t);rw[hb] at this;exact this.tc
   |false=>
    have hy:=ihy gd.2 tm s e jC s' h';refine⟨hy.1,λX A ρ w a Q hp gL ht hQ=>wp_cond_false ?_ (hy.2 X A ρ w a Q hp gL ht hQ)⟩;(have:=Cw (tm:=tm) (a:=a) gd.1.1 gL λt _=>ht.2 t);rw[hb] at this;exact this.tc
  .cases h'
 |block id c ih=>
  intro gd tm s e jC s' h;have h':ad0 id (lN E call lf c tm s)=some (e,jC,s'):=h;obtain⟨⟨e1,sq,s1⟩,h1,h2⟩:=aF h';have hc:=ih (by simpa[codeOk] using gd) tm s e1 sq s1 h1;cases e1 with
  |normal=>
   refine' zaT
  |ret=>
   refine' zaT
  |exit i=>
   have h3:bo (Nat.beq i id) (some (Ex.normal,sq,s1)) (some (Ex.exit i,sq,s1))=some (e,jC,s'):=h2;rw[dJ] at h3;split at h3
   .rename_i hi;have hi:i=id:=by simpa using hi
    have:=iU h3;simp only[cw] at this;obtain⟨rfl,rfl,rfl⟩:=this;refine⟨hc.1,λX A ρ w a Q hp gL ht hQ=>wp_block (hc.2 X A ρ w a _ hp gL ht λa1 w1 hl=>?_)⟩;simp only[aaB,Exit.inBlock,hi,if_true];exact hQ a1 w1 hl
   .rename_i hi;have hi:¬i=id:=by simpa using hi
    have:=iU h3;simp only[cw] at this;obtain⟨rfl,rfl,rfl⟩:=this;refine⟨hc.1,λX A ρ w a Q hp gL ht hQ=>wp_block (hc.2 X A ρ w a _ hp gL ht λa1 w1 hl=>?_)⟩;simp only[aaB,Exit.inBlock,hi,pQ];exact hQ a1 w1 hl
 |loop c ih=>
  intro gd tm s e jC s' h;have h':C2 (lN E call lf c) lf tm s=some (e,jC,s'):=h;have:=Lk (c:=c) (λtm s e jC s'=>ih (by simpa[codeOk] using gd) tm s e jC s') lf tm s h';exact⟨this.1,λX A ρ w a Q hp gL ht hQ=>aaC (this.2 X A ρ w a Q hp gL ht hQ)⟩
 |exit id=>
  intro _ tm s e jC s' h;have:=iU h;simp only[cw] at this;obtain⟨rfl,rfl,rfl⟩:=this;exact⟨aH.refl _,λX A ρ w a Q hp gL ht hQ=>wp_exit (hQ a w (Left.same hp ht))⟩
 |ret=>
  intro _ tm s e jC s' h;have:=iU h;simp only[cw] at this;obtain⟨rfl,rfl,rfl⟩:=this;exact⟨aH.refl _,λX A ρ w a Q hp gL ht hQ=>wp_ret (hQ a w (Left.same hp ht))⟩
 |rangeFunc _ _ _ _ _ _=>intro _ tm s e jC s' h;cases h
 |scope _ _=>intro _ tm s e jC s' h;cases h
 |label _=>intro _ tm s e jC s' h;cases h
 |goto _=>intro _ tm s e jC s' h;cases h
 |refuse _=>intro _ tm s e jC s' h;cases h
abbrev Ent:=Empty
noncomputable section
def pEq (a b:aS):Bool:=match a,b with
 |none,none=>true
 |some ⟨b,o,none⟩,some ⟨b',o',none⟩=>Nat.beq b b'&&Nat.beq o o'
 |_,_=>false
def OQ (a b:Bool):Bool:=bo a b (!b)
mutual
def Dt:Value->Value->Bool
 |.bool a,.bool b=>OQ a b
 |.int k a,.int j b=>qg k j&&yE a b
 |.string ⟨⟨a⟩⟩,.string ⟨⟨b⟩⟩=>gz a b
 |.pointer a,.pointer b=>pEq a b
 |.slice a l c,.slice b m d=>pEq a b&&Nat.beq l m&&Nat.beq c d
 |.agg ⟨a⟩,.agg ⟨b⟩=>lEq a b
 |.tuple ⟨a⟩,.tuple ⟨b⟩=>lEq a b
 |.func (.func f) ⟨a⟩ ⟨b⟩,.func (.func g) ⟨c⟩ ⟨d⟩=>Nat.beq f g&&lEq a c&&lEq b d
 |.map none,.map none=>true
 |.map (some a),.map (some b)=>Nat.beq a b
 |.nilFunc,.nilFunc=>true
 |.nilIface,.nilIface=>true
 |_,_=>false
def lEq:aY->aY->Bool
 |[],[]=>true
 |a::x,b::y=>Dt a b&&lEq x y
 |_,_=>false
end
def oP (E:iq)(X:fY)(lf:Nat)(tab:List Ent)(n:Nat):ff:=
 Nat.rec (λ_ _ _=>none) (λ_ ih f args s=>ob (E.fn.get f) λfn=>uV X f args s<| match fn.body with
     |none=>KX X f args s
     |some c=>bo (Nat.beq f X.look) (C4 args s)<| dN (Nat.ble (dX args) fn.ntmps)<| KY E fn (lN E ih lf c (kv args (nat_lit 0) .nil) s)) n
end
def ni (P:Program)(f:FuncId)(h:xr):Prop:=∀args s v s',h args s=some (v,s')->aH s s'/\∀Y A ρ w gi,pb P Y A ρ s s' w->Gl A ρ->LR A ρ args gi->kM P f ⟨gi⟩ w λv' w'=>pg P Y A ρ s s' w v v' w'
structure Wl (E:iq)(P:Program)(X:fY):Prop where
 wT:∀p∈X.wT,ni P p.1 p.2
 enter:∀f fn c,E.fn.get f=some fn->fn.body=some c->∀args w,(callFunc f args).run P w= .ok (.enter f args) w
 code:∀f fn c,E.fn.get f=some fn->f≠X.look->fn.body=some c->codeOk fn.ntmps c=true
 sc:∀x w,(callFunc X.sc #[x]).run P w= .ok (.value x) w
 indexByte:∀(z:List UInt8)(c:Nat) w,c<256->(callFunc X.indexByte #[.string ⟨⟨z⟩⟩,.int .u8 (.ofNat c)]).run P w= .ok (.value (.int .i64 (yK c z 0))) w
 byte:P.cellsOf X.byte=1
 s9:∀fn,E.fn.get X.s9=some fn->∀(n:Nat) w,n<=1000000->∃cs:aY,(callFunc X.s9 #[.int .i64 (.ofNat n)]).run P w= .ok (.value (.slice (some ⟨w.heap.size,0,none⟩) n cs.length)) (w.drew.drew.alloc (.cells ⟨cs⟩ X.byte))/\cs.length<=maxLen
 look:∀fn,E.fn.get X.look=some fn->∀(b o n c:Nat)(a:aS)(k:Nat)(g:Value)(i:Nat)(z:List UInt8) w,i<n->w.cell? ⟨b,o+i,none⟩=some (.string ⟨⟨z⟩⟩)->
  Calls P X.look #[.agg ⟨[.slice (some ⟨b,o,none⟩) n c,.slice a 0 k,g]⟩,.int .i64 (.ofNat i)] w λe w'=>e= .returned (.string ⟨⟨z⟩⟩)/\Fr w w' λ_=>False
section
theorem vQ (r:ResultVar)(l:List ResultVar)(s:St):C3 E tm (r::l) s=match r with
  |.tmp t=>ob (C3 E tm l s) λp=>some (lX (tm.get t)::p.1,p.2)
  |.cell a t=>Fv (lX (tm.get a)) λb o=>ob (lM E s t b o) λq=>ob (C3 E tm l q.2) λp=>some (q.1::p.1,p.2):=rfl
theorem Jb (hE:cW E P):∀(l:List ResultVar)(s:St){vs:aY}{s':St},C3 E tm l s=some (vs,s')->aH s s'/\s'.heap=s.heap/\s'.next=s.next/\∀X A ρ w (a:Act),(∀b,In s'.cV b->X b)->eX P X A ρ s.heap.get w->(∀t,VR A ρ (lX (tm.get t)) (a.tmps.getD t undef))->
  ∃Cu,(l.mapM (λ(r:ResultVar)=>match r with|.tmp t=>pure (a.tmps.getD t undef)|.cell x t=>do loadVar t (<-asAddr (a.tmps.getD x undef))):Sem (aY)).run P w= .ok Cu w/\LR A ρ vs Cu
 |[],s,vs,s',h=>by
  have:=iU h;simp only[cw] at this;obtain⟨rfl,rfl⟩:=this;exact⟨aH.refl _,rfl,rfl,λX A ρ w a _ _ _=>⟨[],ay,LR.nil⟩⟩
 |r::l,s,vs,s',h=>by
  rw[vQ] at h;cases r with
  |tmp t=>
   obtain⟨⟨vs1,s1⟩,h1,h2⟩:=aF h;have:=iU h2;simp only[cw] at this;obtain⟨rfl,rfl⟩:=this;obtain⟨hg,e1,e2,hk⟩:=Jb hE l s h1;refine⟨hg,e1,e2,λX A ρ w a hX jz ht=>?_⟩;obtain⟨Cu,h3,h4⟩:=hk X A ρ w a hX jz ht;refine⟨a.tmps.getD t undef::Cu,?_,LR.cons (ht t) h4⟩;simp only[FG,Sem.run_bind,Sem.run_pure,Result.andThen_ok,h3]
  |cell x t=>
   obtain⟨b,o,hx,h1⟩:=IQ h;obtain⟨⟨v,s1⟩,h2,h3⟩:=aF h1;obtain⟨⟨vs1,s2⟩,h4,h5⟩:=aF h3;have:=iU h5;simp only[cw] at this;obtain⟨rfl,rfl⟩:=this;obtain⟨rfl,hl⟩:=K2 hE h2;obtain⟨hg,e1,e2,hk⟩:=Jb hE l _ h4;refine⟨(aH.aU s b).trans hg,by rw[e1];simp,by rw[e2];simp,λX A ρ w a hX jz ht=>?_⟩;obtain⟨v',h6,h7⟩:=hl X A ρ w (hX b (hg.cV b (fQ s b))) jz;obtain⟨Cu,h8,h9⟩:=hk X A ρ w a hX (by simpa using jz) ht;refine⟨v'::Cu,?_,LR.cons h7 h9⟩;have hv:=ht x;rw[hx] at hv;(have FK:(asAddr (a.tmps.getD x undef)).run P w= .ok ⟨(ρ b).1,o,none⟩ w:=by rw[hv.nR];rfl);simp only[FG,Sem.run_bind,FK,Sem.run_pure,Result.andThen_ok,h6,h8]
theorem aaE {vs Cu:aY}(h:LR A ρ vs Cu):VR A ρ (gK vs) (if h:(⟨Cu⟩:Array Value).size=1 then(⟨Cu⟩:Array Value)[0] else .tuple ⟨Cu⟩):=by
 have hl:=h.length;unfold gK;split
 .rename_i v;obtain⟨u,us,rfl,hu,SM⟩:=h.iM;have:us=[]:=mj (by simpa using hl);subst this;simpa using hu
 .rename_i gh;rw[dif_neg]
  .exact VR.tuple h
  .intro h1;have h2:vs.length=1:=by rw[<-hl];simpa using h1
   match vs,h2 with
   |[v],_=>exact gh v rfl
theorem Jc (v:Value)(l:aY)(i:Nat)(tm:Tm):kv (v::l) i tm=kv l (i+1) (tm.set (Nat.succ i) i (some v)):=by
 have h:kv (v::l) i tm=VA v λv=>(tm.set (Nat.succ i) i (some v)).now λtm=>kv l (Nat.succ i) tm:=rfl
 rw[h,aak,T.Ou]
theorem vb:∀(l:aY)(i:Nat)(tm:Tm)(t:Nat),(kv l i tm).get t=if i<=t/\t<i+l.length then l[t-i]? else tm.get t
 |[],i,tm,t=>by
  have:kv [] i tm=tm:=rfl;rw[this,if_neg (by simp only[kC];omega)]
 |v::l,i,tm,t=>by
  rw[Jc,vb l,T.vG];by_cases h:t=i
  .subst h;rw[if_neg af,if_pos rfl,if_pos ay];simp
  .simp only[h,pQ];by_cases h2:i+1<=t/\t<i+1+l.length
   .rw[if_pos h2,if_pos (by simp;omega)];rw[show t-i=(t-(i+1))+1 by omega];simp
   .rw[if_neg h2,if_neg (by simp;omega)]
theorem akE {a b:Bool}:bo a b false=(a&&b):=by cases a<;>rfl
theorem S4 {a b:Bool}(h:OQ a b=true):a=b:=by cases a<;>cases b<;>simp_all [OQ]
theorem Wm {a b:aS}(h:pEq a b=true):a=b:=by
 unfold pEq at h;split at h
 .rfl
 .rw[bI] at h;have h1:=nV h.1;have h2:=nV h.2;subst h1 h2;rfl
 .cases h
mutual
theorem OR:∀(x y:Value),Dt x y=true->x=y
 |.bool a,y,h=>by
  cases y<;>simp only[Dt,jN] at h
  rw[S4 h]
 |.int k a,y,h=>by
  cases y<;>simp only[Dt,jN,bI] at h
  rw[vK h.1];have:=h.2;rw[jB] at this;simp at this;rw[this]
 |.string ⟨⟨a⟩⟩,y,h=>by
  cases y<;>simp only[Dt,jN] at h
  rw[eQ] at h;simp at h;rw[h]
 |.pointer a,y,h=>by
  cases y<;>simp only[Dt,jN] at h
  rw[Wm h]
 |.slice a l c,y,h=>by
  cases y<;>simp only[Dt,jN,bI] at h
  rw[Wm h.1.1,nV h.1.2,nV h.2]
 |.agg ⟨a⟩,y,h=>by
  cases y<;>simp only[Dt,jN] at h
  rw[Du _ _ h]
 |.tuple ⟨a⟩,y,h=>by
  cases y<;>simp only[Dt,jN] at h
  rw[Du _ _ h]
 |.func fn ⟨a⟩ ⟨b⟩,y,h=>by
  cases fn<;>cases y<;>(try(simp only[Dt,jN] at h;done))
  rename_i f fn2 c d;cases fn2<;>(try(simp only[Dt,jN] at h;done))
  simp only[Dt,bI] at h;rw[nV h.1.1,Du _ _ h.1.2,Du _ _ h.2]
 |.nilFunc,y,h=>by
  cases y<;>first|rfl|(simp only[Dt,jN] at h;done)
 |.nilIface,y,h=>by
  cases y<;>first|rfl|(simp only[Dt,jN] at h;done)
 |.float _ _,y,h=>by cases y<;>simp only[Dt,jN] at h
 |.complex _ _ _,y,h=>by cases y<;>simp only[Dt,jN] at h
 |.map a,y,h=>by
  cases y
  case map b=>
   (cases a<;>cases b<;>first|rfl|(simp only[Dt,jN] at h;done)|skip);rename_i a b;simp only[Dt] at h;rw[nV h]
  all_goals cases a<;>simp only[Dt,jN] at h
 |.chan _,y,h=>by cases y<;>simp only[Dt,jN] at h
 |.iface _ _,y,h=>by cases y<;>simp only[Dt,jN] at h
theorem Du:∀(x y:aY),lEq x y=true->x=y
 |[],[],_=>rfl
 |[],_::_,h=>by simp only[lEq,jN] at h
 |_::_,[],h=>by simp only[lEq,jN] at h
 |a::x,b::y,h=>by
  simp only[lEq,bI] at h;rw[OR a b h.1,Du x y h.2]
end
theorem kM.mono {f:FuncId}{args:Array Value}{R R':Value->World->Prop}(h:kM P f args w R)(hr:∀v w,R v w->R' v w):kM P f args w R':=by
 rcases h with⟨v,w',h1,h2⟩|⟨g,as_,w',h1,h2⟩
 .exact .inl ⟨v,w',h1,hr _ _ h2⟩
 .exact .inr ⟨g,as_,w',h1,h2.mono λe w'' ⟨v,he,hh⟩=>⟨v,he,hr _ _ hh⟩⟩
theorem Wn {X:fY}(hF:Wl E P X){fn:Func}(Ll:E.fn.get X.s9=some fn){args:aY}{v:Value}(h:zeroV X args s=some (v,s')):
  aH s s'/\∀Y A ρ w gi,pb P Y A ρ s s' w->Gl A ρ->LR A ρ args gi->kM P X.s9 ⟨gi⟩ w λv' w'=>pg P Y A ρ s s' w v v' w':=by
 unfold zeroV at h;split at h
 .rename_i n;obtain⟨hc,h2⟩:=bq h;simp only[bI,pe] at hc;have:=aJ h2;simp only[cw] at this;obtain⟨rfl,rfl⟩:=this;refine⟨aH.jd s _,λY A ρ w gi hp gL hl=>.inl ?_⟩;obtain⟨x',r,rfl,hx,hr⟩:=hl.iM;have:r=[]:=mj (by simpa using hr.length);subst this;rw[hx.mD];obtain⟨cs,oc,cX⟩:=hF.s9 fn Ll n w hc.2;refine⟨_,_,oc,ρ.at s.next (w.heap.size,cs.length),?_,?_⟩
  .have:=VR.slice (A:=dg A s.next (s.new (.cells [] X.byte true)).next) (ρ:=ρ.at s.next (w.heap.size,cs.length)) (b:=s.next) (o:=0) (l:=n) (c:=dS) (.inr ⟨cC _,ay⟩);simpa[bJ,de] using this
  .refine Good.alloc (o:=.cells [] X.byte true) (x:=.cells ⟨cs⟩ X.byte) hp.st hp.dI hp.lt (λc=>by simp) ay (j9 s _) (cC _) ?_ ?_ ?_
   .have:=heap_alloc_new w.drew.drew (.cells ⟨cs⟩ X.byte);exact this
   .refine⟨[],cs,(0,0),rfl,LR.nil,λ_=>⟨rfl,?_,?_,cX⟩,λh=>by cases h⟩
    .rw[hF.byte];simp
    .rw[hF.byte];exact Nat.one_pos
   .have:=Fr.alloc w.drew.drew (.cells ⟨cs⟩ X.byte);exact⟨this.os,this.tape,this.output,this.size,this.block⟩
 .cases h
theorem Good.aaF {s1:St}{w1:World}(jz:eX P X A ρ s.heap.get w)(C6:∀b,s.next<=b->s.heap.get b=none)(hn:s1.next=s.next)(hg:s1.heap=s.heap)(hf:Fr w w1 λ_=>False):Good P X A ρ s s1 w w1 ρ:=by refine⟨af,λ_ _=>rfl,?_,⟨hf.os,hf.tape,hf.output,hf.size,λr hr _=>hf.block r hr λh=>h⟩,λb _ h=>by rw[hg] at h;exact h,λb h1 h2=>by omega,λb _ _=>by rw[hg],λb hb=>by rw[hg];exact C6 b af⟩;rw[hg];refine⟨λb o hx hb=>?_,jz.inj⟩;obtain⟨h1,x,h2,h3⟩:=jz.kK b o hx hb;refine⟨.inl h1,x,?_,h3.mono (λi hi=>.inl hi) (λ_ _=>rfl)⟩;rw[hf.block _ (uK.1 h2).1 λh=>h];exact h2
theorem Wo {X:fY}(hF:Wl E P X)(Wp:∀args w,(callFunc X.look args).run P w= .ok (.enter X.look args) w){fn:Func}(Ll:E.fn.get X.look=some fn){args:aY}{v:Value}(h:C4 args s=some (v,s')):
  aH s s'/\∀Y A ρ w gi,pb P Y A ρ s s' w->Gl A ρ->LR A ρ args gi->kM P X.look ⟨gi⟩ w λv' w'=>pg P Y A ρ s s' w v v' w':=by
 unfold C4 at h;split at h
 .rename_i b o n c a k g i;obtain⟨hi,h2⟩:=bq h;have hi:i<n:=mR hi;obtain⟨cs,e,u,hg,h3⟩:=mo h2;obtain⟨v1,hv1,h4⟩:=aF h3;split at h4
  rotate_left
  .cases h4
  rename_i z;have:=aJ h4;simp only[cw] at this;obtain⟨rfl,rfl⟩:=this;rw[dO] at hv1;refine⟨aH.aU s b,λY A ρ w gi hp gL hl=>.inr ?_⟩;obtain⟨x',r,rfl,hx,hr⟩:=hl.iM;obtain⟨y',r2,rfl,hy,mG⟩:=hr.iM;have:r2=[]:=mj (by simpa using mG.length);subst this;rw[hy.mD];obtain⟨xs,rfl,N0⟩:=hx.QK;obtain⟨x1,xs,rfl,hx1,N0⟩:=N0.iM;obtain⟨x2,xs,rfl,S2,N0⟩:=N0.iM;obtain⟨x3,xs,rfl,hx3,N0⟩:=N0.iM;have:xs=[]:=mj (by simpa using N0.length);subst this;obtain⟨hA,c',aE,fr,r1,r2,r3,r4,r5,r6⟩:=hp.st.row (hp.cV b (fQ s b)) hg;obtain⟨v',OG,hv3⟩:=r2.get hv1;have OG:c'[o+i]?=some v':=OG;have akF:∃a' k',x2= .slice a' 0 k':=by
   cases a with
   |none=>exact⟨none,k,S2.je⟩
   |some a=>obtain⟨a',te⟩:=S2.ti;exact⟨some a',_,te⟩
  obtain⟨a',k',rfl⟩:=akF;rw[hx1.fR];have qk:w.cell? ⟨(ρ b).1,o+i,none⟩=some v':=by
   rw[vI r1,wB (sV.1 OG).1];exact OG
  have:=hv3.uW;subst this;refine⟨_,_,w,Wp _ _,(hF.look fn Ll (ρ b).1 o n _ a' k' x3 i z w hi qk).mono λe w' hh=>?_⟩;obtain⟨rfl,hf⟩:=hh;exact⟨_,rfl,ρ,hv3.mono (λi hi=>.inl hi) (λ_ _=>rfl),Good.aaF hp.st hp.dI ay ay hf⟩
 .cases h
theorem Ln {X:fY}{f:FuncId}{args:aY}{k:Option (Value×St)}{r:Value×St}(h:uV X f args s k=some r):k=some r\/∃p∈X.wT,p.1=f/\p.2 args s=some r:=by
 have key:∀l:List (Nat×xr),List.rec (motive:=λ_=>Option (Value×St)) k (λp _ ih=>bo (Nat.beq p.1 f) (p.2 args s) ih) l=some r->k=some r\/∃p∈l,p.1=f/\p.2 args s=some r:=by
  intro l;induction l with
  |nil=>exact λh=>.inl h
  |cons p l ih=>
   intro h;have h:bo (Nat.beq p.1 f) (p.2 args s) (List.rec (motive:=λ_=>Option (Value×St)) k (λp _ ih=>bo (Nat.beq p.1 f) (p.2 args s) ih) l)=some r:=h;rw[dJ] at h;split at h
   .rename_i hb;exact .inr ⟨p,ay,by simpa using hb,h⟩
   .rcases ih h with h|⟨q,hq,h1⟩
    .exact .inl h
    .exact .inr ⟨q,by simp[hq],h1⟩
 exact key X.wT h
theorem Dv (hE:cW E P){X:fY}(hF:Wl E P X)(hm:P.follows .mixedOrders=true)(lf:Nat){tab:List Ent}(hT:∀e∈tab,False):∀n,dK P (oP E X lf tab n)
 |0=>λf args s v s' h=>by cases h
 |n+1=>λf args s v s' h=>by
  obtain⟨fn,Ll,h1⟩:=aF h;rcases Ln h1 with hk|⟨p,hp,Wq,hk⟩
  case inr=>subst Wq;exact hF.wT p hp args s v s' hk
  clear h1;have h1:=hk;clear hk;split at h1
  .unfold KX at h1;rw[dJ,dJ,dJ] at h1;split at h1
   .rename_i hf;have hf:f=X.sc:=by simpa using hf
    subst hf;obtain⟨u,hu,h2⟩:=aF h1;have:=aJ h2;simp only[cw] at this;obtain⟨rfl,rfl⟩:=this;refine⟨aH.refl _,λY A ρ w gi hp gL hl=>.inl ?_⟩;unfold id1 at hu;split at hu
    .rename_i x;have:=iU hu;subst this;obtain⟨x',r,rfl,hx,hr⟩:=hl.iM;have:r=[]:=mj (by simpa using hr.length);subst this;exact⟨x',w,hF.sc x' w,ρ,hx.mono (λi hi=>.inl hi) (λ_ _=>rfl),Good.refl hp.st hp.dI⟩
    .cases hu
   .split at h1
    .rename_i hf;have hf:f=X.indexByte:=by simpa using hf
     subst hf;obtain⟨u,hu,h2⟩:=aF h1;have:=aJ h2;simp only[cw] at this;obtain⟨rfl,rfl⟩:=this;refine⟨aH.refl _,λY A ρ w gi hp gL hl=>.inl ?_⟩;unfold VE at hu;split at hu
     .rename_i z c;obtain⟨ag9,hu⟩:=bq hu;have:=iU hu;subst this;obtain⟨x',r,rfl,hx,hr⟩:=hl.iM;obtain⟨y',r2,rfl,hy,mG⟩:=hr.iM;have:r2=[]:=mj (by simpa using mG.length);subst this;rw[hx.uW,hy.mD];exact⟨_,w,hF.indexByte z c w (mR ag9),ρ,VR.int _ _,Good.refl hp.st hp.dI⟩
     .cases hu
    .split at h1
     .rename_i hf;have hf:f=X.s9:=by simpa using hf
      subst hf;exact Wn hF Ll h1
     .cases h1
  .rename_i c hc;rw[dJ] at h1;split at h1
   .rename_i hf;have hf:f=X.look:=by simpa using hf
    subst hf;exact Wo hF (hF.enter _ fn c Ll hc) Ll h1
   rename_i aee;(have aee:f≠X.look:=by simpa using aee);obtain⟨hla,h2⟩:=bq h1;have hla:args.length<=fn.ntmps:=by simpa using hla
   obtain⟨⟨e,tm,s1⟩,h3,h4⟩:=aF h2;have ih:=Dv hE hF hm lf hT n;have Ws:=Wk hE ih hm lf c (hF.code f fn c Ll aee hc) _ _ _ _ _ h3;have key:∀(gh:e= .normal\/e= .ret),(ob (C3 E tm fn.results.toList s1) λp=>some (gK p.1,p.2))=some (v,s')->aH s s'/\∀Y A ρ w gi,pb P Y A ρ s s' w->Gl A ρ->LR A ρ args gi->kM P f ⟨gi⟩ w λv' w'=>pg P Y A ρ s s' w v v' w':=by
    intro gh h5;obtain⟨⟨vs,s2⟩,h6,h7⟩:=aF h5;have:=iU h7;simp only[cw] at this;obtain⟨rfl,rfl⟩:=this;obtain⟨Cr,e1,e2,Jd⟩:=Jb hE _ _ h6;refine⟨Ws.1.trans Cr,λY A ρ w gi hp gL hl=>.inr ⟨f,⟨gi⟩,w,hF.enter f fn c Ll hc _ _,?_⟩⟩;refine calls_of_wp (hE.fn f fn Ll) hc ?_;have acF:gi.length=args.length:=hl.length;have ht:N2 A ρ fn.ntmps (kv args 0 .nil) {tmps:=(⟨gi⟩:Array Value)++Array.replicate (fn.ntmps-(⟨gi⟩:Array Value).size) undef,defers:=[]}:=by
     refine⟨by simp;omega,λt=>?_⟩;rw[vb,T.get_nil];by_cases h8:0<=t/\t<0+args.length
     .rw[if_pos h8,Nat.sub_zero];have h9:t<args.length:=by omega
      obtain⟨u',hu1,VY⟩:=hl.get (bc h9);rw[bc h9];have Fx:((⟨gi⟩:Array Value)++Array.replicate (fn.ntmps-(⟨gi⟩:Array Value).size) undef).getD t undef=u':=by
       rw[Qx,aaf (by simp;omega)];simp[hu1]
      rw[Fx];exact VY
     .rw[if_neg h8];have Fx:((⟨gi⟩:Array Value)++Array.replicate (fn.ntmps-(⟨gi⟩:Array Value).size) undef).getD t undef=undef:=by
       rw[Qx,Array.getElem?_append_right (by simp;omega)];simp only[Array.getElem?_replicate];split<;>rfl
      rw[Fx];exact VR.undef
    have VU:pb P Y A ρ s s1 w:=hp.part Cr;refine Ws.2 Y A ρ w _ _ VU gL ht λa1 w1 G2=>?_
    obtain⟨hd,B3,ht1,hG⟩:=G2;obtain⟨Cu,h8,h9⟩:=Jd Y (dg A s.next s1.next) B3 w1 a1 hp.cV hG.state ht1.2;have oc:(results fn a1.tmps).run P w1= .ok (if h:(⟨Cu⟩:Array Value).size=1 then(⟨Cu⟩:Array Value)[0] else .tuple ⟨Cu⟩) w1:=by
     unfold results;rw[Array.mapM_eq_mapM_toList];simp only[map_eq_pure_bind,Sem.run_bind,Sem.run_pure];generalize hXX:Sem.run P (List.mapM _ fn.results.toList) w1=XX;have S2:XX= .ok Cu w1:=hXX.symm.trans h8;rw[S2];rfl
    have G1:∃v,Ending.returned (if h:(⟨Cu⟩:Array Value).size=1 then(⟨Cu⟩:Array Value)[0] else .tuple ⟨Cu⟩)= .returned v/\pg P Y A ρ s s2 w (gK vs) v w1:=by
     refine⟨_,rfl,B3,?_,?_⟩
     .rw[e2];exact aaE h9
     .exact Good.trans hp.cV Ws.1 Cr hp.lt hG (Good.VG hG.state hG.dI e2 e1 rfl rfl rfl rfl)
    rcases gh with rfl|rfl
    .exact⟨hd,_,oc,G1⟩
    .exact⟨hd,_,oc,G1⟩
   cases e with
   |normal=>exact key (.inl rfl) h4
   |ret=>exact key (.inr rfl) h4
   |exit id=>cases h4
end
end Go.Ev
namespace Go.Pl
abbrev aC:=List UInt8
def fM (n lo hi:Int):Bool:=decide (lo<=n)&&decide (n<=hi)
def gM (n:Nat):aC:=if h:n<10 then [UInt8.ofNat (48+n)] else gM (n/ 10)++[UInt8.ofNat (48+n% 10)]
def dec (n:Int):aC:=match n with
 |.ofNat n=>gM n
 |.negSucc n=>45::gM (n+1)
def kP (c:UInt8):Bool:=decide (48<=c.toNat)&&decide (c.toNat<=57)
def tD (s:aC):aC:=(s.take 9).takeWhile kP
def numOf (s:aC):Nat:=s.foldl (λn c=>10*n+(c.toNat-48)) 0
def kQ (s:aC):Nat×Nat:=
 let d:=tD s
 if 1<d.length/\s.headD 0=48 then(0,1) else(numOf d,d.length)
def iN (s:aC):Option Nat:=
 let r:=kQ s
 if r.2=0\/r.2≠s.length then none else some r.1
def cut (c:UInt8):aC->List aC
 |[]=>[[]]
 |x::s=>if x=c then []::cut c s else match cut c s with
  |[]=>[[x]]
  |w::r=>(x::w)::r
def fieldsOf (l:List aC):aC:=(l.map λs=>gM s.length++58::s).flatten
def kR:List aC->aC->Option aC
 |[],out=>some out
 |s::l,out=>if 2048<s.length then none else
  let o:=out++(gM s.length++58::s)
  if 2048<o.length then none else kR l o
def jg (l:List aC):Option aC:=if 60<l.length then none else kR l []
def sr:Nat->aC->List aC->Option (List aC)
 |0,_,_=>none
 |_+1,[],out=>some out
 |f+1,s,out=>
  let(n,k):=kQ s
  if k=0\/s.length<=k\/s.getD k 0≠58\/s.length-k-1<n then none
  else sr f (s.drop (k+1+n)) (out++[(s.drop (k+1)).take n])
def eS (s:aC):Option (List aC):=
 match(if 2048<s.length then some [] else sr (s.length+1) s []) with
 |none=>none
 |some out=>match jg out with
  |none=>none
  |some t=>if t=s then some out else none
def Lo:aC->Nat->Nat->Nat
 |[],a,b=>a*9973+b
 |c::s,a,b=>Lo s ((a+c.toNat+1)% 9973) ((b+(a+c.toNat+1)% 9973)% 9973)
def sumOf (s:aC):Nat:=Lo s 1 0
structure jt where
 row:Int
 di:Int
 size:Int
 sum:Int
 level:Int
deriving DecidableEq,Repr,Inhabited
abbrev c9:=List jt
def bz:jt:=⟨0,0,0,0,0⟩
def aK (p:jt):Bool:=decide (p=bz)
def S5 (n:Int):Bool:=fM n 8 63
def Je (s:aC):Bool:=decide (1<=s.length)&&decide (s.length<=128)
def bB (p:jt):Bool:=aK p||(S5 p.row&&fM p.di 1 900&&fM p.size 1 128&&fM p.sum 0 99460728&&fM p.level 0 2)
def eH (p:jt):aC:=if !bB p then [] else if aK p then [45] else
 dec p.row++46::(dec p.di++46::(dec p.size++46::(dec p.sum++46::dec p.level)))
def jh (s:aC):Option jt:=if s=[45] then some bz else
 match cut 46 s with
 |[a,b,c,d,e]=>match iN a,iN b,iN c,iN d,iN e with
  |some a,some b,some c,some d,some e=>
   let p:jt:=⟨a,b,c,d,e⟩
   if !bB p||aK p then none else some p
  |_,_,_,_,_=>none
 |_=>none
def ss (row di level:Int)(s:aC):Option jt:=
 let p:jt:=⟨row,di,s.length,sumOf s,level⟩
 if !Je s then none else if !bB p then none else some p
def fits (p:jt)(s:aC):Bool:=bB p&&!aK p&&decide (p.size=s.length)&&decide (p.sum=sumOf s)
def iD (c:UInt8):List aC->aC
 |[]=>[]
 |[s]=>s
 |s::l=>s++c::iD c l
def kn (l:c9):Option aC:=
 if l.length≠4 then none else if l.any (λp=>!bB p) then none else if l.all aK then none else some (iD 44 (l.map eH))
def ko (s:aC):Option (c9):=
 match(cut 44 s).mapM jh with
 |none=>none
 |some l=>if l.length≠4\/l.all aK then none else some l
structure ar where
 ej:List aC
 bd:List Int
 dm:List Int
 fH:Int
 cP:c9
 oQ:Int
 eg:c9
 same:Bool
deriving Repr,Inhabited
def bV (same:Bool):ar:=⟨List.replicate 64 [],List.replicate 64 0,List.replicate 64 0,1,[],0,[],same⟩
def gw (st:ar)(p:jt):aC:=st.ej.getD p.row.toNat []
def jT (st:ar)(p:jt):Option aC:=if aK p then some [] else if fits p (gw st p) then some (gw st p) else none
def yX (st:ar)(s:aC)(i:Nat):Bool:=decide (st.ej.getD i []=s)&&decide (st.dm.getD i 0<st.fH)&&decide (st.bd.getD i 0<st.fH)
def nS (p:Nat->Bool):Nat->Nat->Option Nat
 |0,_=>none
 |n+1,i=>if p i then some i else nS p n (i+1)
def Wt (st:ar)(s:aC):Option Nat:=nS (yX st s) 56 8
def Dw (st:ar):Option Nat:=nS (λi=>decide (st.bd.getD i 0=0)) 56 8
def oF (st:ar)(s:aC)(level:Int):Option Nat:=
 match(if st.same&&decide (level=0) then Wt st s else none) with
 |some i=>some i
 |none=>Dw st
def bh (st:ar)(s:aC)(level:Int):Option (ar×jt):=
 match oF st s level with
 |none=>none
 |some i=>match ss i st.fH level s with
  |none=>none
  |some p=>some ({st with ej:=st.ej.set i s,bd:=st.bd.set i (st.bd.getD i 0+1),dm:=st.dm.set i st.fH},p)
def drop (st:ar)(row:Int):ar:=
 let i:=row.toNat
 let n:=st.bd.getD i 0-1
 {st with bd:=st.bd.set i n,dm:=if n=0 then st.dm.set i 0 else st.dm,ej:=if n=0 then st.ej.set i [] else st.ej}
def free (st:ar)(p:jt):ar:=
 if aK p then st else if p.di<=st.oQ then {st with eg:=st.eg++[p]} else if p.di<st.fH then {st with cP:=st.cP++[p]} else drop st p.row
def next (st:ar):ar:={(st.cP.foldl (λst p=>drop st p.row) st) with cP:=[],fH:=st.fH+1}
structure cB where
 cG:jt
 depth:Int
 many:Int
deriving DecidableEq,Repr,Inhabited
def eY:cB:=⟨bz,0,0⟩
def cQ (many:Int):Int:=if many<=1 then 0 else if many<=4 then 1 else 2
def da (n:Nat):c9:=List.replicate n bz
def below (st:ar)(p:jt)(level:Int):Option (c9):=
 if aK p then some (da 4) else
 if !bB p||decide (p.level≠level)||decide (st.fH<p.di) then none else
 match jT st p with
 |none=>none
 |some s=>match ko s with
  |none=>none
  |some l=>if l.any (λq=>decide (p.di<q.di)) then none else some l
def down (st:ar)(level:Int)(l:c9):Option (c9):=(l.mapM λp=>below st p level).map List.flatten
def gR (st:ar)(t:cB):Option (c9):=go t.depth.toNat [t.cG]
where go:Nat->c9->Option (c9)
 |0,l=>some l
 |n+1,l=>match down st (n+1:Nat) l with
  |none=>none
  |some l=>go n l
def kT (st:ar)(many:Int)(i:Nat)(p:jt):Bool:=aK p||((jT st p).isSome&&decide (p.level=0)&&decide (p.di<=st.fH)&&decide ((i:Int)<many))
def kx (f:Nat->jt->Bool):Nat->c9->Bool
 |_,[]=>true
 |i,p::l=>f i p&&kx f (i+1) l
def fk (st:ar)(t:cB):Bool:=
 fM t.many 0 16&&decide (t.depth=cQ t.many)&&bB t.cG&&match gR st t with
  |none=>false
  |some l=>kx (kT st t.many) 0 l
def wide (st:ar)(t:cB):c9:=
 let l:=(gR st t).getD []
 l++da (16-l.length)
def a8 (st:ar)(p:jt):aC:=(jT st p).getD []
def Dx (st:ar)(t:cB)(k:Nat):aC:=a8 st ((wide st t).getD k bz)
def ij (st:ar)(t:cB):List aC:=((wide st t).take t.many.toNat).map (a8 st)
def fK (st:ar)(t:cB):c9:=
 if t.depth=0\/aK t.cG then [] else
 t.cG::if t.depth=2 then((below st t.cG 2).getD []).filter (λp=>!aK p) else []
def OS (st:ar)(l:c9)(level:Int)(old:jt):Option (ar×jt):=
 if l.all aK then some (st,bz) else
 let s:=(kn l).getD []
 if !aK old&&fits old s&&decide (gw st old=s) then some (st,old) else bh st s level
def iT (st:ar)(t:cB)(depth level:Int):c9:=
 if t.depth≠depth then da 4 else if level=depth then [t.cG] else(below st t.cG depth).getD (da 4)
def eZ (l:c9):c9:=l++da ((4-l.length% 4)% 4)
def kq (level:Int):c9->c9->ar->c9->c9->ar×Option (c9×c9)
 |a::b::c::d::l,was,st,stays,out=>match OS st [a,b,c,d] level (was.headD bz) with
  |none=>(st,none)
  |some (st,p)=>kq level l was.tail st (if p=was.headD bz then stays++[p] else stays) (out++[p])
 |_,_,st,stays,out=>(st,some (stays,out))
def ir (t:cB)(depth:Int):Nat->Int->c9->ar->c9->ar×Option (c9×c9)
 |0,_,l,st,stays=>(st,some (stays,l))
 |n+1,level,l,st,stays=>match kq level (eZ l) (iT st t depth level) st stays [] with
  |(st,none)=>(st,none)
  |(st,some (stays,l))=>ir t depth n (level+1) l st stays
def dC (l:c9)(st:ar):ar:=l.foldl free st
def gY (st:ar)(t:cB)(lv:c9)(many:Int):ar×Option cB:=
 let depth:=cQ many
 let old:=fK st t
 match ir t depth depth.toNat 1 (lv.take many.toNat) st [] with
 |(st,none)=>(st,none)
 |(st,some (stays,l))=>(dC (old.filter λp=>!(stays.contains p)) st,some ⟨l.headD bz,depth,many⟩)
def Jg (st:ar)(s:aC):Option (ar×jt):=if s=[] then some (st,bz) else bh st s 0
def nK (st:ar)(t:cB)(k:Nat)(s:aC):ar×cB×Bool:=
 let lv:=wide st t
 let old:=lv.getD k bz
 let was:=a8 st old
 let many:=max t.many (k+1)
 if was=s/\many=t.many then(st,t,true) else
 match(if was=s then some (st,old) else Jg st s) with
 |none=>(st,t,false)
 |some (st1,p)=>match gY st1 t (lv.set k p) many with
  |(eI,none)=>(eI,eY,false)
  |(eI,some t2)=>(if p=old then eI else free eI old,t2,true)
def tE (st:ar)(t:cB)(many:Int):ar×cB×Bool:=
 if many=t.many then(st,t,true) else
 let lv:=wide st t
 match gY st t lv many with
 |(eI,none)=>(eI,t,false)
 |(eI,some t2)=>(dC (lv.drop many.toNat) eI,t2,true)
def qq:Nat->ar->c9->c9->Option (c9)
 |0,_,_,_=>none
 |_+1,_,[],out=>some out
 |f+1,st,p::l,out=>if aK p then qq f st l out else
  qq f st (if 0<p.level then(below st p p.level).getD []++l else l) (out++[p])
structure iE where
 kind:Int
 bF:Int
 size:Int
 a6:cB
deriving DecidableEq,Repr,Inhabited
def bA:iE:=⟨0,0,0,eY⟩
def dn (size each:Int):Int:=(size+each-1)/ each
def fm (kind:Int):Int:=if kind=1 then 12 else if kind=2 then 128 else 0
def fp (kind size:Int):Int:=if fm kind=0||!fM size 0 (16*fm kind) then -1 else dn size (fm kind)
def ew (n:iE):Bool:=
 let many:=fp n.kind n.size
 !(decide (many<0)||decide (n.a6.many≠many)||decide (n.a6.depth≠cQ many)||!bB n.a6.cG)&&
   (fM n.bF 1 (if n.kind=2 then 1 else 9)&&(aK n.a6.cG||decide (n.a6.cG.level=n.a6.depth)))
def jU (n:iE):List aC:=[dec n.kind,dec n.bF,dec n.size,eH n.a6.cG,dec n.a6.depth,dec n.a6.many,[101,110,100]]
def gf (n:iE):aC:=if !ew n then [] else(jg (jU n)).getD []
def qR (s:aC):Int:=((iN s).getD 0:Nat)
def eL (s:aC):Option iE:=match eS s with
 |some [a,b,c,d,e,f,_]=>
  let n:iE:=⟨qR a,qR b,qR c,(jh d).getD bz,qR e,qR f⟩
  if !ew n||decide (gf n≠s) then none else some n
 |_=>none
def nL (s:aC):aC:=(s.reverse.dropWhile (·=0)).reverse
def mI (n:Int):aC:=List.replicate n.toNat 0
def oG (st:ar)(t:cB):Bool:=fk st t&&(ij st t).all λs=>decide (s=[])||match eL s with
 |none=>false
 |some n=>fk st n.a6
def ji (st:ar)(t:cB)(k:Int):Option iE:=if !fM k 0 (t.many-1) then none else eL (Dx st t k.toNat)
def nb (st:ar)(t:cB)(k:Nat)(n:iE):ar×cB×Bool:=nK st t k (gf n)
def mr (By:Int):Nat->Nat->List aC->Nat
 |_,n,[]=>n
 |k,n,s::l=>mr By (k+1) (if decide ((k:Int)≠By)&&decide (s≠[]) then k+1 else n) l
def ri (st:ar)(t:cB)(By:Int):Nat:=mr By 0 0 (ij st t)
def vc (st:ar)(t:cB):Option Nat:=nS (λk=>decide ((ij st t).getD k []=[])) 16 0
def xC (st:ar)(t:cB):c9:=(qq 200 st [t.cG] []).getD []
def gg (st:ar)(t:cB)(k:Int):ar×cB×Bool:=
 let n:=(ji st t k).getD bA
 let many:=ri st t k
 match nK (dC (xC st n.a6) st) t k.toNat [] with
 |(st,t,false)=>(st,t,false)
 |(st,t,true)=>tE st t many
structure bg where
 name:aC
 id:Int
deriving DecidableEq,Repr,Inhabited
def aV (s:aC):Bool:=s.all (λc=>decide (97<=c.toNat)&&decide (c.toNat<=122))&&decide (1<=s.length)&&decide (s.length<=4)
def bO:aC->aC->Bool
 |[],[]=>false
 |[],_::_=>true
 |_::_,[]=>false
 |a::s,b::t=>if a.toNat<b.toNat then true else if b.toNat<a.toNat then false else bO s t
def mT:List bg->Bool
 |a::b::l=>bO a.name b.name&&mT (b::l)
 |_=>true
def bC (l:List bg):Bool:=l.all (λe=>aV e.name&&fM e.id 1 15)&&mT l&&decide (l.length<=12)
def bj (l:List bg):aC:=(l.map λe=>e.name++61::(dec e.id++[59])).flatten
def mb (s:aC):Option bg:=match cut 61 s with
 |[a,b]=>some ⟨a,qR b⟩
 |_=>none
def iO (s:aC):Option (List bg):=match(cut 59 s).dropLast.mapM mb with
 |none=>none
 |some l=>if !bC l||decide (bj l≠s) then none else some l
def ey (l:List bg)(name:aC):Option Nat:=l.findIdx? λe=>decide (e.name=name)
def gx (l:List bg)(e:bg):List bg:=match l with
 |[]=>[e]
 |x::l=>if bO e.name x.name then e::x::l else x::gx l e
def ek (l:List bg)(i:Nat):List bg:=l.take i++l.drop (i+1)
def dw:Nat->aC->List aC
 |0,_=>[]
 |f+1,s=>if 128<s.length then s.take 128::dw f (s.drop 128) else if s=[] then [] else [s]
def lA:List aC->Nat->ar->cB->ar×cB×Bool
 |[],_,st,t=>(st,t,true)
 |s::l,i,st,t=>match nK st t i s with
  |(st,t,true)=>lA l (i+1) st t
  |(cZ,_,false)=>(cZ,t,false)
def ky (st:ar)(t:cB)(s:aC):ar×cB×Bool:=
 let l:=dw (s.length+1) s
 if 16<l.length then(st,t,false) else match lA l 0 st t with
  |(st,t,false)=>(st,t,false)
  |(st,t,true)=>tE st t l.length
def ph (many:Int):Nat->List aC->aC->Option aC
 |_,[],out=>some out
 |k,s::l,out=>if decide (s=[])||(decide ((k:Int)+1<many)&&decide (s.length≠128)) then none else ph many (k+1) l (out++s)
def oH (st:ar)(t:cB):Option aC:=ph t.many 0 (ij st t) []
def bN (st:ar)(n:iE):Option (List bg):=
 if !ew n||decide (n.kind≠2)||!fk st n.a6 then none else match oH st n.a6 with
  |none=>none
  |some s=>if(s.length:Int)≠n.size then none else iO s
def gj (size:Int)(k:Nat):Int:=min 12 (size-k*12)
def kU (st:ar)(n:iE):Bool:=ew n&&decide (n.kind=1)&&fk st n.a6&&go 0 (ij st n.a6)
where go:Nat->List aC->Bool
 |_,[]=>true
 |k,s::l=>decide ((s.length:Int)<=gj n.size k)&&decide (nL s=s)&&go (k+1) l
def qt (size:Int):Nat->List aC->aC->aC
 |_,[],out=>out
 |k,s::l,out=>qt size (k+1) l (out++s++mI (gj size k-s.length))
def bD (st:ar)(n:iE):aC:=qt n.size 0 (ij st n.a6) []
def ka (s:aC):Nat->Nat->ar->iE->ar×iE×Bool
 |0,_,st,n=>(st,n,true)
 |m+1,k,st,n=>match nK st n.a6 k (nL ((s.take (min s.length ((k+1)*12))).drop (k*12))) with
  |(st,t,true)=>ka s m (k+1) st {n with a6:=t}
  |(cZ,_,false)=>(cZ,n,false)
def gC (st:ar)(n:iE)(s:aC)(a b:Nat):ar×iE×Bool:=ka s (b+1-a) a st {n with size:=s.length}
def jE (all:aC)(at_:Nat)(s:aC):aC:=
 let all:=all++mI ((at_:Int)-all.length)
 all.take at_++s++all.drop (min all.length (at_+s.length))
def fF (st:ar)(n:iE)(at_:Nat)(s:aC):ar×iE×Bool:=
 if s=[] then(st,n,true) else gC st n (jE (bD st n) at_ s) (at_/ 12) ((at_+s.length-1)/ 12)
def fq (st:ar)(n:iE)(size:Nat):ar×iE×Bool:=
 let all:=bD st n
 let many:=dn size 12
 if n.size<=size then
  let n:={n with size:=(size:Int)}
  if many=n.a6.many then(st,n,true) else match nK st n.a6 (many-1).toNat [] with
   |(st,t,ok)=>(st,{n with a6:=t},ok)
 else match tE st n.a6 many with
  |(cZ,_,false)=>(cZ,n,false)
  |(st,t,true)=>
   let n:={n with a6:=t,size:=(size:Int)}
   if many=0 then(st,n,true) else gC st n (all.take size) (many-1).toNat (many-1).toNat
def aI (s:aC):List aC:=if s=[47] then [] else(cut 47 s).tail
def aT (s:aC):Bool:=if s=[47] then true else if s=[]||decide (s.headD 0≠47) then false else(aI s).all aV&&decide ((aI s).length<=4)
def pathOf (l:List aC):aC:=if l=[] then [47] else(l.map λs=>47::s).flatten
def under (s top:aC):Bool:=aT s&&aT top&&decide ((aI top).length<=(aI s).length)&&decide (pathOf ((aI s).take (aI top).length)=pathOf (aI top))
structure Op where
 kind:Int
 ag:aC
 to:aC
 at_:Int
 a8:aC
deriving DecidableEq,Repr,Inhabited
def kV (o:Op):Bool:=
 let two:=decide (o.kind=6)||decide (o.kind=7)
 let at2:=decide (o.kind=3)||decide (o.kind=4)
 if !fM o.kind 1 7||!aT o.ag||(two&&!aT o.to)||(!two&&decide (o.to≠[])) then false
 else if(decide (o.kind≠3)&&decide (o.a8≠[]))||decide (24<o.a8.length) then false
 else decide (o.at_=0)||(at2&&fM o.at_ 0 192)
structure Fs where
 st:ar
 t:cB
 cq:Bool
deriving Repr,Inhabited
def oR (E:Int->Option (List bg)):List aC->Int->Int
 |[],at_=>at_
 |s::l,at_=>match E at_ with
  |none=>-1
  |some es=>match ey es s with
   |none=>-1
   |some k=>oR E l (es.getD k ⟨[],0⟩).id
namespace Fs
def node (f:Fs)(id:Int):iE:=(ji f.st f.t id).getD bA
def bG (f:Fs)(id:Int):List bg:=(bN f.st (f.node id)).getD []
def put (f:Fs)(id:Int)(n:iE):Fs:=if f.cq then f else match nb f.st f.t id.toNat n with
 |(st,t,ok)=>⟨st,t,!ok⟩
def bh (f:Fs)(id:Int)(l:List bg):Fs:=if f.cq then f else
 let n:=f.node id
 let s:=bj l
 match ky f.st n.a6 s with
 |(st,t,ok)=>Fs.put ⟨st,f.t,!ok⟩ id {n with a6:=t,size:=s.length}
def G9 (f:Fs)(l:List aC)(at_:Int):Int:=oR (λi=>bN f.st (f.node i)) l at_
def bP (f:Fs)(ag:aC):Int×Int:=
 let ad:=aI ag
 if ad=[] then(0,3) else
 let at_:=f.G9 ad.dropLast 0
 if at_<0 then(0,2) else if(f.node at_).kind≠2 then(0,4) else(at_,0)
def db (f:Fs)(ag:aC):Int:=f.G9 (aI ag) 0
def cu (f:Fs)(ag:aC):Int×Int:=
 let r:=f.bP ag
 if 0<r.2 then(0,r.2) else if 0<=f.db ag then(0,3) else(r.1,0)
def base (ag:aC):aC:=(aI ag).getLastD []
def make (f:Fs)(ag:aC)(kind:Int):Fs×Int:=
 let r:=f.cu ag
 if 0<r.2 then(f,r.2) else
 let l:=f.bG r.1
 match vc f.st f.t with
 |none=>(f,6)
 |some id=>if 12<=l.length then(f,6) else((f.put id ⟨kind,1,0,eY⟩).bh r.1 (gx l ⟨base ag,id⟩),0)
def change(f:Fs)(o:Op):Fs×Int:=
 let id:=f.db o.ag
 if id<0 then(f,2) else
 let n:=f.node id
 if n.kind≠1 then(f,4) else if 192<o.at_+o.a8.length then(f,6) else
 match(if o.kind=3 then fF f.st n o.at_.toNat o.a8 else fq f.st n o.at_.toNat) with
 |(st,n,ok)=>(Fs.put ⟨st,f.t,!ok⟩ id n,0)
def qu (f:Fs)(ag:aC):Fs×Int:=
 let id:=f.db ag
 if id<0 then(f,2) else
 let n:=f.node id
 if id=0\/(n.kind=2/\0<n.size) then(f,5) else
 let at_:=(f.bP ag).1
 let l:=f.bG at_
 let f:=f.bh at_ (ek l ((ey l (base ag)).getD 0))
 let n:={n with bF:=n.bF-1}
 if 0<n.bF then(f.put id n,0) else if f.cq then(f,0) else match gg f.st f.t id with
  |(st,t,ok)=>(⟨st,t,!ok⟩,0)
def link (f:Fs)(ag to:aC):Fs×Int:=
 let id:=f.db ag
 if id<0 then(f,2) else
 let n:=f.node id
 if n.kind≠1 then(f,4) else
 let r:=f.cu to
 if 0<r.2 then(f,r.2) else
 let l:=f.bG r.1
 if 9<=n.bF\/12<=l.length then(f,6) else
 ((f.put id {n with bF:=n.bF+1}).bh r.1 (gx l ⟨base to,id⟩),0)
def move (f:Fs)(ag to:aC):Fs×Int:=
 let id:=f.db ag
 if id<0 then(f,2) else if id=0 then(f,5) else if 0<=f.db to then(f,3) else if under to ag then(f,5) else
 let r:=f.bP to
 if 0<r.2 then(f,r.2) else
 let from_:=(f.bP ag).1
 if r.1≠from_/\12<=(f.bG r.1).length then(f,6) else
 let old:=f.bG from_
 let old:=ek old ((ey old (base ag)).getD 0)
 let e:bg:=⟨base to,id⟩
 if r.1=from_ then(f.bh r.1 (gx old e),0) else
 let f:=f.bh from_ old
 (f.bh r.1 (gx (f.bG r.1) e),0)
end Fs
def gW (st:ar)(t:cB)(o:Op):ar×cB×Int:=
 let f:Fs:=⟨st,t,false⟩
 let r:=if o.kind=1 then f.make o.ag 1 else if o.kind=2 then f.make o.ag 2 else if o.kind=5 then f.qu o.ag else
  if o.kind=6 then f.link o.ag o.to else if o.kind=7 then f.move o.ag o.to else f.change o
 let code:=if r.2=0/\r.1.cq then 7 else r.2
 if code≠0 then(st,t,code) else(r.1.st,r.1.t,code)
structure bE where
 ag:aC
 id:Int
deriving DecidableEq,Repr,Inhabited
def fu (st:ar)(t:cB):List iE:=(ij st t).map λs=>(eL s).getD bA
def dQ (ag name:aC):aC:=if ag=[47] then 47::name else ag++47::name
def jj (n:Nat)(kind:Nat->Int)(E:Nat->Option (List bg)):Nat->bE->List bE->List bE×Bool
 |0,_,out=>(out,false)
 |f+1,x,out=>
  let out:=out++[x]
  if 144<out.length||!fM x.id 0 (n-1)||decide (kind x.id.toNat=0) then(out,false) else
  if kind x.id.toNat=1 then(out,true) else
  match E x.id.toNat with
  |none=>(out,false)
  |some l=>l.foldl (λr e=>if r.2 then jj n kind E f ⟨dQ x.ag e.name,e.id⟩ r.1 else r) (out,true)
def walk (st:ar)(ns:List iE):Nat->bE->List bE->List bE×Bool:=jj ns.length (λi=>(ns.getD i bA).kind) (λi=>bN st (ns.getD i bA))
def lB (out:List bE)(k:Nat):Int:=((out.filter λx=>decide (x.id=(k:Int))).length:Nat)
def lC (st:ar)(out:List bE):Nat->List iE->Bool
 |_,[]=>true
 |k,n::l=>!((decide (n.kind≠0)&&decide (lB out k≠n.bF))||(decide (n.kind=1)&&!kU st n))&&lC st out (k+1) l
def lZ (st:ar)(t:cB):Option (List bE):=
 if !oG st t then none else
 let ns:=fu st t
 if ns=[]\/(ns.headD bA).kind≠2 then none else match walk st ns 146 ⟨[47],0⟩ [] with
 |(_,false)=>none
 |(out,true)=>if lC st out 0 ns then some out else none
structure bS where
 id:Int
 aN:Bool
 a8:aC
deriving DecidableEq,Repr,Inhabited
abbrev gD:=List bS
structure Flat where
 ad:List bE
 ae:gD
deriving DecidableEq,Repr,Inhabited
def gQ (st:ar):Nat->List iE->gD
 |_,[]=>[]
 |k,n::l=>(if n.kind=2 then [⟨k,true,[]⟩] else if n.kind=1 then [⟨k,false,bD st n⟩] else [])++gQ st (k+1) l
def Jh (st:ar)(t:cB):Option Flat:=match lZ st t with
 |none=>none
 |some all=>some ⟨all,gQ st 0 (fu st t)⟩
structure Rdr where
 b:aC
 p:Nat
def aha (b:aC)(k n:Nat):Nat:=
 if n<1\/b.length=0 then 0 else
 if k<b.length then(b.getD k 0).toNat% n else
 let x:=(b.getD (k% b.length) 0).toNat*131+(b.getD ((k*7+3)% b.length) 0).toNat*1117+k*29+k/ b.length*53
 (x^^^ (x/ 64))% n
abbrev Dr:=StateM Rdr
def pick (n:Nat):Dr Nat:=λr=>(aha r.b r.p n,{r with p:=r.p+1})
def str (s:String):aC:=s.toUTF8.data.toList
def first:List Op:=[⟨2,str "/a",[],0,[]⟩,⟨1,str "/b",[],0,[]⟩,⟨1,str "/a/b",[],0,[]⟩,⟨3,str "/b",[],0,str "hello hello hello"⟩,⟨2,str "/a/c",[],0,[]⟩,⟨3,str "/a/b",[],30,str "hello hello hello"⟩]
def nj (same:Bool):ar×cB:=let r:=nb (bV same) eY 0 ⟨2,1,0,eY⟩;(r.1,r.2.1)
def tF:Nat->Nat->aC->Nat
 |_,at_,[]=>at_
 |i,at_,c::s=>tF (i+1) (if c=47 then i else at_) s
def tG (s:aC):Nat:=tF 0 0 s
def bW (s:aC):aC×aC:=if tG s=0 then([47],s.drop (min 1 s.length)) else(s.take (tG s),s.drop (tG s+1))
namespace Flat
def ju (f:Flat)(p:aC):Option Nat:=f.ad.findIdx? λx=>decide (x.ag=p)
def eB (f:Flat)(id:Int):Option Nat:=f.ae.findIdx? λx=>decide (x.id=id)
def many (f:Flat)(id:Int):Nat:=f.ad.countP λx=>decide (x.id=id)
def vR (f:Flat)(p:aC):Nat:=f.ad.tail.countP λx=>decide ((bW x.ag).1=p)
def kz (f:Flat)(id:Int):Bool:=match f.eB id with
 |none=>false
 |some k=>(f.ae.getD k ⟨0,false,[]⟩).aN
def tH (f:Flat)(i:Nat):Bool:=
 let x:=f.ae.getD i ⟨0,false,[]⟩
 !(!fM x.id 0 15||(decide (0<i)&&decide (x.id<=(f.ae.getD (i-1) ⟨0,false,[]⟩).id))||(x.aN&&decide (x.a8≠[]))||decide (192<x.a8.length)||!fM (f.many x.id) 1 (if x.aN then 1 else 9))
def kA (f:Flat):Bool:=
 let x:=f.ae.getD 0 ⟨0,false,[]⟩
 fM f.ae.length 1 16&&decide (x.id=0)&&x.aN&&(List.range f.ae.length).all f.tH
def vd (f:Flat)(i:Nat):Bool:=
 let x:=f.ad.getD i ⟨[],0⟩
 let r:=bW x.ag
 let ag:=if r.1=[47] then 47::r.2 else r.1++47::r.2
 match f.ju r.1 with
 |none=>false
 |some k=>bO (f.ad.getD (i-1) ⟨[],0⟩).ag x.ag&&decide (k<i)&&decide (ag=x.ag)&&aV r.2&&(f.eB x.id).isSome&&f.kz (f.ad.getD k ⟨[],0⟩).id&&decide (f.vR x.ag<=12)
def ok (f:Flat):Bool:=f.kA&&decide (f.ad≠[])&&decide (f.ad.getD 0 ⟨[],0⟩=⟨[47],0⟩)&&(List.range f.ad.length).all (λi=>decide (i=0)||f.vd i)&&decide (f.vR [47]<=12)
def db (f:Flat)(p:aC):Int×Bool:=match f.ju p with
 |none=>(0,false)
 |some k=>if f.ok then((f.ad.getD k ⟨[],0⟩).id,true) else(0,false)
def tI:List bE->bE->List bE
 |[],e=>[e]
 |x::l,e=>if bO e.ag x.ag then e::x::l else x::tI l e
def add (f:Flat)(p:aC)(id:Int):Flat:=⟨tI f.ad ⟨p,id⟩,f.ae⟩
def less (f:Flat)(p:aC):Flat:=⟨f.ad.filter λx=>decide (x.ag≠p),f.ae⟩
def cu (f:Flat)(p:aC):Int:=match f.ju (bW p).1 with
 |none=>if p=[47] then 3 else 2
 |some k=>if p=[47] then 3 else if !f.kz (f.ad.getD k ⟨[],0⟩).id then 4 else if(f.ju p).isSome then 3 else 0
def Ji (f:Flat):Nat->Nat->Nat
 |0,id=>id
 |n+1,id=>if(f.eB id).isSome then Ji f n (id+1) else id
def fw (f:Flat):Nat:=f.Ji (f.ae.length+1) 0
def wG:gD->bS->gD
 |[],e=>[e]
 |x::l,e=>if x.id<e.id then x::wG l e else e::x::l
def make (f:Flat)(p:aC)(aN:Bool):Flat×Int:=
 if 0<f.cu p then(f,f.cu p) else
 let id:=f.fw
 if 16<=id\/12<=f.vR (bW p).1 then(f,6) else
 (Flat.add ⟨f.ad,wG f.ae ⟨id,aN,[]⟩⟩ p id,0)
def QX (f:Flat)(k:Nat)(s:aC):Flat:=⟨f.ad,f.ae.set k {f.ae.getD k ⟨0,false,[]⟩ with a8:=s}⟩
def change(f:Flat)(o:Op):Flat×Int:=match f.ju o.ag with
 |none=>(f,2)
 |some k=>match f.eB (f.ad.getD k ⟨[],0⟩).id with
  |none=>(f,0)
  |some x=>
   let t:=f.ae.getD x ⟨0,false,[]⟩
   if t.aN then(f,4) else if 192<o.at_+o.a8.length then(f,6) else
   if o.kind=4 then(f.QX x ((t.a8++mI (o.at_-t.a8.length)).take o.at_.toNat),0) else
   if o.a8≠[] then(f.QX x (jE t.a8 o.at_.toNat o.a8),0) else(f,0)
def gg (f:Flat)(p:aC):Flat×Int:=match f.ju p with
 |none=>(f,2)
 |some k=>
  let id:=(f.ad.getD k ⟨[],0⟩).id
  if p=[47]\/0<f.vR p then(f,5) else
  let g:=f.less p
  if g.many id=0 then match g.eB id with
   |none=>(g,0)
   |some x=>(⟨g.ad,g.ae.take x++g.ae.drop (x+1)⟩,0)
  else(g,0)
def link (f:Flat)(p to:aC):Flat×Int:=match f.ju p with
 |none=>(f,2)
 |some k=>
  let id:=(f.ad.getD k ⟨[],0⟩).id
  if f.kz id then(f,4) else if 0<f.cu to then(f,f.cu to) else
  if 9<=f.many id\/12<=f.vR (bW to).1 then(f,6) else(f.add to id,0)
def aef (p to x:aC):aC:=if x=p\/(p.length<x.length/\x.take (p.length+1)=p++[47]) then to++x.drop p.length else x
def move (f:Flat)(p to:aC):Flat×Int:=match f.ju p with
 |none=>(f,2)
 |some _=>if p=[47] then(f,5) else if(f.ju to).isSome then(f,3) else if under to p then(f,5) else
  if 0<f.cu to then(f,f.cu to) else
  if(bW to).1≠(bW p).1/\12<=f.vR (bW to).1 then(f,6) else
  (⟨f.ad.foldl (λl x=>tI l ⟨aef p to x.ag,x.id⟩) [],f.ae⟩,0)
def gW (f:Flat)(o:Op):Flat×Int:=
 if o.kind=1\/o.kind=2 then f.make o.ag (decide (o.kind=2)) else if o.kind=5 then f.gg o.ag else
 if o.kind=6 then f.link o.ag o.to else if o.kind=7 then f.move o.ag o.to else f.change o
def run (f:Flat)(o:Op):Flat×Int:=if !f.ok then(⟨[],[]⟩,1) else if !kV o then(f,1) else f.gW o
end Flat
end Go.Pl
namespace Go.Ev
open Go Go.Pl
def wH (x:Pl.bE):List Pl.bE->List Pl.bE
 |[]=>[x]
 |y::l=>if bO x.ag y.ag then x::y::l else y::wH x l
def jV (l:List Pl.bE):List Pl.bE:=l.foldr wH []
def wI (x:Pl.bS):List Pl.bS->List Pl.bS
 |[]=>[x]
 |y::l=>if x.id<y.id then x::y::l else y::wI x l
def jW (l:List Pl.bS):List Pl.bS:=l.foldr wI []
def qv (x:Pl.bE):aY:=[.string ⟨⟨x.ag⟩⟩,.int .i64 x.id]
def qw (x:Pl.bS):aY:=[.int .i64 x.id,.bool x.aN,.string ⟨⟨x.a8⟩⟩]
def S6:aY->Option (List Pl.bE)
 |[]=>some []
 |.string ⟨⟨z⟩⟩:: .int .i64 i::l=>(S6 l).map (⟨z,i⟩::·)
 |_=>none
def S7:aY->Option (List Pl.bS)
 |[]=>some []
 |.int .i64 i:: .bool b:: .string ⟨⟨z⟩⟩::l=>(S7 l).map (⟨i,b,z⟩::·)
 |_=>none
noncomputable section
def Lp {α:Type}(g k:Nat)(dec:aY->Option (List α))(cells:α->aY)(sort:List α->List α)(apart:List α->Bool):xr:=λargs s=>match args with
 |[.slice (some ⟨b,o,none⟩) n _,.func (.func g') ⟨[]⟩ ⟨[]⟩]=>dN (Nat.beq g g'&&Nat.ble 1 n&&Nat.ble n 1000000)<| s.row b λc e w s=>dN (Nat.ble (o+n*k) c.length)<| ob (dec ((c.drop o).take (n*k))) λl=>
    dN (apart l&&Nat.beq l.length n)<| aM (.tuple ⟨[]⟩) (s.put b (some (.cells (c.take o++(sort l).flatMap cells++c.drop (o+n*k)) e w)))
 |_=>none
def xD (l:List Pl.bE):Bool:=decide (l.map (·.ag)).Nodup
def xE (l:List Pl.bS):Bool:=decide (l.map (·.id)).Nodup
def Wu (g:Nat):xr:=Lp g 2 S6 qv jV xD
def Wv (g:Nat):xr:=Lp g 3 S7 qw jW xE
def Ay (a b:Pl.aC):Int:=if bO a b then -1 else if bO b a then 1 else 0
def Dy:xr:=λargs s=>match args with
 |[.string ⟨⟨a⟩⟩,.string ⟨⟨b⟩⟩]=>aM (.int .i64 (Ay a b)) s
 |_=>none
def yY (z:Pl.aC):Nat->Pl.aC
 |0=>[]
 |n+1=>z++yY z n
def Jj:xr:=λargs s=>match args with
 |[.string ⟨⟨z⟩⟩,.int .i64 (.ofNat n)]=>dN (Nat.ble (z.length*n) 1000000&&Nat.ble n 1000000)<| aM (.string ⟨⟨yY z n⟩⟩) s
 |_=>none
def Dz:xr:=λargs s=>match args with
 |[.string ⟨⟨z⟩⟩,.int .u8 (.ofNat c)]=>dN (Nat.ble (Nat.succ c) 256)<| aM (.int .i64 (.ofNat (dX (z.filter λb=>Nat.beq b.toNat c)))) s
 |_=>none
def kW (z:Pl.aC):List Pl.aC->Pl.aC
 |[]=>[]
 |[x]=>x
 |x::y::l=>x++(z++kW z (y::l))
def OT:aY->Option (List Pl.aC)
 |[]=>some []
 |.string ⟨⟨z⟩⟩::l=>(OT l).map (z::·)
 |_=>none
def Ww (t:Nat):xr:=λargs s=>match args with
 |[.slice (some ⟨b,o,none⟩) n c,.string ⟨⟨z⟩⟩]=>s.row b λcs e _ s=>dN (Nat.ble (o+n) cs.length&&((Nat.ble (Nat.succ c) dS&&Nat.ble n c)||(Nat.ble dS c&&Nat.beq o (c-dS)&&Nat.beq e t))&&Nat.ble 1 n&&Nat.ble n 1000)<| ob (OT ((cs.drop o).take n)) λl=>dN (Nat.ble (kW z l).length 1000000)<| aM (.string ⟨⟨kW z l⟩⟩) s
 |_=>none
def dL:List Pl.aC:=[[],[97],[47,47],[47,97,47],[47,65],[47,97,47,98,47,99,47,97,47,98],[47,97,98,99,100,101],[47,97,47,47,98],[47,97],[47,98],[47,97,47,98],[47,97,47,99],[47,98,47,97],[47,99],[47,97,47,98,47,99],[47,99,47,97],[47,97,98],[47],[47,122,122]]
def eE (z:Pl.aC):Pl.aC:=if aT z=true/\z≠[47] then(bW z).1 else []
def ve:xr:=λargs s=>match args with
 |[.string ⟨⟨z⟩⟩]=>dN (decide (z∈dL)) (aM (.string ⟨⟨eE z⟩⟩) s)
 |_=>none
def Ha:List Nat:=[1,10,100,1000,10000,100000,1000000,10000000,100000000,1000000000,10000000000,100000000000,1000000000000,10000000000000,100000000000000,1000000000000000,10000000000000000,100000000000000000,1000000000000000000,10000000000000000000]
def QY:List Nat->aY->Bool
 |[],[]=>true
 |n::l,.int .u64 (.ofNat m)::c=>Nat.beq n m&&QY l c
 |_,_=>false
def Hb:gv->Bool
 |.nW [(0,c)]=>QY Ha c
 |_=>false
def Wx (g:Nat):xr:=λargs s=>match args with
 |[.int .i64 (.ofNat n)]=>dN (Nat.ble n 199)<| ob (s.look g) λo=>dN (Hb o)<| aM (.string ⟨⟨Pl.dec (.ofNat n)⟩⟩) (s.aU g)
 |_=>none
end
end Go.Ev
namespace Go.Pl
variable {α:Type}{P:α->Bool}
theorem kb:∀s:aC,bO s s=false
 |[]=>rfl
 |a::s=>by
  show(if a.toNat<a.toNat then true else if a.toNat<a.toNat then false else bO s s)=false;rw[if_neg (CV _),if_neg (CV _),kb s]
theorem qy (a b:UInt8)(s t:aC):bO (a::s) (b::t)=if a.toNat<b.toNat then true else if b.toNat<a.toNat then false else bO s t:=rfl
theorem eT:∀a b c:aC,bO a b=true->bO b c=true->bO a c=true
 |[],[],_,h,_=>by cases h
 |[],_::_,[],_,h=>by cases h
 |[],_::_,_::_,_,_=>rfl
 |_::_,[],_,h,_=>by cases h
 |_::_,_::_,[],_,h=>by cases h
 |a::s,b::t,c::u,h1,h2=>by
  rw[qy] at h1 h2⊢;by_cases h3:a.toNat<b.toNat
  .by_cases h4:b.toNat<c.toNat
   .rw[if_pos af]
   .rw[if_neg h4] at h2;by_cases h5:c.toNat<b.toNat
    .rw[if_pos h5] at h2;cases h2
    .rw[if_pos af]
  .rw[if_neg h3] at h1;by_cases h6:b.toNat<a.toNat
   .rw[if_pos h6] at h1;cases h1
   .rw[if_neg h6] at h1;by_cases h4:b.toNat<c.toNat
    .rw[if_pos af]
    .rw[if_neg h4] at h2;by_cases h5:c.toNat<b.toNat
     .rw[if_pos h5] at h2;cases h2
     .rw[if_neg h5] at h2;rw[if_neg af,if_neg af];exact eT s t u h1 h2
theorem lD:∀a b:aC,bO a b=false->bO b a=false->a=b
 |[],[],_,_=>rfl
 |[],_::_,h,_=>by cases h
 |_::_,[],_,h=>by cases h
 |a::s,b::t,h1,h2=>by
  rw[qy] at h1 h2;by_cases h3:a.toNat<b.toNat
  .rw[if_pos h3] at h1;cases h1
  .rw[if_neg h3] at h1;by_cases h4:b.toNat<a.toNat
   .rw[if_pos h4] at h2;cases h2
   .rw[if_neg h4] at h1 h2;rw[if_neg h3] at h2;rw[lD s t h1 h2,sW.1 (show a.toNat=b.toNat by omega)]
theorem DB {a b:aC}(h:bO a b=true):bO b a=false:=by
 cases hb:bO b a with
 |false=>rfl
 |true=>have:=eT a b a h hb;rw[kb] at this;cases this
theorem nk {a b:aC}(h:bO a b=true):a≠b:=λe=>by rw[e,kb] at h;cases h
theorem Jk:∀(l:List α),l.Pairwise (λa b=>P b=true->P a=true)->∀(h:Nat)(d:α),h<l.length->(P (l.getD h d)=true↔h<l.countP P)
 |[],_,h,_,hl=>by simp at hl
 |x::l,hp,h,d,hl=>by
  obtain⟨h1,h2⟩:=jP.1 hp;rw[iA];by_cases hx:P x=true
  .rw[if_pos hx];cases h with
   |zero=>simp[hx]
   |succ h=>
    have:=Jk l h2 h d (by simpa using hl);rw[Bi,this];omega
  .have hz:l.countP P=0:=uO.2 λy hy xy=>hx (h1 y hy xy)
   rw[if_neg hx,hz];have:P ((x::l).getD h d)≠true:=λe=>by
    cases h with
    |zero=>exact hx e
    |succ h=>
     rw[Bi,a7,bc (by simpa using hl)] at e;exact hx (h1 _ (rX _) e)
   exact⟨λe=>absurd e this,λe=>absurd e ay⟩
theorem lE {l:List α}{i:Nat}{d:α}(hi:i<l.length)(h1:P (l.getD i d)=true)(h2:∀j,j<i->P (l.getD j d)≠true):l.findIdx? P=some i:=by rw[qe];rw[a7,bc hi] at h1;refine⟨hi,h1,λj hj=>?_⟩;have:=h2 j hj;rw[a7,bc af] at this;exact this
theorem vS {l:List α}(d:α)(h:∀j,j<l.length->P (l.getD j d)≠true):l.findIdx? P=none:=by rw[CT];intro x hx;obtain⟨j,hj,rfl⟩:=jO hx;have:=h j hj;rw[a7,bc hj] at this;simpa using this
def ik (q:gD):Prop:=q.Pairwise λx y=>x.id<y.id
def l5 (p:List bE):Prop:=p.Pairwise λx y=>bO x.ag y.ag=true
def B6 (q:gD)(k:Int):Nat:=q.countP λx=>decide (x.id<k)
def B7 (p:List bE)(z:aC):Nat:=p.countP λx=>bO x.ag z
def pc (q:gD)(k:Int):Option Nat:=q.findIdx? λx=>decide (x.id=k)
def vT (p:List bE)(z:aC):Option Nat:=p.findIdx? λx=>decide (x.ag=z)
theorem Cx {q:gD}(hs:ik q)(k:Int){h:Nat}(d:bS)(hl:h<q.length):(q.getD h d).id<k↔h<B6 q k:=by
 have:=Jk (P:=λx:bS=>decide (x.id<k)) q (hs.imp λlS hb=>by simp at hb⊢;omega) h d hl
 rwa [bR] at this
theorem Cy {p:List bE}(hs:l5 p)(z:aC){h:Nat}(d:bE)(hl:h<p.length):bO (p.getD h d).ag z=true↔h<B7 p z:=
 Jk (P:=λx:bE=>bO x.ag z) p (hs.imp λlS hb=>eT _ _ _ lS hb) h d hl
theorem aeg (q:gD)(k:Int):B6 q k<=q.length:=Gq
theorem aeh (p:List bE)(z:aC):B7 p z<=p.length:=Gq
theorem qz {α:Type}{R:α->α->Prop}{l:List α}(h:l.Pairwise R)(d:α){i j:Nat}(nI:i<j)(hj:j<l.length):R (l.getD i d) (l.getD j d):=by rw[a7,bc af,a7,bc hj];exact uk.1 h i j af hj nI
theorem aei {q:gD}(hs:ik q)(k:Int)(d:bS):pc q k=if B6 q k<q.length/\(q.getD (B6 q k) d).id=k then some (B6 q k) else none:=by
 split
 .rename_i h;refine lE (d:=d) h.1 (by simpa using h.2) λj hj=>?_
  have:=(Cx hs k d (h:=j) af).2 hj;rw[ne_eq,bR];omega
 .rename_i h;refine vS d λj hj he=>?_
  rw[bR] at he;rcases CP j (B6 q k) with h1|h1|h1
  .have:=(Cx hs k d hj).2 h1;omega
  .exact h ⟨af,by rw[<-h1];exact he⟩
  .have h2:=qz hs d h1 hj;have h3:¬(q.getD (B6 q k) d).id<k:=λe=>CV _ ((Cx hs k d af).1 e)
   omega
theorem aej {p:List bE}(hs:l5 p)(z:aC)(d:bE):vT p z=if B7 p z<p.length/\(p.getD (B7 p z) d).ag=z then some (B7 p z) else none:=by
 split
 .rename_i h;refine lE (d:=d) h.1 (by simpa using h.2) λj hj=>?_
  have:=(Cy hs z d (h:=j) af).2 hj;rw[ne_eq,bR];exact nk this
 .rename_i h;refine vS d λj hj he=>?_
  rw[bR] at he;rcases CP j (B7 p z) with h1|h1|h1
  .exact nk ((Cy hs z d hj).2 h1) he
  .exact h ⟨af,by rw[<-h1];exact he⟩
  .have h2:bO _ _=true:=qz hs d h1 hj;have h3:¬bO (p.getD (B7 p z) d).ag z=true:=λe=>CV _ ((Cy hs z d af).1 e)
   rw[he] at h2;exact h3 h2
def Lq (a b:Int):Int:=if a<b then -1 else if b<a then 1 else 0
theorem aaG {a b:Int}:Lq a b<0↔a<b:=by unfold Lq;split<;>(try split)<;>omega
theorem aaH {a b:Int}:Lq a b=0↔a=b:=by unfold Lq;split<;>(try split)<;>omega
theorem aaI {a b:aC}:Ev.Ay a b<0↔bO a b=true:=by unfold Ev.Ay;cases h:bO a b<;>cases h2:bO b a<;>simp
theorem aaJ {a b:aC}:Ev.Ay a b=0↔a=b:=by
 unfold Ev.Ay;cases h:bO a b with
 |true=>simp;exact nk h
 |false=>
  cases h2:bO b a with
  |true=>simp;exact λe=>nk h2 e.symm
  |false=>simp;exact lD a b h h2
end Go.Pl
namespace Go.Ev
open Go
variable {f:FuncId}{args:aY}{v:Value}{c a b:Code}{tm:Tm}{s s':St}{Q Q':Ex->Tm->St->Prop}{K:Tm->St->Prop}{aG l:List Oper}{o:Oper}
section
variable (E:iq)(X:fY)
def akG (f:FuncId)(args:aY)(s:St)(v:Value)(s':St):Prop:=∃N,∀n,N<=n->∀lf,N<=lf->oP E X lf [] n f args s=some (v,s')
def jk (c:Code)(tm:Tm)(s:St)(Q:Ex->Tm->St->Prop):Prop:=∃N e jC s',Q e jC s'/\∀n,N<=n->∀lf,N<=lf->lN E (oP E X lf [] n) lf c tm s=some (e,jC,s')
def akH (body:Code)(tm:Tm)(s:St)(Q:Ex->Tm->St->Prop):Prop:=∃N e jC s',Q e jC s'/\∀n,N<=n->∀lf,N<=lf->∀m,N<=m->C2 (lN E (oP E X lf [] n) lf body) m tm s=some (e,jC,s')
def fy (ev:Operand->Value)(s:St)(o:Op)(K:Value->St->Prop):Prop:=∃N v s',K v s'/\∀n,N<=n->∀lf,N<=lf->GI E (oP E X lf [] n) ev s o=some (v,s')
def yZ (aG l:List Oper)(tm:Tm)(s:St)(K:Tm->St->Prop):Prop:=∃N jC s',K jC s'/\∀n,N<=n->∀lf,N<=lf->KW E (oP E X lf [] n) aG l tm s=some (jC,s')
def F0 (aG l:List Oper)(j:Nat)(tm:Tm)(s:St)(seen:List Seen)(K:Tm->St->Prop):Prop:=∃N jC s',K jC s'/\∀n,N<=n->∀lf,N<=lf->uU E (oP E X lf [] n) aG l j tm s seen=some (jC,s')
variable {E X}
theorem jk.mono (h:jk E X c tm s Q)(k:∀e tm s,Q e tm s->Q' e tm s):jk E X c tm s Q':=by obtain⟨N,e,jC,s',hq,hr⟩:=h;exact⟨N,e,jC,s',k _ _ _ hq,hr⟩
def ahb (Q:Ex->Tm->St->Prop)(k:Tm->St->Prop):Ex->Tm->St->Prop
 |.normal,tm,s=>k tm s
 |e,tm,s=>Q e tm s
def aaK (id:Nat)(Q:Ex->Tm->St->Prop):Ex->Tm->St->Prop
 |.exit i,tm,s=>Q (if i=id then .normal else .exit i) tm s
 |e,tm,s=>Q e tm s
theorem jk.skip (h:Q .normal tm s):jk E X .skip tm s Q:=⟨0,_,_,_,h,λ_ _ _ _=>rfl⟩
theorem jk.ret (h:Q .ret tm s):jk E X .ret tm s Q:=⟨0,_,_,_,h,λ_ _ _ _=>rfl⟩
theorem jk.exit {id:Nat}(h:Q (.exit id) tm s):jk E X (.exit id) tm s Q:=⟨0,_,_,_,h,λ_ _ _ _=>rfl⟩
theorem jk.seq (h:jk E X a tm s (ahb Q λtm s=>jk E X b tm s Q)):jk E X (.seq a b) tm s Q:=by
 obtain⟨N,e,sq,s1,hq,hr⟩:=h;have hc:∀(call:ff)(lf:Nat),lN E call lf (.seq a b) tm s=GJ (lN E call lf a tm s) (lN E call lf b):=λ_ _=>rfl
 cases e with
 |normal=>
  obtain⟨M,e2,tm2,s2,hq2,mG⟩:=(show jk E X b sq s1 Q from hq);refine⟨max N M,e2,tm2,s2,hq2,λn hn lf hl=>?_⟩;rw[hc,hr n af lf af];exact mG n af lf af
 |exit i=>exact⟨N,_,_,_,(show Q (.exit i) sq s1 from hq),λn hn lf hl=>by rw[hc,hr n hn lf hl];rfl⟩
 |ret=>exact⟨N,_,_,_,(show Q .ret sq s1 from hq),λn hn lf hl=>by rw[hc,hr n hn lf hl];rfl⟩
theorem jk.cond {x:Operand}(t:Bool)(hx:aO tm x= .bool t)(h:if t=true then jk E X a tm s Q else jk E X b tm s Q):jk E X (.cond x a b) tm s Q:=by
 have hc:∀(call:ff)(lf:Nat),lN E call lf (.cond x a b) tm s=QG (aO tm x) (lN E call lf a tm s) (lN E call lf b tm s):=λ_ _=>rfl
 cases t with
 |true=>
  obtain⟨N,e,sq,s1,hq,hr⟩:=(show jk E X a tm s Q from by simpa using h);exact⟨N,e,sq,s1,hq,λn hn lf hl=>by rw[hc,hx];exact hr n hn lf hl⟩
 |false=>
  obtain⟨N,e,sq,s1,hq,hr⟩:=(show jk E X b tm s Q from by simpa using h);exact⟨N,e,sq,s1,hq,λn hn lf hl=>by rw[hc,hx];exact hr n hn lf hl⟩
theorem jk.block {id:Nat}(h:jk E X a tm s (aaK id Q)):jk E X (.block id a) tm s Q:=by
 have hc:∀(call:ff)(lf:Nat),lN E call lf (.block id a) tm s=ad0 id (lN E call lf a tm s):=λ_ _=>rfl
 obtain⟨N,e,sq,s1,hq,hr⟩:=h;cases e with
 |normal=>exact⟨N,_,_,_,(show Q .normal sq s1 from hq),λn hn lf hl=>by rw[hc,hr n hn lf hl];rfl⟩
 |ret=>exact⟨N,_,_,_,(show Q .ret sq s1 from hq),λn hn lf hl=>by rw[hc,hr n hn lf hl];rfl⟩
 |exit i=>
  refine⟨N,_,_,_,(show Q (if i=id then .normal else .exit i) sq s1 from hq),λn hn lf hl=>?_⟩;rw[hc,hr n hn lf hl];show bo (Nat.beq i id) (some (Ex.normal,sq,s1)) (some (.exit i,sq,s1))=_;rw[dJ];by_cases h:i=id<;>simp[h]
theorem jk.loop (I:Nat->Tm->St->Prop)(k:Nat)(h0:I k tm s)(step:∀k tm s,I k tm s->jk E X a tm s (ahb Q λtm s=>∃j,j<k/\I j tm s)):jk E X (.loop a) tm s Q:=by
 have key:∀k tm s,I k tm s->akH E X a tm s Q:=by
  intro k;induction k using Nat.strongRecOn with
  |ind k ih=>
   intro tm s hI;obtain⟨N,e,sq,s1,hq,hr⟩:=step k tm s hI;have hc:∀(body:Tm->St->R4)(m:Nat),C2 body (m+1) tm s=GJ (body tm s) (C2 body m):=λ_ _=>rfl
   cases e with
   |normal=>
    obtain⟨j,hj,hI'⟩:=hq;obtain⟨M,e2,tm2,s2,hq2,mG⟩:=ih j hj sq s1 hI';refine⟨max N M+1,e2,tm2,s2,hq2,λn hn lf hl m hm=>?_⟩;obtain⟨m,rfl⟩:∃q,m=q+1:=⟨m-1,af⟩;rw[hc,hr n af lf af];exact mG n af lf af m af
   |exit i=>
    refine⟨N+1,_,_,_,(show Q (.exit i) sq s1 from hq),λn hn lf hl m hm=>?_⟩;obtain⟨m,rfl⟩:∃q,m=q+1:=⟨m-1,af⟩;rw[hc,hr n af lf af];rfl
   |ret=>
    refine⟨N+1,_,_,_,(show Q .ret sq s1 from hq),λn hn lf hl m hm=>?_⟩;obtain⟨m,rfl⟩:∃q,m=q+1:=⟨m-1,af⟩;rw[hc,hr n af lf af];rfl
 obtain⟨N,e,sq,s1,hq,hr⟩:=key k tm s h0;exact⟨N,e,sq,s1,hq,λn hn lf hl=>hr n hn lf hl lf hl⟩
theorem jk.region {id:Nat}{arr:Array Oper}(h:yZ E X arr.toList arr.toList tm s (Q .normal)):jk E X (.region id arr false) tm s Q:=by obtain⟨N,sq,s1,hq,hr⟩:=h;refine⟨N,.normal,sq,s1,hq,λn hn lf hl=>?_⟩;show GK (KW E _ arr.toList arr.toList tm s)=_;rw[hr n hn lf hl];rfl
theorem jk.draw {id:Nat}{arr:Array Oper}(h:F0 E X arr.toList arr.toList 0 tm s [] (Q .normal)):jk E X (.region id arr true) tm s Q:=by obtain⟨N,sq,s1,hq,hr⟩:=h;refine⟨N,.normal,sq,s1,hq,λn hn lf hl=>?_⟩;show GK (uU E _ arr.toList arr.toList 0 tm s [])=_;rw[hr n hn lf hl];rfl
theorem yZ.nil (h:K tm s):yZ E X aG [] tm s K:=⟨0,_,_,h,λ_ _ _ _=>rfl⟩
theorem yZ.cons (hw:ib aG tm o.guard=true)(h:fy E X (aO tm) s o.op λv s=>yZ E X aG l (tm.gY o.dst v) s K):yZ E X aG (o::l) tm s K:=by obtain⟨N,v,s1,hk,hr⟩:=h;obtain⟨M,tm2,s2,yW,mG⟩:=hk;refine⟨max N M,tm2,s2,yW,λn hn lf hl=>?_⟩;rw[Av,hw,gA,hr n af lf af];show Tm.put tm o.dst v _=_;rw[Tm.put_eq];exact mG n af lf af
theorem yZ.pass (hw:ib aG tm o.guard=false)(h:yZ E X aG l (tm.gY o.dst (.tuple ⟨[]⟩)) s K):yZ E X aG (o::l) tm s K:=by obtain⟨M,tm2,s2,yW,mG⟩:=h;refine⟨M,tm2,s2,yW,λn hn lf hl=>?_⟩;rw[Av,hw,eG,Tm.put_eq];exact mG n hn lf hl
end
variable {g:FuncId}{fn:Func}{ev:Operand->Value}
section
variable (E:iq)(X:fY)
def nT (f:FuncId)(args:aY)(s:St)(Q:Value->St->Prop):Prop:=∃v s',akG E X f args s v s'/\Q v s'
variable {E X}{K:Value->St->Prop}{o:Op}
theorem nT.mono {K':Value->St->Prop}(h:nT E X f args s K)(k:∀v s,K v s->K' v s):nT E X f args s K':=by obtain⟨v,s',h1,h2⟩:=h;exact⟨v,s',h1,k _ _ h2⟩
theorem DC (h:xu X f=false)(k:Option (Value×St)):uV X f args s k=k:=by
 have key:∀l:List (Nat×xr),List.rec (motive:=λ_=>Bool) false (λp _ ih=>bo (Nat.beq p.1 f) true ih) l=false->List.rec (motive:=λ_=>Option (Value×St)) k (λp _ ih=>bo (Nat.beq p.1 f) (p.2 args s) ih) l=k:=by
  intro l;induction l with
  |nil=>exact λ_=>rfl
  |cons p l ih=>
   intro h;have h:bo (Nat.beq p.1 f) true (List.rec (motive:=λ_=>Bool) false (λp _ ih=>bo (Nat.beq p.1 f) true ih) l)=false:=h;show bo (Nat.beq p.1 f) (p.2 args s) (List.rec (motive:=λ_=>Option (Value×St)) k (λp _ ih=>bo (Nat.beq p.1 f) (p.2 args s) ih) l)=k;cases hb:Nat.beq p.1 f with
   |true=>rw[hb] at h;cases h
   |false=>rw[hb] at h;exact ih h
 exact key X.wT h
theorem nT.Wy (hf:E.fn.get f=some fn)(hh:∀k,uV X f args s k=some (v,s'))(hk:K v s'):nT E X f args s K:=by refine⟨v,s',⟨1,λn hn lf B8=>?_⟩,hk⟩;obtain⟨n,rfl⟩:∃q,n=q+1:=⟨n-1,af⟩;show(ob (E.fn.get f) λfn=>uV X f args s _)=_;rw[hf];exact hh _
theorem nT.body (hf:E.fn.get f=some fn)(hb:fn.body=some c)(vO:(Nat.beq f X.look||xu X f)=false)(hl:args.length<=fn.ntmps)
  (h:jk E X c (kv args 0 .nil) s λe tm s1=>(e= .normal\/e= .ret)/\∃vs s2,C3 E tm fn.results.toList s1=some (vs,s2)/\K (gK vs) s2):nT E X f args s K:=by
 obtain⟨N,e,sq,s1,⟨he,vs,s2,Jd,hk⟩,hr⟩:=h;refine⟨gK vs,s2,⟨N+1,λn hn lf B8=>?_⟩,hk⟩;obtain⟨n,rfl⟩:∃q,n=q+1:=⟨n-1,af⟩;have hx:Nat.beq f X.look=false:=by
  cases hq:Nat.beq f X.look with
  |true=>rw[hq] at vO;cases vO
  |false=>rfl
 have hx1:xu X f=false:=by rw[hx] at vO;exact vO
 show(ob (E.fn.get f) λfn=>uV X f args s<| match fn.body with
   |none=>KX X f args s
   |some c=>bo (Nat.beq f X.look) (C4 args s)<| dN (Nat.ble (dX args) fn.ntmps)<| KY E fn (lN E (oP E X lf [] n) lf c (kv args (nat_lit 0) .nil) s))=_
 refine' zaE;rw[DC hx1,hb];simp only[hx,eG];have h2:Nat.ble (dX args) fn.ntmps=true:=by rw[c8];exact gb hl
 rw[h2,hr n af lf af];rcases he with rfl|rfl
 .show ob (C3 E sq fn.results.toList s1) (λp=>some (gK p.1,p.2))=_;rw[Jd];rfl
 .show ob (C3 E sq fn.results.toList s1) (λp=>some (gK p.1,p.2))=_;rw[Jd];rfl
theorem fy.call {x:Operand}{xs:List Operand}{ts:Array TypeId}{first cap:aY}(hx:ev x= .func (.func g) ⟨first⟩ ⟨cap⟩)(h:nT E X g (first++(xn ev xs++cap)) s K):fy E X ev s (.call ⟨.value x,⟨xs⟩,ts⟩) K:=by obtain⟨v,s',⟨N,hr⟩,hk⟩:=h;refine⟨N,v,s',hk,λn hn lf hl=>?_⟩;show xq (oP E X lf [] n) (ev x) (xn ev xs) s=_;rw[hx];exact hr n hn lf hl
theorem fy.pure (h:∀call:ff,GI E call ev s o=some (v,s'))(hk:K v s'):fy E X ev s o K:=⟨0,v,s',hk,λn _ lf _=>h _⟩
theorem aaL (tm:Tm)(d:Tmp)(v:Value)(t:Tmp):T.get (tm.gY (some d) v) t=if t=d then some v else T.get tm t:=by show T.get (T.set (Nat.succ d) tm d (some v)) t=_;exact T.vG tm d t (some v)
end
end Go.Ev
namespace Go.Lg
open Go Go.Ev
variable {a b c:Code}{aG aE:List Oper}{o:Op}
abbrev sv (z:List UInt8):Value:=.string ⟨⟨z⟩⟩
abbrev cg:Value:=.int .i64 0
abbrev eM:Value:=.slice none 0 0
abbrev iJ (b:Nat):aS:=some ⟨b,0,none⟩
abbrev bk (b:Nat):Value:=.pointer (some ⟨b,0,none⟩)
abbrev iv (n:Int):Value:=.int .i64 n
abbrev bv (b:UInt8):Value:=.int .u8 (b.toNat:Int)
abbrev Kn:=List (Nat×Value)
def lk:Kn->Nat->Option Value
 |[],_=>none
 |(k,v)::l,t=>match Nat.beq k t with
  |true=>some v
  |false=>lk l t
def mU (l:Kn)(tm:Tm):Prop:=∀t v,lk l t=some v->aO tm (.tmp t)=v
theorem mU.nil (tm:Tm):mU [] tm:=λ_ _ h=>by cases h
theorem Wz (tm:Tm)(d:Nat)(v:Value)(t:Nat):aO (tm.gY (some d) v) (.tmp t)=if t=d then v else aO tm (.tmp t):=by show lX (T.get _ t)=_;rw[aaL];split<;>rfl
theorem mU.cons {l:Kn}{tm:Tm}(h:mU l tm)(d:Nat)(v:Value):mU ((d,v)::l) (tm.gY (some d) v):=by
 intro t u ht;rw[Wz];unfold lk at ht;by_cases hd:t=d
 .subst hd;rw[if_pos rfl];simp at ht;exact ht
 .rw[if_neg hd];split at ht
  .rename_i hb;simp at hb;exact absurd hb.symm hd
  .exact h t u ht
def Le (l2 l:Kn):Prop:=∀t v,lk l2 t=some v->lk l t=some v
theorem mU.le {l2 l:Kn}{tm:Tm}(h:mU l tm)(hl:Le l2 l):mU l2 tm:=λt v ht=>h t v (hl t v ht)
theorem Le.nil (l:Kn):Le [] l:=λ_ _ h=>by cases h
theorem Le.cons {l2 l:Kn}{t:Nat}{v:Value}(h:lk l t=some v)(k:Le l2 l):Le ((t,v)::l2) l:=by
 intro t' v' h';unfold lk at h';split at h'
 .rename_i hb;simp at hb;subst hb;simp at h';subst h';exact h
 .exact k t' v' h'
theorem Le.refl (l:Kn):Le l l:=λ_ _ h=>h
inductive It where
 |box (b:Nat) (cs:aY) (t:TypeId) (w:Bool)
 |aQ (v:Value) (e:TypeId) (sz:Nat) (cs:aY)
 |kK (b:Nat) (o:gv)
abbrev dy:=List It
def pj:Value->List Nat
 |.slice (some a) _ _=>[a.block]
 |_=>[]
def It.cr:It->List Nat
 |.box b _ _ _=>[b]
 |.aQ v _ _ _=>pj v
 |.kK b _=>[b]
def mu (s:St)(v:Value)(e:TypeId)(sz:Nat)(cs:aY):Prop:=
 (v= .slice none 0 0/\cs=[])\/∃b n k w aE,v= .slice (some ⟨b,0,none⟩) n k/\s.heap.get b=some (.cells (cs++aE) e w)/\cs.length=n*sz/\((n<=k/\k<dS/\(cs++aE).length=k*sz)\/(k=dS/\w=true))
theorem mu.cq {s:St}{b n k e sz:Nat}{w:Bool}{cs:aY}(h1:s.heap.get b=some (.cells cs e w))(h2:cs.length=n*sz)(h3:(k=n/\n<dS)\/(k=dS/\w=true)):mu s (.slice (some ⟨b,0,none⟩) n k) e sz cs:=
 .inr ⟨b,n,k,w,[],rfl,by rw[gJ];exact h1,h2,h3.imp (λ⟨a,b⟩=>by subst a;exact⟨cC _,b,by rw[gJ];exact h2⟩) id⟩
theorem mu.front {s:St}{a:aS}{N n c e sz:Nat}{cs:aY}(h:mu s (.slice a N c) e sz cs)(hn:n<=N):mu s (.slice a n c) e sz (cs.take (n*sz)):=by
 rcases h with⟨h1,rfl⟩|⟨b,m,k,w,aE,h1,h2,h3,h4⟩
 .cases h1;obtain rfl:n=0:=by omega
  exact .inl ⟨rfl,List.take_nil⟩
 .cases h1
  have hl:n*sz<=N*sz:=wE _ hn;have he:cs.take (n*sz)++(cs.drop (n*sz)++aE)=cs++aE:=by rw[<-iL,yy]
  exact .inr ⟨b,n,c,w,cs.drop (n*sz)++aE,rfl,by rw[he];exact h2,by rw[cO];omega,h4.imp (λ⟨x,y,z⟩=>⟨af,y,by rw[he];exact z⟩) id⟩
theorem Lr (aE:aY):∀(new c c':aY),nb new c=some c'->nb new (c++aE)=some (c'++aE)
 |[],c,c',h=>by cases h;rfl
 |x::new,[],c',h=>by cases h
 |x::new,y::c,c',h=>by
  have h:ob (nb new c) (λr=>some (x::r))=some c':=h;cases hp:nb new c with
  |none=>rw[hp] at h;cases h
  |some r=>rw[hp] at h;cases h;show ob (nb new (c++aE)) (λr=>some (x::r))=_;rw[Lr aE new c r hp];rfl
theorem su (aE:aY):∀(o:Nat)(new c c':aY),eF o new c=some c'->eF o new (c++aE)=some (c'++aE)
 |0,new,c,c',h=>Lr aE new c c' h
 |o+1,new,[],c',h=>by cases h
 |o+1,new,x::c,c',h=>by
  have h:ob (eF o new c) (λr=>some (x::r))=some c':=h;cases hp:eF o new c with
  |none=>rw[hp] at h;cases h
  |some r=>rw[hp] at h;cases h;show ob (eF o new (c++aE)) (λr=>some (x::r))=_;rw[su aE o new c r hp];rfl
theorem DD {cs cs' aE:aY}{n k sz:Nat}{w:Bool}(h:(n<=k/\k<dS/\(cs++aE).length=k*sz)\/(k=dS/\w=true))(hl:cs'.length=cs.length):(n<=k/\k<dS/\(cs'++aE).length=k*sz)\/(k=dS/\w=true):=
 h.imp (λ⟨x,y,z⟩=>⟨x,y,by rw[bn,hl,<-bn];exact z⟩) id
def It.ok (s:St):It->Prop
 |.box b cs t w=>s.heap.get b=some (.cells cs t w)
 |.aQ v e sz cs=>mu s v e sz cs
 |.kK b o=>s.heap.get b=some o
theorem It.y0 {s s':St}{x:It}(h:x.ok s)(hh:∀b∈x.cr,s'.heap.get b=s.heap.get b):x.ok s':=by
 cases x with
 |box b cs t w=>exact(hh b (by simp[It.cr])).trans h
 |kK b o=>exact(hh b (by simp[It.cr])).trans h
 |aQ v e sz cs=>
  rcases h with⟨rfl,rfl⟩|⟨b,n,k,w,aE,rfl,h1,h2⟩
  .exact .inl ⟨rfl,rfl⟩
  .exact .inr ⟨b,n,k,w,aE,rfl,(hh b (by simp[It.cr,pj])).trans h1,h2⟩
structure qN where
 s0:St
 M:List Nat
 A:List Nat
structure Inv (Γ:qN)(s:St)(L:dy):Prop where
 fr:∀b,b<Γ.s0.next->b∉Γ.M->s.heap.get b=Γ.s0.heap.get b
 le:Γ.s0.next<=s.next
 it:∀x∈L,x.ok s
 lt:∀x∈L,∀b∈x.cr,b<s.next/\(Γ.s0.next<=b\/b∈Γ.M)
 nd:(L.flatMap It.cr).Nodup
 cV:∀b,In s.cV b->In Γ.s0.cV b\/b∈Γ.A\/b∈Γ.M\/Γ.s0.next<=b
 wr:∀b,In s.wr b->In Γ.s0.wr b\/b∈Γ.M\/Γ.s0.next<=b
 top:∀b,In s.cV b->In Γ.s0.cV b\/b<s.next
 y1:∀b,In s.wr b->In Γ.s0.wr b\/b<s.next
def cx (L2 L:dy):Prop:=∃l:dy,l.Perm L2/\l.Sublist L
theorem cx.subset {L2 L:dy}(h:cx L2 L){x:It}(hx:x∈L2):x∈L:=by obtain⟨l,hp,hs⟩:=h;exact hs.subset (hp.mem_iff.2 hx)
theorem S8 {L2 L:dy}(h:cx L2 L)(hn:(L.flatMap It.cr).Nodup):(L2.flatMap It.cr).Nodup:=by
 obtain⟨l,hp,hs⟩:=h;have h1:(l.flatMap It.cr).Nodup:=hn.sublist (by
  clear hn hp;induction hs with
  |slnil=>exact List.Sublist.slnil
  |cons a _ ih=>simp only[js];exact ih.trans (nN _ _)
  |cons_cons a _ ih=>simp only[js];exact KH (Gs _) ih)
 exact(List.Perm.nodup_iff (List.Perm.flatMap_right It.cr hp)).1 h1
theorem Inv.sub {Γ:qN}{s:St}{L2 L:dy}(h:Inv Γ s L)(hl:cx L2 L):Inv Γ s L2:=
 ⟨h.fr,h.le,λx hx=>h.it x (hl.subset hx),λx hx=>h.lt x (hl.subset hx),S8 hl h.nd,h.cV,h.wr,h.top,h.y1⟩
theorem Inv.aek {Γ:qN}{s:St}{L:dy}{x x':It}(h:Inv Γ s (x::L))(ho:x.ok s->x'.ok s)(hb:x'.cr=x.cr):Inv Γ s (x'::L):=
 ⟨h.fr,h.le,λy hy=>(bH.1 hy).elim (λe=>e▸ho (h.it _ ga)) λhy=>h.it _ (iV _ hy),λy hy b lO=>(bH.1 hy).elim (λe=>h.lt _ ga b (by rw[<-hb,<-e];exact lO)) λhy=>h.lt _ (iV _ hy) b lO,by have:=h.nd;rw[js] at this⊢;rw[hb];exact this,h.cV,h.wr,h.top,h.y1⟩
theorem Inv.same {Γ:qN}{s s':St}{L:dy}(h:Inv Γ s L)(h1:s'.heap=s.heap)(h2:s'.next=s.next)(ha:∀b,In s'.cV b->In s.cV b\/b∈Γ.A\/b∈Γ.M\/Γ.s0.next<=b)(hw:∀b,In s'.wr b->In s.wr b\/b∈Γ.M\/Γ.s0.next<=b)(ht:∀b,In s'.cV b->In s.cV b\/b<s.next)(htw:∀b,In s'.wr b->In s.wr b\/b<s.next):Inv Γ s' L:=
 ⟨λb hb hm=>by rw[h1];exact h.fr b hb hm,by rw[h2];exact h.le,λx hx=>It.y0 (h.it x hx) λb _=>by rw[h1],λx hx b hb=>by rw[h2];exact h.lt x hx b hb,h.nd,
  λb hb=>(ha b hb).elim (h.cV b) .inr,λb hb=>(hw b hb).elim (h.wr b) .inr,λb hb=>by rw[h2];exact(ht b hb).elim (h.top b) .inr,λb hb=>by rw[h2];exact(htw b hb).elim (h.y1 b) .inr⟩
section
variable (E:iq)(X:fY)(Γ:qN)
abbrev B9:=Ex->Kn->dy->Prop
def W (c:Code)(l:Kn)(L:dy)(Q:B9):Prop:=
 ∀tm s,mU l tm->Inv Γ s L->jk E X c tm s λe jC s'=>∃l' L',mU l' jC/\Inv Γ s' L'/\Q e l' L'
abbrev Fp:=Nat->Prop
structure kX (s s':St)(R Wr:Fp):Prop where
 nx:s.next<=s'.next
 cV:∀b,In s'.cV b->In s.cV b\/(R b/\b<s'.next)
 wr:∀b,In s'.wr b->In s.wr b\/(Wr b/\b<s'.next)
abbrev KO:=Value->dy->Nat->Nat->Fp->Fp->Prop
def WO (l:Kn)(o:Op)(L:dy)(K:KO):Prop:=
 ∀tm s,mU l tm->Inv Γ s L->fy E X (aO tm) s o λv s'=>∃L' R Wr,Inv Γ s' L'/\kX s s' R Wr/\K v L' s.next s'.next R Wr
def WS (aG aE:List Oper)(l:Kn)(L:dy)(K:Kn->dy->Prop):Prop:=
 ∀tm s,mU l tm->Inv Γ s L->yZ E X aG aE tm s λjC s'=>∃l' L',mU l' jC/\Inv Γ s' L'/\K l' L'
structure Sn where
 i:Nat
 R:Fp
 W:Fp
def kY (n mask:Nat)(R Wr:Fp):List Sn->Prop
 |[]=>True
 |x::l=>(Nat.testBit mask x.i=true\/((∀b,b<n->x.W b->¬R b)/\(∀b,b<n->x.R b->¬Wr b)))/\kY n mask R Wr l
def S9 (seen:List Sn)(sn:List Seen)(n:Nat):Prop:=∀y∈sn,∃x∈seen,x.i=y.i/\(∀b,In y.cV b->x.R b/\b<n)/\(∀b,In y.wr b->x.W b/\b<n)
def WD (aG aE:List Oper)(j:Nat)(seen:List Sn)(nx:Nat)(l:Kn)(L:dy)(K:Kn->dy->Prop):Prop:=
 ∀tm s sn,mU l tm->Inv Γ s L->s.next=nx->S9 seen sn nx->F0 E X aG aE j tm s sn λjC s'=>∃l' L',mU l' jC/\Inv Γ s' L'/\K l' L'
variable {E X Γ}{l l2:Kn}{L L2:dy}{Q Q':B9}
theorem W.le (h:W E X Γ c l2 L2 Q)(hl:Le l2 l)(hL:cx L2 L):W E X Γ c l L Q:=λtm s h1 h2=>h tm s (h1.le hl) (h2.sub hL)
theorem W.mono (h:W E X Γ c l L Q)(k:∀e l L,Q e l L->Q' e l L):W E X Γ c l L Q':=λtm s h1 h2=>(h tm s h1 h2).mono λe tm s ⟨l,L,h3,h4,h5⟩=>⟨l,L,h3,h4,k _ _ _ h5⟩
def Ls (Q:B9)(k:Kn->dy->Prop):B9
 |.normal,l,L=>k l L
 |e,l,L=>Q e l L
def pk (id:Nat)(Q:B9):B9
 |.exit i,l,L=>if i=id then Q .normal l L else Q (.exit i) l L
 |e,l,L=>Q e l L
theorem W.skip (h:Q .normal l L):W E X Γ .skip l L Q:=λtm s h1 h2=>jk.skip ⟨l,L,h1,h2,h⟩
theorem W.ret (h:Q .ret l L):W E X Γ .ret l L Q:=λtm s h1 h2=>jk.ret ⟨l,L,h1,h2,h⟩
theorem W.exit {id:Nat}(h:Q (.exit id) l L):W E X Γ (.exit id) l L Q:=λtm s h1 h2=>jk.exit ⟨l,L,h1,h2,h⟩
theorem W.seq (h:W E X Γ a l L (Ls Q λl L=>W E X Γ b l L Q)):W E X Γ (.seq a b) l L Q:=λtm s h1 h2=>by
 refine jk.seq ((h tm s h1 h2).mono ?_);rintro e tm s ⟨l,L,h3,h4,h5⟩;cases e with
 |normal=>exact h5 tm s h3 h4
 |exit i=>exact⟨l,L,h3,h4,h5⟩
 |ret=>exact⟨l,L,h3,h4,h5⟩
theorem W.block {id:Nat}(h:W E X Γ a l L (pk id Q)):W E X Γ (.block id a) l L Q:=λtm s h1 h2=>by
 refine jk.block ((h tm s h1 h2).mono ?_);rintro e tm s ⟨l,L,h3,h4,h5⟩;cases e with
 |normal=>exact⟨l,L,h3,h4,h5⟩
 |exit i=>
  refine⟨l,L,h3,h4,?_⟩;simp only[pk] at h5;split at h5
  .rename_i hi;rw[if_pos hi];exact h5
  .rename_i hi;rw[if_neg hi];exact h5
 |ret=>exact⟨l,L,h3,h4,h5⟩
inductive Ev (l:Kn):Operand->Value->Prop
 |tmp {t:Nat} {v:Value} (h:lk l t=some v):Ev l (.tmp t) v
 |const {v:Value}:Ev l (.const v) v
 |func {f:Nat}:Ev l (.func f) (.func (.func f) #[] #[])
theorem Ev.eval {x:Operand}{v:Value}{tm:Tm}(h:Ev l x v)(hl:mU l tm):aO tm x=v:=by
 cases h with
 |tmp h=>exact hl _ _ h
 |const=>rfl
 |func=>rfl
theorem W.cond {x:Operand}{t:Bool}(hx:Ev l x (.bool t))(h1:t=true->W E X Γ a l L Q)(h2:t=false->W E X Γ b l L Q):W E X Γ (.cond x a b) l L Q:=λtm s k1 k2=>by
 refine jk.cond t (hx.eval k1) ?_;cases t with
 |true=>exact h1 rfl tm s k1 k2
 |false=>exact h2 rfl tm s k1 k2
theorem W.loop (I:Nat->Kn->dy->Prop)(k:Nat)(h0:I k l L)(step:∀k l L,I k l L->W E X Γ a l L (Ls Q λl L=>∃j,j<k/\I j l L)):W E X Γ (.loop a) l L Q:=λtm s k1 k2=>by
 refine jk.loop (λk tm s=>∃l L,mU l tm/\Inv Γ s L/\I k l L) k ⟨l,L,k1,k2,h0⟩ ?_;rintro k tm s ⟨l,L,h1,h2,h3⟩;refine(step k l L h3 tm s h1 h2).mono ?_;rintro e tm s ⟨l,L,h3,h4,h5⟩;cases e with
 |normal=>obtain⟨j,hj,hI⟩:=h5;exact⟨j,hj,l,L,h3,h4,hI⟩
 |exit i=>exact⟨l,L,h3,h4,h5⟩
 |ret=>exact⟨l,L,h3,h4,h5⟩
theorem W.region {id:Nat}{aG:List Oper}(h:WS E X Γ aG aG l L (Q .normal)):W E X Γ (.region id ⟨aG⟩ false) l L Q:=λtm s h1 h2=>jk.region (h tm s h1 h2)
theorem W.draw {id:Nat}{aG:List Oper}(h:∀nx,(∀y∈L,∀i∈y.cr,i<nx)->Γ.s0.next<=nx->WD E X Γ aG aG 0 [] nx l L (Q .normal)):W E X Γ (.region id ⟨aG⟩ true) l L Q:=λtm s h1 h2=>jk.draw (h s.next (λy hy i hi=>(h2.lt y hy i hi).1) h2.le tm s [] h1 h2 rfl (λ_ hx=>by cases hx))
variable {K:Kn->dy->Prop}{KO:KO}
inductive Want (aG:List Oper)(l:Kn):Option (Nat×Bool)->Bool->Prop
 |none:Want aG l none true
 |some {j d:Nat} {w t:Bool} (hd:mB aG j=some d) (h:lk l d=some (.bool t)):Want aG l (some (j,w)) (if t then w else !w)
 |undef {j d:Nat} {w:Bool} (hd:mB aG j=some d) (h:lk l d=some (.tuple ⟨[]⟩)):Want aG l (some (j,w)) false
theorem Want.eval {g:Option (Nat×Bool)}{t:Bool}{tm:Tm}(h:Want aG l g t)(hl:mU l tm):ib aG tm g=t:=by
 cases h with
 |none=>rfl
 |some hd h=>
  have h1:=hl _ _ h;show uS (ob (mB aG _) λd=>tm.get d) _=_;rw[hd];show uS (tm.get _) _=_;have h2:lX (tm.get _)=_:=h1;rename_i j d w t;generalize tm.get d=q at h2;cases q with
  |none=>cases h2
  |some v=>cases (show v=_ from h2);cases t<;>rfl
 |undef hd h=>
  have h1:=hl _ _ h;show uS (ob (mB aG _) λd=>tm.get d) _=_;rw[hd];show uS (tm.get _) _=_;have h2:lX (tm.get _)=_:=h1;rename_i j d w;generalize tm.get d=q at h2;cases q with
  |none=>rfl
  |some v=>cases (show v=_ from h2);rfl
theorem WS.nil (h:K l L):WS E X Γ aG [] l L K:=λtm s h1 h2=>yZ.nil ⟨l,L,h1,h2,h⟩
theorem WS.cons {d:Nat}{o:Oper}(hd:o.dst=some d)(hw:Want aG l o.guard true)(h:WO E X Γ l o.op L λv L' _ _ _ _=>WS E X Γ aG aE ((d,v)::l) L' K):WS E X Γ aG (o::aE) l L K:=λtm s h1 h2=>by
 obtain⟨N,v,s',⟨L',R,Wr,h3,h4,h8⟩,hr⟩:=h tm s h1 h2;exact yZ.cons (hw.eval h1) ⟨N,v,s',by rw[hd];exact h8 _ _ (h1.cons d v) h3,hr⟩
theorem WS.WA {o:Oper}(hd:o.dst=none)(hw:Want aG l o.guard true)(h:WO E X Γ l o.op L λv L' _ _ _ _=>WS E X Γ aG aE l L' K):WS E X Γ aG (o::aE) l L K:=λtm s h1 h2=>by
 obtain⟨N,v,s',⟨L',R,Wr,h3,h4,h8⟩,hr⟩:=h tm s h1 h2;exact yZ.cons (hw.eval h1) ⟨N,v,s',by rw[hd];exact h8 _ _ h1 h3,hr⟩
theorem WS.pass {d:Nat}{o:Oper}(hd:o.dst=some d)(hw:Want aG l o.guard false)(h:WS E X Γ aG aE ((d,.tuple ⟨[]⟩)::l) L K):WS E X Γ aG (o::aE) l L K:=λtm s h1 h2=>by
 exact yZ.pass (hw.eval h1) (by rw[hd];exact h _ _ (h1.cons d _) h2)
end
variable {E:iq}{X:fY}{Γ:qN}{l:Kn}{L L':dy}{K:KO}{x y:Operand}{v u:Value}{t:TypeId}{k:IntKind}{t2:TypeId}{p q:List UInt8}
def Z:Fp:=λ_=>False
def bM (s:St)(a:aS)(n sz:Nat)(cs:aY):Prop:=
 cs.length=n*sz/\((n=0/\(a=none\/∃b o q,a=some ⟨b,o,some q⟩/\b<s.next))\/∃b o c e w,a=some ⟨b,o,none⟩/\b<s.next/\s.heap.get b=some (.cells c e w)/\(c.drop o).take (n*sz)=cs)
def dh (a:aS)(i sz j:Nat):Value:=match a with
 |some ⟨b,o,none⟩=>.pointer (some ⟨b,o+(i*sz+j),none⟩)
 |_=>.tuple ⟨[]⟩
def aj:aS->List Nat
 |some a=>[a.block]
 |none=>[]
class fZ (E:iq)(t:TypeId)(n:outParam Nat):Prop where
 h:size E t=some n
class np (E:iq)(t:TypeId):Prop where
 h:∃d,gX E t=some d/\xl d=false
class wJ (E:iq)(t:TypeId)(n:outParam Nat):Prop where
 h:∃d,gX E t=some d/\xl d=true/\size E t=some n
class iu (E:iq)(t:TypeId)(i:Nat)(off:outParam Nat):Prop where
 h:∃fs f sz,gX E t=some (.struct ⟨fs⟩)/\fs[i]?=some f/\size E f.type=some sz/\1<=sz/\f.offset=off
class pC (E:iq)(t:TypeId)(e sz:outParam Nat):Prop where
 h:gX E t=some (.slice e)/\∃i z,E.ty.get e=some i/\i.size=sz/\i.zero=some z/\(bZ z).length=sz/\1<=sz/\i.bytes<=1000000
class rj (E:iq)(t:TypeId)(z:outParam (aY)):Prop where
 h:∃v,zero E t=some v/\bZ v=z
class xF (E:iq)(t:TypeId):Prop where
 h:gX E t=some .string
class xG (E:iq)(t:TypeId)(k:outParam IntKind):Prop where
 h:gX E t=some (.int k)
class WB (E:iq)(t:TypeId):Prop where
 h:gX E t=some .bool
class TEq (E:iq)(t:TypeId)(ks:outParam (List Nat)):Prop where
 h:(t,ks)∈E.eqs
section
variable {c:Operand}
theorem kX.id {s:St}{R W:Fp}:kX s s R W:=⟨cC _,λ_ h=>.inl h,λ_ h=>.inl h⟩
theorem WO.val {o:Op}(h:∀tm s (call:ff),mU l tm->GI E call (aO tm) s o=some (v,s))(k:∀n,K v L n n Z Z):WO E X Γ l o L K:=λtm s h1 h2=>
 fy.pure (λcall=>h tm s call h1) ⟨L,Z,Z,h2,kX.id,k _⟩
theorem WO.move (hx:Ev l x v)(k:∀n,K v L n n Z Z):WO E X Γ l (.move x) L K:=WO.val (λtm s call h=>by show aM _ s=_;rw[hx.eval h];rfl) k
theorem WO.assign (hx:Ev l x v)(k:∀n,K v L n n Z Z):WO E X Γ l (.assign x) L K:=WO.val (λtm s call h=>by show aM _ s=_;rw[hx.eval h];rfl) k
theorem WO.ahc {b:Bool}(hc:Ev l c (.bool b))(hb:b=true)(hx:Ev l x v)(k:∀n,K v L n n Z Z):WO E X Γ l (.pick c x y) L K:=WO.val (λtm s call h=>by
 show QF (aO tm c) (aO tm x) (aO tm y) s=_;rw[hc.eval h,hx.eval h,hb];rfl) k
theorem WO.ahd {b:Bool}(hc:Ev l c (.bool b))(hb:b=false)(hy:Ev l y v)(k:∀n,K v L n n Z Z):WO E X Γ l (.pick c x y) L K:=WO.val (λtm s call h=>by
 show QF (aO tm c) (aO tm x) (aO tm y) s=_;rw[hc.eval h,hy.eval h,hb];rfl) k
theorem WO.not {b:Bool}(hx:Ev l x (.bool b))(k:∀n,K (.bool !b) L n n Z Z):WO E X Γ l (.unOp .not t x) L K:=WO.val (λtm s call h=>by
 show unV .not (aO tm x) s=_;rw[hx.eval h];rfl) k
theorem WO.extract {vs:aY}{i:Nat}(hx:Ev l x (.tuple ⟨vs⟩))(hv:jc vs i=some v)(k:∀n,K v L n n Z Z):WO E X Γ l (.extract x i) L K:=WO.val (λtm s call h=>by
 show yJ s (aO tm x) i=_;rw[hx.eval h];show ob (jc vs i) _=_;rw[hv];rfl) k
theorem WO.bin {op:BinOp}{t2:TypeId}(hx:Ev l x v)(hy:Ev l y u){r:Value}(h:∀cc,Su E op t cc v u=some r)(k:∀n,K r L n n Z Z):WO E X Γ l (.binOp op t x y t2) L K:=WO.val (λtm s call hl=>by
 show ob (Su E op t (isC x||isC y) (aO tm x) (aO tm y)) (λv=>aM v s)=_;rw[hx.eval hl,hy.eval hl,h];rfl) k
def Fit (n:Int):Prop:=-9223372036854775808<=n/\n<=9223372036854775807
theorem qA {n:Int}(h:Fit n):IntKind.wrap .i64 n=n:=by refine' zaP
section
variable {a b:Int}
theorem WO.add (hx:Ev l x (iv a))(hy:Ev l y (iv b))(hf:Fit (a+b))(h:∀n,K (iv (a+b)) L n n Z Z):WO E X Γ l (.binOp .add t x y t2) L K:=WO.bin hx hy (λcc=>by
 show some (Value.int .i64 (qf .i64 (a+b)))=_;rw[jR,qA hf]) h
theorem WO.sub (hx:Ev l x (iv a))(hy:Ev l y (iv b))(hf:Fit (a-b))(h:∀n,K (iv (a-b)) L n n Z Z):WO E X Γ l (.binOp .sub t x y t2) L K:=WO.bin hx hy (λcc=>by
 show some (Value.int .i64 (qf .i64 (a-b)))=_;rw[jR,qA hf]) h
theorem WO.mul (hx:Ev l x (iv a))(hy:Ev l y (iv b))(hf:Fit (a*b))(h:∀n,K (iv (a*b)) L n n Z Z):WO E X Γ l (.binOp .mul t x y t2) L K:=WO.bin hx hy (λcc=>by
 show some (Value.int .i64 (qf .i64 (a*b)))=_;rw[jR,qA hf]) h
theorem WO.quo (hx:Ev l x (iv a))(hy:Ev l y (iv b))(hb:b≠0)(hf:Fit (a.tdiv b))(h:∀n,K (iv (a.tdiv b)) L n n Z Z):WO E X Γ l (.binOp .quo t x y t2) L K:=WO.bin hx hy (λcc=>by
 show bo (yE b (.ofNat 0)) none (some (Value.int .i64 (qf .i64 (a.tdiv b))))=_;rw[jB,jR,qA hf];have:(b== Int.ofNat 0)=false:=by simpa using hb
 rw[this];rfl) h
theorem WO.rem (hx:Ev l x (iv a))(hy:Ev l y (iv b))(hb:b≠0)(h:∀n,K (iv (a.tmod b)) L n n Z Z):WO E X Γ l (.binOp .rem t x y t2) L K:=WO.bin hx hy (λcc=>by
 show bo (yE b (.ofNat 0)) none (some (Value.int .i64 (a.tmod b)))=_;rw[jB];have:(b== Int.ofNat 0)=false:=by simpa using hb
 rw[this];rfl) h
theorem vg (k:IntKind):qg k k=true:=by cases k<;>rfl
theorem tJ {op:BinOp}{r:Value}(hs:adY op=false)(h:KS op k a b=some r):∀cc,Su E op t cc (.int k a) (.int k b)=some r:=λcc=>by
 show bo (adY op) (shV op k a b) (bo (qg k k) (KS op k a b) none)=_;rw[hs,vg,eG,gA,h]
theorem WO.lss (hx:Ev l x (.int k a))(hy:Ev l y (.int k b))(h:∀n,K (.bool (decide (a<b))) L n n Z Z):WO E X Γ l (.binOp .lss t x y t2) L K:=WO.bin hx hy (tJ rfl (by rw[<-rJ];rfl)) h
theorem WO.leq (hx:Ev l x (.int k a))(hy:Ev l y (.int k b))(h:∀n,K (.bool (decide (a<=b))) L n n Z Z):WO E X Γ l (.binOp .leq t x y t2) L K:=WO.bin hx hy (tJ rfl (by
 show some (Value.bool !(Vb b a))=_;rw[rJ];congr 2;rw[<-decide_not];simp)) h
theorem WO.gtr (hx:Ev l x (.int k a))(hy:Ev l y (.int k b))(h:∀n,K (.bool (decide (b<a))) L n n Z Z):WO E X Γ l (.binOp .gtr t x y t2) L K:=WO.bin hx hy (tJ rfl (by rw[<-rJ];rfl)) h
theorem WO.geq (hx:Ev l x (.int k a))(hy:Ev l y (.int k b))(h:∀n,K (.bool (decide (b<=a))) L n n Z Z):WO E X Γ l (.binOp .geq t x y t2) L K:=WO.bin hx hy (tJ rfl (by
 show some (Value.bool !(Vb a b))=_;rw[rJ];congr 2;rw[<-decide_not];simp)) h
theorem WO.eql (hx:Ev l x (.int k a))(hy:Ev l y (.int k b))(h:∀n,K (.bool (decide (a=b))) L n n Z Z):WO E X Γ l (.binOp .eql t x y t2) L K:=WO.bin hx hy (tJ rfl (by
 show some (Value.bool (yE a b))=_;rw[jB];congr 2)) h
theorem WO.neq (hx:Ev l x (.int k a))(hy:Ev l y (.int k b))(h:∀n,K (.bool !(decide (a=b))) L n n Z Z):WO E X Γ l (.binOp .neq t x y t2) L K:=WO.bin hx hy (tJ rfl (by
 show some (Value.bool !(yE a b))=_;rw[jB];congr 2)) h
end
theorem WO.akI (hx:Ev l x (sv p))(hy:Ev l y (sv q))(hf:p.length+q.length<=1000000000)(h:∀n,K (sv (p++q)) L n n Z Z):WO E X Γ l (.binOp .add t x y t2) L K:=WO.bin hx hy (λcc=>by
 show dN (Nat.ble (Nat.add (dX p) (dX q)) 1000000000) (some (Value.string ⟨⟨p++q⟩⟩))=_;have:Nat.ble (Nat.add (dX p) (dX q)) 1000000000=true:=gb (by simpa using hf);rw[this];rfl) h
theorem WO.akJ (hx:Ev l x (sv p))(hy:Ev l y (sv q))(h:∀n,K (.bool (decide (p=q))) L n n Z Z):WO E X Γ l (.binOp .eql t x y t2) L K:=WO.bin hx hy (λcc=>by
 show some (Value.bool (gz p q))=_;rw[eQ];congr 2;rw[pd];simp) h
theorem WO.akK (hx:Ev l x (sv p))(hy:Ev l y (sv q))(h:∀n,K (.bool !(decide (p=q))) L n n Z Z):WO E X Γ l (.binOp .neq t x y t2) L K:=WO.bin hx hy (λcc=>by
 show some (Value.bool !(gz p q))=_;rw[eQ];congr 3;rw[pd];simp) h
theorem WO.akL (hx:Ev l x (sv p))(hy:Ev l y (sv q))(h:∀n,K (.bool !(Op.bytesLess p q)) L n n Z Z):WO E X Γ l (.binOp .geq t x y t2) L K:=WO.bin hx hy (λcc=>by
 show some (Value.bool !(oD p q))=_;rw[tj]) h
theorem WO.index {i:Nat}[ht:xF E t](hx:Ev l x (sv p)){k:IntKind}(hy:Ev l y (.int k (i:Int)))(hi:i<p.length)(h:∀n,K (bv (p.getD i 0)) L n n Z Z):WO E X Γ l (.index t x y) L K:=WO.val (λtm s call hl=>by
 show IN E s t (aO tm x) (aO tm y)=_;rw[hx.eval hl,hy.eval hl];unfold IN;rw[ht.h];show ob (jc p i) (λc=>aM (.int .u8 (.ofNat c.toNat)) s)=_;rw[dO,bc hi];simp[a7,bc hi];rfl) h
theorem WO.akM [ht:xF E t](hx:Ev l x (sv p))(h:∀n,K (iv (p.length:Nat)) L n n Z Z):WO E X Γ l (.call ⟨.builtin .len,⟨[x]⟩,⟨[t]⟩⟩) L K:=WO.val (λtm s call hl=>by
 show yI E (aO tm) s .len [t] [x]=_;show sb E s .len [t] (aO tm x)=_;rw[hx.eval hl];show ob (some t) (λt=>ob (Sw E t (sv p)) λv=>aM v s)=_;simp only[bu];unfold Sw;rw[ht.h];simp[aM]) h
theorem WO.akN {a:aS}{n c e sz:Nat}[ht:pC E t e sz](hx:Ev l x (.slice a n c))(h:∀m,K (iv (n:Nat)) L m m Z Z):WO E X Γ l (.call ⟨.builtin .len,⟨[x]⟩,⟨[t]⟩⟩) L K:=WO.val (λtm s call hl=>by
 show yI E (aO tm) s .len [t] [x]=_;show sb E s .len [t] (aO tm x)=_;rw[hx.eval hl];show ob (some t) (λt=>ob (Sw E t (.slice a n c)) λv=>aM v s)=_;simp only[bu];unfold Sw;rw[ht.h.1];simp[aM]) h
theorem WO.Jl {lo hi:Option Operand}{i j:Nat}[ht:xF E t](hx:Ev l x (sv p))(hlo:(lo=none/\i=0)\/∃o k,lo=some o/\Ev l o (.int k (i:Int)))(Z3:(hi=none/\j=p.length)\/∃o k,hi=some o/\Ev l o (.int k (j:Int)))
  (nI:i<=j)(hj:j<=p.length)(h:∀n,K (sv ((p.drop i).take (j-i))) L n n Z Z):WO E X Γ l (.slice t x lo hi none) L K:=WO.val (λtm s call hl=>by
 show kH E s t (aO tm x) (dB (aO tm) lo) (dB (aO tm) hi) none=_;rw[hx.eval hl];have h1:hiV (dX p) (dX p) (dB (aO tm) hi) none=some j:=by
  rcases Z3 with⟨rfl,rfl⟩|⟨o,k,rfl,ho⟩
  .show some (dX p)=_;simp
  .show pG (aO tm o) (dX p)=_;rw[ho.eval hl];show bo (Nat.ble j (dX p)) (some j) none=_;rw[gb (by simpa using hj)];rfl
 have h2:Sv (dB (aO tm) lo) j 0=some i:=by
  rcases hlo with⟨rfl,rfl⟩|⟨o,k,rfl,ho⟩
  .rfl
  .show pG (aO tm o) j=_;rw[ho.eval hl];show bo (Nat.ble i j) (some i) none=_;rw[gb nI];rfl
 unfold kH;rw[ht.h];show ob (C1 p (dB (aO tm) lo) (dB (aO tm) hi) none) (λv=>aM v s)=_;have h3:C1 p (dB (aO tm) lo) (dB (aO tm) hi) none=some (sv ((p.drop i).take (j-i))):=by
  show ob (some (dX p)) (λm=>ob (hiV (dX p) m (dB (aO tm) hi) none) λh=>ob (Sv (dB (aO tm) lo) h 0) λl=>some (Value.string ⟨⟨VC (Nat.sub h l) (VD l p)⟩⟩))=_;simp only[bu,h1,h2];simp
 rw[h3];rfl) h
end
variable {s s':St}{R:dy}{n sz:Nat}{cs:aY}{α:Type}
inductive y3 (x x':It):dy->dy->Prop
 |here {L:dy}:y3 x x' (x::L) (x'::L)
 |there {y:It} {L L':dy} (h:y3 x x' L L'):y3 x x' (y::L) (y::L')
theorem y3.cT {x x':It}{L L':dy}(h:y3 x x' L L'):∃R:dy,L.Perm (x::R)/\L'.Perm (x'::R):=by
 induction h with
 |here=>exact⟨_,.refl _,.refl _⟩
 |there h ih=>
  obtain⟨R,h1,h2⟩:=ih;exact⟨_::R,(h1.cons _).trans (.swap _ _ _),(h2.cons _).trans (.swap _ _ _)⟩
theorem Inv.cT (h:Inv Γ s L)(hp:L.Perm L'):Inv Γ s L':=h.sub ⟨L,hp,Gs _⟩
theorem Inv.iM {x:It}(h:Inv Γ s (x::R)):Inv Γ s R:=h.sub ⟨R,.refl _,List.sublist_cons_self _ _⟩
theorem Inv.far {x:It}(h:Inv Γ s (x::R)):∀y∈R,∀b∈y.cr,b∉x.cr:=by have:=h.nd;rw[js,uP] at this;intro y hy b hb hx;exact this.2.2 b hx b (px.2 ⟨y,hy,hb⟩) rfl
def Ca (Γ:qN)(s:St)(b:Nat):Prop:=b<s.next/\(b∈Γ.A\/b∈Γ.M\/Γ.s0.next<=b)
theorem Inv.may {x:It}(h:Inv Γ s L)(hx:x∈L){b:Nat}(hb:b∈x.cr):Ca Γ s b:=⟨(h.lt x hx b hb).1,.inr ((h.lt x hx b hb).2.symm)⟩
theorem Inv.aU {b:Nat}(h:Inv Γ s L)(hb:Ca Γ s b):Inv Γ (s.aU b) L:=
 h.same ay ay (λi hi=>by
   rw[se,gO] at hi;rcases hi with hi|rfl
   .exact .inl hi
   .exact .inr hb.2) (λi hi=>by rw[Cp] at hi;exact .inl hi) (λi hi=>by
   rw[se,gO] at hi;rcases hi with hi|rfl
   .exact .inl hi
   .exact .inr hb.1) (λi hi=>by rw[Cp] at hi;exact .inl hi)
theorem Inv.new {x:It}{o:gv}(h:Inv Γ s L)(hx:x.ok (s.new o))(hb:x.cr=[s.next]):Inv Γ (s.new o) (x::L):=by
 refine⟨λb h1 h2=>?_,by rw[lY];have:=h.le;omega,?_,?_,?_,?_,?_,?_,?_⟩
 .rw[Cq,if_neg (by have:=h.le;omega)];exact h.fr b h1 h2
 .intro y hy;rcases bH.1 hy with rfl|hy
  .exact hx
  .refine It.y0 (h.it y hy) λb hb=>?_
   rw[Cq,if_neg (by have:=(h.lt y hy b hb).1;omega)]
 .intro y hy b lO;rw[lY];rcases bH.1 hy with rfl|hy
  .rw[hb] at lO;simp at lO;subst lO;exact⟨af,.inl h.le⟩
  .have:=h.lt y hy b lO;exact⟨af,this.2⟩
 .rw[js,hb,uh,yB];refine⟨λhm=>?_,h.nd⟩;obtain⟨y,hy,lO⟩:=px.1 hm;have:=(h.lt y hy _ lO).1;omega
 .intro b lO;rw[yN,gO] at lO;rcases lO with lO|rfl
  .exact h.cV b lO
  .exact .inr (.inr (.inr h.le))
 .intro b lO;rw[xw,gO] at lO;rcases lO with lO|rfl
  .exact h.wr b lO
  .exact .inr (.inr h.le)
 .intro b lO;rw[yN,gO] at lO;rw[lY];rcases lO with lO|rfl
  .rcases h.top b lO with h|h
   .exact .inl h
   .exact .inr af
  .exact .inr af
 .intro b lO;rw[xw,gO] at lO;rw[lY];rcases lO with lO|rfl
  .rcases h.y1 b lO with h|h
   .exact .inl h
   .exact .inr af
  .exact .inr af
theorem Inv.put {x x':It}{b:Nat}{o:Option gv}(h:Inv Γ s L)(hu:y3 x x' L L')(hb:x.cr=[b])(lO:x'.cr=[b])(hx:x'.ok (s.put b o)):Inv Γ (s.put b o) L':=by
 obtain⟨R,h1,h2⟩:=hu.cT;have hR:=h.cT h1;have iF:=hR.lt x ay b (by simp[hb]);refine Inv.cT (L:=x'::R) ?_ h2.symm;refine⟨λc h3 h4=>?_,by rw[dY];exact h.le,?_,?_,?_,?_,?_,?_,?_⟩
 .rw[qZ,if_neg]
  .exact h.fr c h3 h4
  .rintro rfl;rcases iF.2 with h5|h5
   .omega
   .exact h4 h5
 .intro y hy;rcases bH.1 hy with rfl|hy
  .exact hx
  .refine It.y0 (hR.it y (by simp[hy])) λc hc=>?_
   rw[qZ,if_neg];rintro rfl;exact hR.far y hy c hc (by simp[hb])
 .intro y hy c hc;rw[dY];rcases bH.1 hy with rfl|hy
  .rw[lO] at hc;simp at hc;subst hc;exact iF
  .exact hR.lt y (by simp[hy]) c hc
 .have:=hR.nd;rw[js,hb] at this;rw[js,lO];exact this
 .intro c hc;rw[q8,gO] at hc;rcases hc with hc|rfl
  .exact h.cV c hc
  .exact .inr (.inr iF.2.symm)
 .intro c hc;rw[td,gO] at hc;rcases hc with hc|rfl
  .exact h.wr c hc
  .exact .inr iF.2.symm
 .intro c hc;rw[q8,gO] at hc;rw[dY];rcases hc with hc|rfl
  .exact h.top c hc
  .exact .inr iF.1
 .intro c hc;rw[td,gO] at hc;rw[dY];rcases hc with hc|rfl
  .exact h.y1 c hc
  .exact .inr iF.1
theorem Inv.kill {x:It}{b:Nat}{o:Option gv}(h:Inv Γ s (x::R))(hb:x.cr=[b]):Inv Γ (s.put b o) R:=by
 have iF:=h.lt x ay b (by simp[hb]);have hR:=h.iM;refine⟨λc h3 h4=>?_,by rw[dY];exact h.le,λy hy=>It.y0 (hR.it y hy) λc hc=>?_,λy hy c hc=>by rw[dY];exact hR.lt y hy c hc,hR.nd,?_,?_,?_,?_⟩
 .rw[qZ,if_neg]
  .exact h.fr c h3 h4
  .rintro rfl;rcases iF.2 with h5|h5
   .omega
   .exact h4 h5
 .rw[qZ,if_neg];rintro rfl;exact h.far y hy c hc (by simp[hb])
 .intro c hc;rw[q8,gO] at hc;rcases hc with hc|rfl
  .exact h.cV c hc
  .exact .inr (.inr iF.2.symm)
 .intro c hc;rw[td,gO] at hc;rcases hc with hc|rfl
  .exact h.wr c hc
  .exact .inr iF.2.symm
 .intro c hc;rw[q8,gO] at hc;rw[dY];rcases hc with hc|rfl
  .exact h.top c hc
  .exact .inr iF.1
 .intro c hc;rw[td,gO] at hc;rw[dY];rcases hc with hc|rfl
  .exact h.y1 c hc
  .exact .inr iF.1
structure Rd (Γ:qN)(a:aS)(n sz:Nat)(cs:aY):Prop where
 row:bM Γ.s0 a n sz cs
 A:∀b∈aj a,b∈Γ.A
 M:∀b∈aj a,b∉Γ.M
inductive kr (Γ:qN)(L:dy)(a:aS)(n sz:Nat)(cs:aY):Prop
 |rd (h:Rd Γ a n sz cs):kr Γ L a n sz cs
 |aQ {c e:Nat} (h:It.aQ (.slice a n c) e sz cs∈L):kr Γ L a n sz cs
 |box {b t:Nat} {w:Bool} (h:It.box b cs t w∈L) (ha:a=some ⟨b,0,none⟩) (hn:cs.length=n*sz):kr Γ L a n sz cs
 |sub {c e n0:Nat} {a0:aS} {QR:aY} (h:It.aQ (.slice a0 n0 c) e sz QR∈L) (hr:∀s,bM s a0 n0 sz QR->bM s a n sz cs) (hb:∀b∈aj a,b∈aj a0):kr Γ L a n sz cs
section
variable {a:aS}
theorem mu.row {e c:Nat}(h:mu s (.slice a n c) e sz cs)(hb:∀b∈aj a,b<s.next):bM s a n sz cs:=by
 rcases h with⟨h1,rfl⟩|⟨b,m,k,w,aE,h1,h2,h3,h4⟩
 .cases h1;exact⟨ay,.inl ⟨rfl,.inl rfl⟩⟩
 .cases h1;exact⟨h3,.inr ⟨b,0,cs++aE,e,w,rfl,hb b (by simp[aj]),h2,by rw[<-h3];simp⟩⟩
theorem kr.row (h:kr Γ L a n sz cs)(hi:Inv Γ s L):bM s a n sz cs/\∀b∈aj a,Ca Γ s b:=by
 cases h with
 |rd h=>
  obtain⟨h1,h2⟩:=h.row;rcases h2 with⟨rfl,rfl|⟨b,o,q,rfl,h3⟩⟩|⟨b,o,c,e,w,rfl,h3,h4,h5⟩
  .exact⟨⟨h1,.inl ⟨rfl,.inl rfl⟩⟩,by simp[aj]⟩
  .have:=hi.le;refine⟨⟨h1,.inl ⟨rfl,.inr ⟨b,o,q,rfl,af⟩⟩⟩,λi hb=>?_⟩;have hib:i=b:=by simpa[aj] using hb
   subst hib;exact⟨af,.inl (h.A i hb)⟩
  .have:=hi.le;refine⟨⟨h1,.inr ⟨b,o,c,e,w,rfl,af,?_,h5⟩⟩,λi hb=>?_⟩
   .rw[hi.fr b h3 (h.M b (by simp[aj]))];exact h4
   .have hib:i=b:=by simpa[aj] using hb
    subst hib;exact⟨af,.inl (h.A i hb)⟩
 |aQ h=>
  have h1:∀b∈aj a,Ca Γ s b:=λb hb=>hi.may h (by
   cases a with
   |none=>simp[aj] at hb
   |some a=>simpa[It.cr,pj,aj] using hb)
  exact⟨mu.row (hi.it _ h) λb hb=>(h1 b hb).1,h1⟩
 |sub h hr hb=>
  rename_i c e n0 a0 QR;have h1:∀b∈aj a0,Ca Γ s b:=λb hb=>hi.may h (by
   cases a0 with
   |none=>simp[aj] at hb
   |some a=>simpa[It.cr,pj,aj] using hb)
  exact⟨hr s (mu.row (hi.it _ h) λb hb=>(h1 b hb).1),λb lO=>h1 b (hb b lO)⟩
 |box h ha hn=>
  rename_i b t w;subst ha;have h1:=hi.may h (b:=b) (by simp[It.cr]);refine⟨⟨hn,.inr ⟨b,0,cs,t,w,rfl,h1.1,hi.it _ h,by rw[<-hn];simp⟩⟩,λi fb=>?_⟩;have:i=b:=by simpa[aj] using fb
  subst this;exact h1
theorem cH {s:St}{b:Nat}{R W:Fp}(hb:b<s.next)(hR:R b):kX s (s.aU b) R W:=⟨ay,λi hi=>by
  rw[se,gO] at hi;rw[bQ];rcases hi with hi|rfl
  .exact .inl hi
  .exact .inr ⟨hR,hb⟩,λi hi=>by rw[Cp] at hi;exact .inl hi⟩
theorem tK {b off:Nat}{c:aY}{e:TypeId}{w:Bool}[ht:np E t](hb:s.heap.get b=some (.cells c e w))(hv:c[off]?=some v):lM E s t b off=some (v,s.aU b):=by obtain⟨d,h1,h2⟩:=ht.h;unfold lM St.IH St.look;rw[hb];simp only[bu,h1,h2,eG,dO,hv]
theorem vU {b off m:Nat}{c:aY}{e:TypeId}{w:Bool}{r:aY}[ht:wJ E t m](hb:s.heap.get b=some (.cells c e w))(hv:ie m (gg off c)=some r):lM E s t b off=some (.agg ⟨r⟩,s.aU b):=by obtain⟨d,h1,h2,h3⟩:=ht.h;unfold lM St.IH St.look;rw[hb];simp only[bu,h1,h2,gA,h3,hv]
theorem WO.reads {o:Op}{b:Nat}(hi:∀s,Inv Γ s L->Ca Γ s b)(h:∀tm s (call:ff),mU l tm->Inv Γ s L->GI E call (aO tm) s o=some (v,s.aU b))(k:∀n,K v L n n (λi=>i=b) Z):WO E X Γ l o L K:=λtm s h1 h2=>
 fy.pure (λcall=>h tm s call h1 h2) ⟨L,(λi=>i=b),Z,h2.aU (hi s h2),cH (hi s h2).1 rfl,by rw[bQ];exact k _⟩
theorem WO.load {b off:Nat}{e:TypeId}{w:Bool}[ht:np E t](hx:Ev l x (.pointer (some ⟨b,off,none⟩)))(hm:It.box b cs e w∈L)(hv:jc cs off=some v)(k:∀n,K v L n n (λi=>i=b) Z):WO E X Γ l (.load t x) L K:=
 WO.reads (λs hi=>hi.may hm (by simp[It.cr])) (λtm s call hl hi=>by
   show(Fv (aO tm x) λb o=>lM E s t b o)=_;rw[hx.eval hl];exact tK (hi.it _ hm) (by rw[<-dO];exact hv)) k
theorem WO.ahe {b off m:Nat}{e:TypeId}{w:Bool}{r:aY}[ht:wJ E t m](hx:Ev l x (.pointer (some ⟨b,off,none⟩)))(hm:It.box b cs e w∈L)(hv:ie m (gg off cs)=some r)(k:∀n,K (.agg ⟨r⟩) L n n (λi=>i=b) Z):WO E X Γ l (.load t x) L K:=
 WO.reads (λs hi=>hi.may hm (by simp[It.cr])) (λtm s call hl hi=>by
   show(Fv (aO tm x) λb o=>lM E s t b o)=_;rw[hx.eval hl];exact vU (hi.it _ hm) hv) k
class aq (α:Type)(sz:outParam Nat) where
 cells:α->aY
 ah:α
 len:∀x,(cells x).length=sz
 fl:∀x,∀v∈cells x,flat v=true
 pos:1<=sz
def ai {α:Type}{sz:Nat}[aq α sz](l:List α):aY:=l.flatMap (aq.cells (sz:=sz))
section
variable [aq α sz]
theorem oS (p q:List α):ai (sz:=sz) (p++q)=ai (sz:=sz) p++ai (sz:=sz) q:=by simp[ai]
theorem dE (p:α)(q:List α):ai (sz:=sz) (p::q)=aq.cells (sz:=sz) p++ai (sz:=sz) q:=by simp[ai]
theorem aR (p:List α):(ai (sz:=sz) p).length=p.length*sz:=by
 induction p with
 |nil=>simp[ai]
 |cons x p ih=>rw[dE,bn,ih,aq.len];simp[lU,Nat.add_comm]
theorem Az (p:List α):∀v∈ai (sz:=sz) p,flat v=true:=by intro v hv;obtain⟨x,_,h⟩:=px.1 hv;exact aq.fl x v h
theorem vV (p:List α)(i:Nat):(ai (sz:=sz) p).drop (i*sz)=ai (sz:=sz) (p.drop i):=by
 induction p generalizing i with
 |nil=>simp[ai]
 |cons x p ih=>
  cases i with
  |zero=>simp
  |succ i=>
   rw[dE,List.drop_succ_cons,<-ih,List.drop_append,aq.len];(have:(i+1)*sz=sz+i*sz:=by rw[lU];omega);rw[this];simp[aq.len]
theorem pU (p:List α)(i:Nat):(ai (sz:=sz) p).take (i*sz)=ai (sz:=sz) (p.take i):=by
 induction p generalizing i with
 |nil=>simp[ai]
 |cons x p ih=>
  cases i with
  |zero=>simp[ai]
  |succ i=>
   rw[dE,x_5,dE,<-ih,KI,aq.len];(have:(i+1)*sz=sz+i*sz:=by rw[lU];omega);rw[this,Nat.add_sub_cancel_left,rT (by rw[aq.len];omega)]
theorem QZ (p:List α){i:Nat}(hi:i<p.length):∃q r,ai (sz:=sz) p=q++(aq.cells (sz:=sz) (p.getD i (aq.ah (sz:=sz)))++r)/\q.length=i*sz:=by
 refine⟨ai (sz:=sz) (p.take i),ai (sz:=sz) (p.drop (i+1)),?_,?_⟩
 .have h:p=p.take i++(p.getD i (aq.ah (sz:=sz))::p.drop (i+1)):=by
   rw[a7,bc hi];simp
  conv=>lhs;rw[h]
  rw[oS,dE]
 .rw[aR,cO,yA (rV hi)]
theorem WE (p:List α){i j:Nat}(hi:i<p.length)(hv:jc (aq.cells (sz:=sz) (p.getD i (aq.ah (sz:=sz)))) j=some v):(ai (sz:=sz) p)[i*sz+j]?=some v:=by obtain⟨q,r,h1,h2⟩:=QZ (sz:=sz) p hi;rw[dO] at hv;have hj:j<(aq.cells (sz:=sz) (p.getD i (aq.ah (sz:=sz)))).length:=(sV.1 hv).1;rw[h1,Ad af,h2,Nat.add_sub_cancel_left,wB hj,hv]
theorem WG (p:List α){i:Nat}(hi:i<p.length):ie sz (gg (i*sz+0) (ai (sz:=sz) p))=some (aq.cells (sz:=sz) (p.getD i (aq.ah (sz:=sz)))):=by obtain⟨q,r,h1,h2⟩:=QZ (sz:=sz) p hi;rw[qi,yL,h1,xj,<-h2,List.drop_left,if_pos (by rw[bn,aq.len];omega),KI,aq.len,rT (by rw[aq.len];omega)];simp
end
section
variable {enc:aq α sz}
theorem bM.at_ {p:List α}(h:bM s a n sz (ai (sz:=sz) p)){i:Nat}(hi:i<p.length):∃b o c e w,a=some ⟨b,o,none⟩/\b<s.next/\s.heap.get b=some (.cells c e w)/\(c.drop o).take (n*sz)=ai (sz:=sz) p/\n=p.length:=by
 have hn:n=p.length:=by
  have h1:=h.1;rw[aR] at h1;exact(Nat.eq_of_mul_eq_mul_right (aq.pos (α:=α) (sz:=sz)) h1).symm
 rcases h.2 with⟨h0,_⟩|⟨b,o,c,e,w,rfl,h1,h2,h3⟩
 .omega
 .exact⟨b,o,c,e,w,rfl,h1,h2,h3,hn⟩
theorem Bz {c cs:aY}{o m k:Nat}(h:(c.drop o).take m=cs)(hv:cs[k]?=some v):c[o+k]?=some v:=by
 have hk:k<cs.length:=(sV.1 hv).1;rw[<-h,ID] at hv;split at hv
 .rw[wP] at hv;exact hv
 .cases hv
theorem wZ {c cs r:aY}{o m k sz:Nat}(h:(c.drop o).take m=cs)(hv:ie sz (gg k cs)=some r):ie sz (gg (o+k) c)=some r:=by
 obtain⟨h1,h2⟩:=kJ hv;rw[qi] at h1 h2⊢;subst h2;rw[yL];rw[<-h,eP,cO,eP] at h1;have h3:sz<=(c.drop (o+k)).length:=by rw[eP];omega
 rw[if_pos h3]
 congr 1
 rw[<-h,List.drop_take,mA,Oj,yA af]
theorem WO.ahf {p:List α}{i j:Nat}[ht:np E t](hx:Ev l x (dh a i sz j))(hh:kr Γ L a n sz (ai (sz:=sz) p))(hi:i<p.length)(hv:jc (aq.cells (sz:=sz) (p.getD i (aq.ah (sz:=sz)))) j=some v)(k:∀n,K v L n n (λi=>i∈aj a) Z):WO E X Γ l (.load t x) L K:=λtm s h1 h2=>by
 obtain⟨hr,hm⟩:=hh.row h2;obtain⟨b,o,c,e,w,rfl,h3,h4,h5,h6⟩:=hr.at_ hi;refine fy.pure (v:=v) (s':=s.aU b) (λcall=>?_) ⟨L,(λi=>i∈aj (some ⟨b,o,none⟩)),Z,h2.aU (hm b (by simp[aj])),cH h3 (by simp[aj]),by rw[bQ];exact k _⟩
 .show(Fv (aO tm x) λb o=>lM E s t b o)=_;rw[hx.eval h1];exact tK h4 (Bz h5 (WE p hi hv))
theorem WO.ael {p:List α}{i:Nat}[ht:wJ E t sz](hx:Ev l x (dh a i sz 0))(hh:kr Γ L a n sz (ai (sz:=sz) p))(hi:i<p.length)(k:∀n,K (.agg ⟨aq.cells (sz:=sz) (p.getD i (aq.ah (sz:=sz)))⟩) L n n (λi=>i∈aj a) Z):WO E X Γ l (.load t x) L K:=λtm s h1 h2=>by
 obtain⟨hr,hm⟩:=hh.row h2;obtain⟨b,o,c,e,w,rfl,h3,h4,h5,h6⟩:=hr.at_ hi;refine fy.pure (v:=.agg ⟨aq.cells (sz:=sz) (p.getD i (aq.ah (sz:=sz)))⟩) (s':=s.aU b) (λcall=>?_) ⟨L,(λi=>i∈aj (some ⟨b,o,none⟩)),Z,h2.aU (hm b (by simp[aj])),cH h3 (by simp[aj]),by rw[bQ];exact k _⟩
 .show(Fv (aO tm x) λb o=>lM E s t b o)=_;rw[hx.eval h1];exact vU h4 (wZ h5 (WG p hi))
theorem WO.indexAddr {p:List α}{i c e:Nat}{k:IntKind}[ht:pC E t e sz](hx:Ev l x (.slice a n c))(hy:Ev l y (.int k (i:Int)))(hh:kr Γ L a n sz (ai (sz:=sz) p))(hi:i<p.length)(hk:∀n,K (dh a i sz 0) L n n Z Z):WO E X Γ l (.indexAddr t x y) L K:=λtm s h1 h2=>by
 obtain⟨hr,hm⟩:=hh.row h2;obtain⟨b,o,cc,e',w,rfl,h3,h4,h5,h6⟩:=hr.at_ hi;obtain⟨hu,z1,z2,hz,hz2,_⟩:=ht.h;refine fy.pure (v:=dh (some ⟨b,o,none⟩) i sz 0) (s':=s) (λcall=>?_) ⟨L,Z,Z,h2,kX.id,hk _⟩;show n3 E s t (aO tm x) (aO tm y)=_;rw[hx.eval h1,hy.eval h1];unfold n3;rw[hu];show dN (Nat.ble (Nat.succ i) n) (ob (size E e) λsz=>aM (.pointer (some ⟨b,Nat.add o (Nat.mul i sz),none⟩)) s)=_;have hs:size E e=some sz:=by unfold size;rw[hz];simp[hz2]
 rw[gb af,hs];rfl
end
theorem WO.fieldAddr {b o i off:Nat}[ht:iu E t i off](hx:Ev l x (.pointer (some ⟨b,o,none⟩)))(k:∀n,K (.pointer (some ⟨b,o+off,none⟩)) L n n Z Z):WO E X Γ l (.fieldAddr t x i) L K:=WO.val (λtm s call hl=>by
 obtain⟨fs,f,sz,h1,h2,h3,h4,h5⟩:=ht.h;show nZ E s t (aO tm x) i=_;rw[hx.eval hl];unfold nZ;rw[h1];simp only[bu,dO,h2,h3,gb h4];show aM (.pointer (some ⟨b,Nat.add o f.offset,none⟩)) s=_;rw[h5];rfl) k
theorem WO.OU {α:Type}{enc:aq α sz}{p:List α}{i j f off:Nat}[ht:iu E t f off](hx:Ev l x (dh a i sz j))(hh:kr Γ L a n sz (ai (sz:=sz) p))(hi:i<p.length)(k:∀n,K (dh a i sz (j+off)) L n n Z Z):WO E X Γ l (.fieldAddr t x f) L K:=λtm s hl h2=>by
 obtain⟨fs,f,Q0,h1,N8,h3,h4,h5⟩:=ht.h;obtain⟨b,o,_,_,_,rfl,_⟩:=(hh.row h2).1.at_ hi;refine fy.pure (v:=dh (some ⟨b,o,none⟩) i sz (j+off)) (s':=s) (λcall=>?_) ⟨L,Z,Z,h2,kX.id,k _⟩;show nZ E s t (aO tm x) _=_;rw[hx.eval hl];unfold nZ;rw[h1];simp only[bu,dO,N8,h3,gb h4];show aM (.pointer (some ⟨b,Nat.add (o+(i*sz+j)) f.offset,none⟩)) s=_;rw[h5];show aM _ _=some (dh _ _ _ _,_);unfold dh aM
 congr 5
 show o+(i*sz+j)+off=_;omega
end
class mv (E:iq)(t:TypeId)(pl:outParam (List (Nat×Nat)))(z:outParam (aY)):Prop where
 h:∃fs v,gX E t=some (.struct ⟨fs⟩)/\places E fs=some pl/\zero E t=some v/\bZ v=z
class rK (E:iq)(t:TypeId)(e sz:outParam Nat)(z:outParam (aY)):Prop where
 h:gX E t=some (.slice e)/\∃i v,E.ty.get e=some i/\i.size=sz/\i.zero=some v/\bZ v=z/\z.length=sz/\1<=sz/\i.bytes<=1000000
inductive Kx (x:It):dy->dy->Prop
 |here {L:dy}:Kx x (x::L) L
 |there {y:It} {L R:dy} (h:Kx x L R):Kx x (y::L) (y::R)
theorem Kx.cT {x:It}{L R:dy}(h:Kx x L R):L.Perm (x::R):=by
 induction h with
 |here=>exact .refl _
 |there h ih=>exact(ih.cons _).trans (.swap _ _ _)
section
variable {a:aS}
def iY (L:dy)(b:Nat):Prop:=∀y∈L,∀i∈y.cr,i<b
theorem Inv.old (h:Inv Γ s L):iY L s.next:=λy hy i hi=>(h.lt y hy i hi).1
theorem y4 {s:St}{o:gv}{R W:Fp}(hR:R s.next)(hW:W s.next):kX s (s.new o) R W:=⟨ay,λi hi=>by
  rw[yN,gO] at hi;rw[lY];rcases hi with hi|rfl
  .exact .inl hi
  .exact .inr ⟨hR,af⟩,λi hi=>by
  rw[xw,gO] at hi;rw[lY];rcases hi with hi|rfl
  .exact .inl hi
  .exact .inr ⟨hW,af⟩⟩
theorem jX {s:St}{b:Nat}{o:Option gv}{R W:Fp}(hb:b<s.next)(hR:R b)(hW:W b):kX s (s.put b o) R W:=⟨ay,λi hi=>by
  rw[q8,gO] at hi;rw[dY];rcases hi with hi|rfl
  .exact .inl hi
  .exact .inr ⟨hR,hb⟩,λi hi=>by
  rw[td,gO] at hi;rw[dY];rcases hi with hi|rfl
  .exact .inl hi
  .exact .inr ⟨hW,hb⟩⟩
theorem kX.trans {s s1 s2:St}{R W:Fp}(h:kX s s1 R W)(k:kX s1 s2 R W):kX s s2 R W:=⟨gu h.nx k.nx,λi hi=>by
  rcases k.cV i hi with h1|h1
  .rcases h.cV i h1 with h2|h2
   .exact .inl h2
   .exact .inr ⟨h2.1,xi h2.2 k.nx⟩
  .exact .inr h1,λi hi=>by
  rcases k.wr i hi with h1|h1
  .rcases h.wr i h1 with h2|h2
   .exact .inl h2
   .exact .inr ⟨h2.1,xi h2.2 k.nx⟩
  .exact .inr h1⟩
theorem WO.news {o:Op}{ob:Nat->gv}{mk:Nat->Value}{it:Nat->It}(h:∀tm s (call:ff),mU l tm->Inv Γ s L->GI E call (aO tm) s o=some (mk s.next,s.new (ob s.next)))
  (gd:∀s b,s.heap.get b=some (ob b)->(it b).ok s)(hb:∀b,(it b).cr=[b])(k:∀b,iY L b->K (mk b) (it b::L) b (b+1) (λi=>i=b) (λi=>i=b)):WO E X Γ l o L K:=λtm s h1 h2=>
 fy.pure (λcall=>h tm s call h1 h2) ⟨it s.next::L,(λi=>i=s.next),(λi=>i=s.next),h2.new (gd _ _ ay) (hb _),y4 rfl rfl,by rw[lY];exact k _ h2.old⟩
theorem WO.akO {cs:aY}(hx:Ev l x (.agg ⟨cs⟩))(k:∀b,iY L b->K (.pointer (some ⟨b,0,none⟩)) (.box b cs t false::L) b (b+1) (λi=>i=b) (λi=>i=b)):WO E X Γ l (.box t x) L K:=
 WO.news (mk:=λb=>.pointer (some ⟨b,0,none⟩)) (ob:=λ_=>.cells cs t false) (it:=λb=>.box b cs t false) (λtm s call hl _=>by
   show Oo s (bZ (aO tm x)) t=_;rw[hx.eval hl];rfl) (λs b h=>h) (λb=>rfl) k
theorem WO.akP (hx:Ev l x v)(hv:bZ v=[v])(k:∀b,iY L b->K (.pointer (some ⟨b,0,none⟩)) (.box b [v] t false::L) b (b+1) (λi=>i=b) (λi=>i=b)):WO E X Γ l (.box t x) L K:=
 WO.news (mk:=λb=>.pointer (some ⟨b,0,none⟩)) (ob:=λ_=>.cells [v] t false) (it:=λb=>.box b [v] t false) (λtm s call hl _=>by
   show Oo s (bZ (aO tm x)) t=_;rw[hx.eval hl,hv];rfl) (λs b h=>h) (λb=>rfl) k
theorem WO.alloc {z:aY}[ht:rj E t z](k:∀b,iY L b->K (.pointer (some ⟨b,0,none⟩)) (.box b z t false::L) b (b+1) (λi=>i=b) (λi=>i=b)):WO E X Γ l (.alloc t) L K:=
 WO.news (mk:=λb=>.pointer (some ⟨b,0,none⟩)) (ob:=λ_=>.cells z t false) (it:=λb=>.box b z t false) (λtm s call hl _=>by
   obtain⟨v,h1,h2⟩:=ht.h;show IK E s t=_;unfold IK;rw[h1];show Oo s (bZ v) t=_;rw[h2];rfl) (λs b h=>h) (λb=>rfl) k
inductive WH (l:Kn):List (Nat×Operand)->List (Nat×Value)->Prop
 |nil:WH l [] []
 |cons {i:Nat} {x:Operand} {v:Value} {ps:List (Nat×Operand)} {vs:List (Nat×Value)} (h:Ev l x v) (k:WH l ps vs):WH l ((i,x)::ps) ((i,v)::vs)
theorem WH.eval {ps:List (Nat×Operand)}{vs:List (Nat×Value)}{tm:Tm}(h:WH l ps vs)(hl:mU l tm):sY (aO tm) ps=vs:=by
 induction h with
 |nil=>rfl
 |cons h _ ih=>
  show(_,aO tm _)::sY (aO tm) _=_;rw[ih,h.eval hl]
theorem WO.build {ps:List (Nat×Operand)}{vs:List (Nat×Value)}{pl:List (Nat×Nat)}{z:aY}[ht:mv E t pl z](hp:WH l ps vs)(hf:sa (jc pl) vs z=some cs)(k:∀n,K (.agg ⟨cs⟩) L n n Z Z):WO E X Γ l (.build t ⟨ps⟩) L K:=WO.val (λtm s call hl=>by
 obtain⟨fs,v,h1,h2,h3,h4⟩:=ht.h;show IL E (aO tm) s t ps=_;unfold IL;rw[h3,h1];simp only[bu,h2,hp.eval hl,h4,hf];rfl) k
theorem WO.buildSlice {m:Nat}{ps:List (Nat×Operand)}{vs:List (Nat×Value)}{e:Nat}{z:aY}[ht:rK E t e sz z](hm:Nat.ble (Nat.mul m sz) 16777216=true)(hp:WH l ps vs)(hf:sa (oL sz) vs (lW z m)=some cs)(hc:cs.length=m*sz)
  (k:∀b,iY L b->K (.slice (some ⟨b,0,none⟩) m m) (.aQ (.slice (some ⟨b,0,none⟩) m m) e sz cs::L) b (b+1) (λi=>i=b) (λi=>i=b)):WO E X Γ l (.buildSlice t m ⟨ps⟩) L K:=
 WO.news (mk:=λb=>.slice (some ⟨b,0,none⟩) m m) (ob:=λ_=>.cells cs e false) (it:=λb=>.aQ (.slice (some ⟨b,0,none⟩) m m) e sz cs) (λtm s call hl _=>by
   obtain⟨h1,i,v,h2,h3,h4,h5,h6,h7,h8⟩:=ht.h;show uR E (aO tm) s t m ps=_;(have hs:size E e=some sz:=by unfold size;rw[h2];simp[h3]);have hz:zero E e=some v:=by unfold zero;rw[h2];simp[h4]
   show ob (some t) (λt=>ob (gX E t) λd=>match d with
    |.slice e=>ob (size E e) λsz=>ob (zero E e) λz=>dN (Nat.beq (dX (bZ z)) sz&&Nat.ble (nat_lit 1) sz&&Nat.ble (Nat.mul m sz) (nat_lit 16777216))<| ob (sa (oL sz) (sY (aO tm) ps) (lW (bZ z) m)) λcs=>aM (.slice (some ⟨s.next,nat_lit 0,none⟩) m m) (s.new (.cells cs e false))
    |_=>none)=_
   simp only[bu,h1,hs,hz,h5,hp.eval hl,hf,hm,c8,h6,gb h7,ja,KJ];rfl) (λs b h=>mu.cq h hc (.inl ⟨rfl,by
    have h1:=mR hm;obtain⟨_,i,v,_,_,_,_,_,h7,_⟩:=ht.h;have h2:m<=m*sz:=Vr _ h7;have h3:m<=16777216:=gu h2 h1;show m<9223372036854775808;omega⟩)) (λb=>rfl) k
theorem DE {α:Type}[aq α sz](x:α)(n:Nat):lW (aq.cells (sz:=sz) x) n=ai (sz:=sz) (List.replicate n x):=by
 induction n with
 |zero=>rfl
 |succ n ih=>
  rw[List.replicate_succ,dE,<-ih];rfl
theorem WO.makeSlice {α:Type}[aq α sz]{d:α}{m e:Nat}{k1 k2:IntKind}{z:aY}[ht:rK E t e sz z](hd:aq.cells (sz:=sz) d=z)(hx:Ev l x (.int k1 (m:Int)))(hy:Ev l y (.int k2 (m:Int)))(hm:m<=1000000)
  (k:∀b,iY L b->K (.slice (some ⟨b,0,none⟩) m m) (.aQ (.slice (some ⟨b,0,none⟩) m m) e sz (ai (sz:=sz) (List.replicate m d))::L) b (b+1) (λi=>i=b) (λi=>i=b)):WO E X Γ l (.makeSlice t x y) L K:=
 WO.news (mk:=λb=>.slice (some ⟨b,0,none⟩) m m) (ob:=λ_=>.cells (ai (sz:=sz) (List.replicate m d)) e false) (it:=λb=>.aQ (.slice (some ⟨b,0,none⟩) m m) e sz (ai (sz:=sz) (List.replicate m d))) (λtm s call hl _=>by
   obtain⟨h1,i,v,h2,h3,h4,h5,h6,h7,h8⟩:=ht.h;show xp E s t (aO tm x) (aO tm y)=_;rw[hx.eval hl,hy.eval hl];show ob (some t) (λt=>ob (gX E t) λd=>match d with
    |.slice e=>ob (E.ty.get e) λi=>ob i.zero λz=>dN (Nat.ble m m&&Nat.ble m (nat_lit 1000000)&&Nat.ble i.bytes (nat_lit 1000000)&&Nat.beq (dX (bZ z)) i.size&&Nat.ble (nat_lit 1) i.size)<| aM (.slice (some ⟨s.next,nat_lit 0,none⟩) m m) (s.new (.cells (lW (bZ z) m) e false))
    |_=>none)=_
   simp only[bu,h1,h2,h4,h5,h3,c8,h6,gb h7,gb hm,gb h8,gb (cC m),ja,KJ];rw[<-hd,DE];rfl) (λs b h=>mu.cq h (aR _|>.trans ay) (.inl ⟨rfl,by show m<9223372036854775808;omega⟩)) (λb=>rfl) k
theorem WO.store {b off m:Nat}{cs cs':aY}{e:TypeId}{w:Bool}[ht:fZ E t m](hx:Ev l x (.pointer (some ⟨b,off,none⟩)))(hy:Ev l y v)(hc:Nat.beq (dX (bZ v)) m=true)(hf:ku (bZ v)=true)
  (hu:y3 (.box b cs e w) (.box b cs' e w) L L')(hp:eF off (bZ v) cs=some cs')(k:∀n,K (.tuple ⟨[]⟩) L' n n (λi=>i=b) (λi=>i=b)):WO E X Γ l (.store t x y) L K:=λtm s h1 h2=>by
 obtain⟨R,p1,p2⟩:=hu.cT;have hm:It.box b cs e w∈L:=p1.mem_iff.2 ay;have hg:s.heap.get b=some (.cells cs e w):=h2.it _ hm;have dz:=(h2.may hm (b:=b) (by simp[It.cr]));have hr:=h2.aU dz;refine fy.pure (v:=.tuple ⟨[]⟩) (s':=(s.aU b).put b (some (.cells cs' e w))) (λcall=>?_) ⟨L',(λi=>i=b),(λi=>i=b),hr.put hu rfl rfl (by show T.get (St.heap _) b=_;simp),(kX.trans (cH dz.1 rfl) (jX (by simpa using dz.1) rfl rfl)),by rw[dY,bQ];exact k _⟩
 .show(Fv (aO tm x) λb o=>nc E s t b o (aO tm y))=_;rw[hx.eval h1,hy.eval h1];show nc E s t b off v=_;unfold nc St.row St.look;rw[hg];simp only[bu,ht.h,hc,hf,hp];rfl
theorem BA (h:flat v=true):bZ v=[v]:=by cases v<;>first|rfl|cases h
theorem AA (v:Value):∀(i:Nat)(cs:aY),i<cs.length->eF i [v] cs=some (cs.set i v)
 |_,[],h=>by simp at h
 |0,z::zs,_=>rfl
 |i+1,z::zs,h=>by
  show ob (eF i [v] zs) (λr=>some (z::r))=_;rw[AA v i zs (by simpa using h)];rfl
theorem WO.aem {α:Type}{enc:aq α 1}{p:List α}{q:α}{i c e m:Nat}[ht:fZ E t 1](hx:Ev l x (dh a i 1 0))(hy:Ev l y v)(hv:aq.cells q=[v])(hi:i<p.length)
  (hu:y3 (.aQ (.slice a n c) e 1 (ai p)) (.aQ (.slice a n c) e 1 (ai (p.set i q))) L L')(k:∀n,K (.tuple ⟨[]⟩) L' n n (λi=>i∈aj a) (λi=>i∈aj a)):WO E X Γ l (.store t x y) L K:=λtm s h1 h2=>by
 obtain⟨R,p1,p2⟩:=hu.cT;have hm:It.aQ (.slice a n c) e 1 (ai p)∈L:=p1.mem_iff.2 ay;have AB:flat v=true:=aq.fl q v (by rw[hv];simp);have oN:∀(p:List α)(i:Nat),(ai p).set i v=ai (p.set i q):=by
  intro p;induction p with
  |nil=>intro i;rfl
  |cons x p ih=>
   intro i;have h1:∃u,aq.cells x=[u]:=List.length_eq_one_iff.1 (aq.len x);obtain⟨u,hu⟩:=h1;cases i with
   |zero=>rw[List.set_cons_zero,dE,dE,hu,hv];rfl
   |succ i=>rw[List.set_cons_succ,dE,dE,hu,<-ih];rfl
 rcases h2.it _ hm with⟨h3,h4⟩|⟨b,n',k',w,aE,h3,h4,h5,h6⟩
 .cases h3
  have:=aR p;rw[h4] at this;simp at this;omega
 .cases h3
  have dz:=(h2.may hm (b:=b) (by simp[It.cr,pj]));have hr:=h2.aU dz;have dD:eF (0+(i*1+0)) [v] (ai p)=some (ai (p.set i q)):=by
   rw[<-oN];(have hil:i<(ai p).length:=by rw[aR];omega);simp only[mS,xj,uz];exact AA v _ _ hil
  refine fy.pure (v:=.tuple ⟨[]⟩) (s':=(s.aU b).put b (some (.cells (ai (p.set i q)++aE) e w))) (λcall=>?_) ⟨L',(λi=>i∈aj (some ⟨b,0,none⟩)),(λi=>i∈aj (some ⟨b,0,none⟩)),hr.put hu rfl rfl ?_,(kX.trans (cH dz.1 (by simp[aj])) (jX (by simpa using dz.1) (by simp[aj]) (by simp[aj]))),by rw[dY,bQ];exact k _⟩
  .show(Fv (aO tm x) λb o=>nc E s t b o (aO tm y))=_;rw[hx.eval h1,hy.eval h1];show nc E s t b (0+(i*1+0)) v=_;unfold nc St.row St.look;rw[h4];simp only[bu,ht.h,BA AB,su aE _ _ _ _ dD];have:ku [v]=true:=by show bo (flat v) true false=true;rw[AB];rfl
   rw[this];rfl
  .exact .inr ⟨b,_,_,w,aE,rfl,by show T.get (St.heap _) b=_;simp,by rw[aR] at h5⊢;simpa using h5,DD h6 (by rw[aR,aR,gy])⟩
end
def nq (s:St):aS->St
 |some ⟨b,_,none⟩=>s.aU b
 |_=>s
section
variable {a:aS}
abbrev mV (A:List Nat)(B:dy)(m m':Nat):Fp:=λi=>i∈A\/i∈B.flatMap It.cr\/(m<=i/\i<m')
abbrev mW (B:dy)(m m':Nat):Fp:=λi=>i∈B.flatMap It.cr\/(m<=i/\i<m')
abbrev WC (E:iq)(X:fY)(Γ:qN)(l:Kn)(f:FuncId)(xs:List Operand)(ts:Array TypeId)(L:dy)(K:KO):Prop:=WO E X Γ l (.call ⟨.value (.func f),⟨xs⟩,ts⟩) L K
theorem sw {cs:aY}{o m:Nat}{c:aY}(h:(c.drop o).take m=cs)(hl:cs.length=m):ie m (gg o c)=some cs:=by
 rw[qi,yL];have:m<=(c.drop o).length:=by
  rw[<-h,cO] at hl;omega
 rw[if_pos this,h]
theorem xH (vs:aY):∀(n:Nat)(l:aY),n+vs.length<=l.length->eF n vs l=some (l.take n++vs++l.drop (n+vs.length))
 |n,l,h=>by
  cases hp:eF n vs l with
  |some r=>rw[(n4 n vs hp).2]
  |none=>
   exfalso
   revert hp h
   induction n generalizing l with
   |zero=>
    intro h hp;induction vs generalizing l with
    |nil=>cases hp
    |cons v vs ih=>
     cases l with
     |nil=>simp at h
     |cons x l=>
      refine ih l (by simpa using h) ?_;cases hq:eF 0 vs l with
      |none=>rfl
      |some r=>
       (have:eF 0 (v::vs) (x::l)=ob (eF 0 vs l) λr=>some (v::r):=rfl);rw[this,hq] at hp;cases hp
   |succ n ih=>
    intro h hp;cases l with
    |nil=>simp at h
    |cons x l=>
     refine ih l (by simp at h;omega) ?_;cases hq:eF n vs l with
     |none=>rfl
     |some r=>
      (have:eF (n+1) vs (x::l)=ob (eF n vs l) λr=>some (x::r):=rfl);rw[this,hq] at hp;cases hp
theorem WI {β:Type}{c:Nat}(h:bM s a n sz cs)(k:Nat->aY->St->Option β):KT s sz (.slice a n c) k=k n cs (nq s a):=by
 obtain⟨h1,h2⟩:=h;rcases h2 with⟨rfl,rfl|⟨b,o,q,rfl,h3⟩⟩|⟨b,o,c',e,w,rfl,h3,h4,h5⟩
 .have:cs=[]:=mj (by simpa using h1);subst this;rfl
 .have:cs=[]:=mj (by simpa using h1);subst this;rfl
 .show s.row b (λc _ _ s=>ob (ie (Nat.mul n sz) (gg o c)) λcs=>k n cs s)=_;unfold St.row St.look;rw[h4];simp only[bu];have:=sw (m:=n*sz) h5 h1;rw[show Nat.mul n sz=n*sz from rfl,this];rfl
theorem ep {β:Type}(k:Option β):dN true k=k:=rfl
theorem l6 (elem:TypeId)(sz:Nat)(b o len cap n:Nat)(new:aY)(s:St):qh elem sz (some ⟨b,o,none⟩) len cap n new s=s.row b λc e w s=>bo (Nat.ble dS cap)
  (dN (w&&Nat.beq e elem&&Nat.beq cap dS&&Nat.beq o (nat_lit 0))<| bo (Nat.beq (dX c) (Nat.mul len sz)) (bo (Nat.beq n (nat_lit 0)) (aM (.slice (some ⟨b,o,none⟩) len cap) s)<|
    (λs:St=>aM (bJ s (Nat.add len n)) (s.new (.cells (c++new) elem true))) (s.put b none))<|
    ob (ie (Nat.mul len sz) c) λold=>(λs:St=>aM (bJ s (Nat.add len n)) (s.new (.cells (old++new) elem true))) (s.put b none))
  (bo (Nat.ble (Nat.add len n) cap)
    (bo (Nat.beq n (nat_lit 0)) (aM (.slice (some ⟨b,o,none⟩) len cap) s)<|
      ob (eF (Nat.add o (Nat.mul len sz)) new c) λcs=>aM (.slice (some ⟨b,o,none⟩) (Nat.add len n) cap) (s.put b (some (.cells cs e w))))
    (ob (ie (Nat.mul len sz) (gg o c)) λold=>aM (bJ s (Nat.add len n)) (s.new (.cells (old++new) elem true)))):=rfl
theorem WJ {m:Nat}(h:0<m):Nat.beq m 0=false:=by
 cases m with
 |zero=>omega
 |succ m=>rfl
theorem OV:(nq s a).heap=s.heap:=by unfold nq;split<;>simp
theorem DF:(nq s a).next=s.next:=by unfold nq;split<;>simp
theorem Inv.nq (h:Inv Γ s L)(hm:∀b∈aj a,Ca Γ s b):Inv Γ (nq s a) L:=by
 unfold Go.Lg.nq;split
 .exact h.aU (hm _ (by simp[aj]))
 .exact h
theorem DG {R W:Fp}(hm:∀b∈aj a,b<s.next)(hR:∀b∈aj a,R b):kX s (nq s a) R W:=by
 unfold Go.Lg.nq;split
 .exact cH (hm _ (by simp[aj])) (hR _ (by simp[aj]))
 .exact kX.id
theorem WO.Q2 {e m c N:Nat}{a2:aS}{yv:Value}{xd:TypeDesc}{new QR:aY}{z:aY}{t2:TypeId}[ht:rK E t e sz z](ht2:gX E t2=some xd)(Fy:isInt xd=false)(hx:Ev l x (.slice a n c))(hy:Ev l y yv)(hr:Kx (.aQ (.slice a N c) e sz QR) L R)(hf:∀s,mu s (.slice a N c) e sz QR->mu s (.slice a n c) e sz cs)(hs:∀s,Inv Γ s L->(new.length=m*sz/\∀b∈aj a2,Ca Γ s b)/\∀(k:Nat->aY->St->Option (Value×St)),KT s sz yv k=k m new (nq s a2))
  (AB:∀v∈new,flat v=true)(hn:n+m<=1000000)
  (k:∀b b' a' c',iY L b->b<=b'->(∀i∈aj a',i∈aj a\/i=b)->(c'=c\/c'=dS)->K (.slice a' (n+m) c') (.aQ (.slice a' (n+m) c') e sz (cs++new)::R) b b' (λi=>i∈aj a2\/i∈aj a\/i=b) (λi=>i∈aj a\/i=b)):WO E X Γ l (.call ⟨.builtin .append,⟨[x,y]⟩,⟨[t,t2]⟩⟩) L K:=λtm s h1 h2=>by
 obtain⟨hu1,ii,z1,hi,tp,hi3,N9,hi5,hi6,hi7⟩:=ht.h;have VY:=ht2;obtain⟨⟨mq,iF⟩,VS⟩:=hs s h2;have hinv:Inv Γ (nq s a2) L:=h2.nq iF;have DH:=(hinv.cT hr.cT).aek (x':=.aQ (.slice a n c) e sz cs) (hf _) (by cases a<;>rfl);have WK:kX s (nq s a2) (λi=>i∈aj a2\/i∈aj a\/i=s.next) (λi=>i∈aj a\/i=s.next):=DG (λb hb=>(iF b hb).1) (λb hb=>.inl hb);have hh1:(nq s a2).heap=s.heap:=OV;have hh2:(nq s a2).next=s.next:=DF
 generalize u6:nq s a2=s1 at hinv DH WK hh1 hh2;have og:∀(r:Value×St),qh e sz a n c m new s1=some r->∀call:ff,GI E call (aO tm) s (.call ⟨.builtin .append,⟨[x,y]⟩,⟨[t,t2]⟩⟩)=some r:=by
  intro r hr call;show Cm E s [t,t2] (aO tm x) (aO tm y)=_;rw[hx.eval h1,hy.eval h1];unfold Cm;show ob (some t) (λt=>ob (gX E t) λd=>match d with
   |.slice elem=>ob (some t2) λxt=>ob (gX E xt) λxd=>dN (!isInt xd)<| ob (E.ty.get elem) λi=>ob i.zero λz=>dN (Nat.ble (nat_lit 1) i.size&&Nat.ble i.bytes (nat_lit 1000000)&&Nat.beq (dX (bZ z)) i.size)<| KT s i.size yv λn' new s=>dN (Nat.beq (dX new) (Nat.mul n' i.size))<| dN (ku new)<| (dN (Nat.ble (Nat.add n n') (nat_lit 1000000))<| qh elem i.size a n c n' new s)
   |_=>none)=_
  have hff:ku new=true:=(n9 new).2 AB;simp only[bu,hu1,VY,Fy,hi,tp,hi3,N9,c8,hi5];show dN true _=_;simp only[gb hi6,gb hi7,ja,KK];rw[ep,ep,VS];simp only[hff];rw[show Nat.mul m sz=m*sz from rfl,mq,ja];rw[gb (show Nat.add n m<=1000000 from hn),u6];exact hr
 have hbb:∀{b:Nat}{o:Nat}{L:dy}{s:St},Inv Γ s (.aQ (.slice (some ⟨b,o,none⟩) n c) e sz cs::L)->b<s.next:=λh=>(h.lt _ ga _ (by simp[It.cr,pj])).1
 rcases DH.it _ ga with⟨h3,h4⟩|⟨b,n',k',w,aE,h3,h4,h5,h6⟩
 .cases h3;subst h4
  rcases xh m with B4|B4
  .subst B4;have vJ:new=[]:=mj (by simpa using mq);subst vJ;refine fy.pure (og (.slice none 0 0,s1) rfl) ⟨_,_,_,?_,WK,k s.next _ none 0 h2.old af (λi hi=>by simp[aj] at hi) (.inl rfl)⟩;exact DH
  .refine fy.pure (og (bJ s1 m,s1.new (.cells new e true)) (by
    show dN true (bo (Nat.beq m 0) _ _)=_;rw[show Nat.beq m 0=false from WJ B4];rfl)) ⟨.aQ (.slice (some ⟨s1.next,0,none⟩) (0+m) dS) e sz ([]++new)::R,_,_,?_,WK.trans (y4 (.inr (.inr hh2)) (.inr hh2)),?_⟩
   .exact DH.iM.new (mu.cq (w:=true) ay (by simpa using mq) (.inr ⟨rfl,rfl⟩)) rfl
   .have:=k s.next (s1.new (.cells new e true)).next (some ⟨s1.next,0,none⟩) dS h2.old (by rw[lY];omega) (λi hi=>by right;simpa[aj,hh2] using hi) (.inr rfl)
    rw[show bJ s1 m= .slice (some ⟨s1.next,0,none⟩) (0+m) dS from by simp[bJ]];exact this
 .cases h3
  have aen:=hbb DH;have Lt:∀{β:Type}(k:aY->TypeId->Bool->St->Option β),s1.row b k=k (cs++aE) e w (s1.aU b):=λk=>by unfold St.row St.look;rw[h4];rfl
  have Q3:Inv Γ (s1.aU b) (.aQ (.slice (some ⟨b,0,none⟩) n c) e sz cs::R):=DH.aU (DH.may ga (by simp[It.cr,pj]));have aaM:kX s (s1.aU b) (λi=>i∈aj a2\/i∈aj (some ⟨b,0,none⟩)\/i=s.next) (λi=>i∈aj (some ⟨b,0,none⟩)\/i=s.next):=WK.trans (cH aen (.inr (.inl (by simp[aj]))));have htk:ie (n*sz) (cs++aE)=some cs:=sw (cs:=cs) (o:=0) (m:=n*sz) (c:=cs++aE) (by rw[IG,<-h5,List.take_left]) h5;have WL:m=0->new=[]:=λe=>mj (by rw[mq,e,KF])
  have BB:m=0->qh e sz (some ⟨b,0,none⟩) n c m new s1=some (.slice (some ⟨b,0,none⟩) n c,s1.aU b)->fy E X (aO tm) s (.call ⟨.builtin .append,⟨[x,y]⟩,⟨[t,t2]⟩⟩) λv s'=>∃L' R Wr,Inv Γ s' L'/\kX s s' R Wr/\K v L' s.next s'.next R Wr:=λB4 hr=>by
   have vJ:=WL B4;subst B4 vJ;refine fy.pure (og _ hr) ⟨_,_,_,?_,aaM,k s.next _ (some ⟨b,0,none⟩) c h2.old (by rw[bQ];omega) (λi hi=>.inl hi) (.inl rfl)⟩;rw[gJ];exact Q3
  rcases h6 with⟨h6,h7,h8⟩|⟨rfl,rfl⟩
  .have hcu:Nat.ble dS c=false:=by rw[<-na,pe];omega
   by_cases SI:n+m<=c
   .have hfb:Nat.ble (Nat.add n m) c=true:=gb SI;rcases xh m with B4|B4
    .refine BB B4 ?_;rw[l6,Lt,hcu];show bo (Nat.ble (Nat.add n m) c) (bo (Nat.beq m 0) _ _) _=_;rw[hfb,B4];rfl
    .have hle:n*sz+m*sz<=c*sz:=by rw[<-lU];exact wE _ SI
     have dD:eF (0+n*sz) new (cs++aE)=some (cs++new++aE.drop new.length):=by
      rw[mS,xH _ _ _ (by rw[mq,h8];exact hle),<-h5,List.take_left,List.drop_append,Ac af];simp
     refine fy.pure (og (.slice (some ⟨b,0,none⟩) (n+m) c,(s1.aU b).put b (some (.cells (cs++new++aE.drop new.length) e w))) ?_) ⟨_,_,_,Q3.put (x':=.aQ (.slice (some ⟨b,0,none⟩) (n+m) c) e sz (cs++new)) y3.here rfl rfl (.inr ⟨b,_,_,w,aE.drop new.length,rfl,by show T.get (St.heap _) b=_;simp,by rw[bn,h5,mq,lU],.inl ⟨SI,h7,?_⟩⟩),aaM.trans (jX (by simpa using aen) (.inr (.inl (by simp[aj]))) (.inl (by simp[aj]))),k s.next _ (some ⟨b,0,none⟩) c h2.old (by simp;omega) (λi hi=>.inl hi) (.inl rfl)⟩
     .rw[l6,Lt,hcu];show bo (Nat.ble (Nat.add n m) c) (bo (Nat.beq m 0) _ (ob (eF (0+n*sz) new (cs++aE)) _)) _=_;rw[hfb,WJ B4,dD];rfl
     .rw[bn] at h8;rw[bn,bn,eP];omega
   .have hfb:Nat.ble (Nat.add n m) c=false:=by rw[<-na,pe];exact SI
    refine fy.pure (og (.slice (some ⟨s1.next,0,none⟩) (n+m) dS,(s1.aU b).new (.cells (cs++new) e true)) ?_) ⟨_,_,_,?_,aaM.trans (y4 (.inr (.inr (by simpa using hh2))) (.inr (by simpa using hh2))),k s.next _ (some ⟨s1.next,0,none⟩) dS h2.old (by simp;omega) (λi hi=>by right;simpa[aj,hh2] using hi) (.inr rfl)⟩
    .rw[l6,Lt,hcu];show bo (Nat.ble (Nat.add n m) c) _ (ob (ie (n*sz) (cs++aE)) _)=_;rw[hfb,htk];show aM (bJ (s1.aU b) (Nat.add n m)) _=_;unfold bJ;rw[bQ];rfl
    .have:=Q3.iM.new (o:=.cells (cs++new) e true) (x:=.aQ (.slice (some ⟨s1.next,0,none⟩) (n+m) dS) e sz (cs++new)) (mu.cq (w:=true) ay (by rw[bn,h5,mq,lU]) (.inr ⟨rfl,rfl⟩)) (by simp[It.cr,pj]);exact this
  .by_cases hs:aE=[]/\m=0
   .refine BB hs.2 ?_;rw[l6,Lt,hs.1,hs.2,gJ];show dN (true&&Nat.beq e e&&Nat.beq dS dS&&Nat.beq 0 0) (bo (Nat.beq (dX cs) (Nat.mul n sz)) _ _)=_;rw[c8,h5,show Nat.mul n sz=n*sz from rfl];simp only[ja];rfl
   .refine fy.pure (og (.slice (some ⟨s1.next,0,none⟩) (n+m) dS,((s1.aU b).put b none).new (.cells (cs++new) e true)) ?_) ⟨_,_,_,?_,(aaM.trans (jX (by simpa using aen) (.inr (.inl (by simp[aj]))) (.inl (by simp[aj])))).trans (y4 (.inr (.inr (by simpa using hh2))) (.inr (by simpa using hh2))),k s.next _ (some ⟨s1.next,0,none⟩) dS h2.old (by simp;omega) (λi hi=>by right;simpa[aj,hh2] using hi) (.inr rfl)⟩
    .rw[l6,Lt];show dN (true&&Nat.beq e e&&Nat.beq dS dS&&Nat.beq 0 0) (bo (Nat.beq (dX (cs++aE)) (Nat.mul n sz)) _ (ob (ie (n*sz) (cs++aE)) _))=_;rw[c8,bn,h5,show Nat.mul n sz=n*sz from rfl,htk];simp only[ja];by_cases hr:aE=[]
     .subst hr;rw[show Nat.beq (n*sz+([]:aY).length) (n*sz)=true from ja _,gJ];show bo (Nat.beq m 0) _ _=_;rw[WJ (show 0<m from Nat.pos_of_ne_zero λh=>hs ⟨rfl,h⟩)];show aM (bJ ((s1.aU b).put b none) (Nat.add n m)) _=_;unfold bJ;rw[dY,bQ];rfl
     .rw[show Nat.beq (n*sz+aE.length) (n*sz)=false from by rw[<-na,zZ];have:=nO.2 hr;omega];show aM (bJ ((s1.aU b).put b none) (Nat.add n m)) _=_;unfold bJ;rw[dY,bQ];rfl
    .have h7:=Q3.kill (o:=none) (b:=b) (by simp[It.cr,pj]);have:=h7.new (o:=.cells (cs++new) e true) (x:=.aQ (.slice (some ⟨s1.next,0,none⟩) (n+m) dS) e sz (cs++new)) (mu.cq (w:=true) ay (by rw[bn,h5,mq,lU]) (.inr ⟨rfl,rfl⟩)) (by simp[It.cr,pj]);exact this
theorem WO.aaN {e m c c2 N:Nat}{a2:aS}{new QR:aY}{z:aY}{t2:TypeId}[ht:rK E t e sz z][ht2:rK E t2 e sz z](hx:Ev l x (.slice a n c))(hy:Ev l y (.slice a2 m c2))(hr:Kx (.aQ (.slice a N c) e sz QR) L R)(hf:∀s,mu s (.slice a N c) e sz QR->mu s (.slice a n c) e sz cs)(hs:kr Γ L a2 m sz new)
  (AB:∀v∈new,flat v=true)(hn:n+m<=1000000)
  (k:∀b b' a' c',iY L b->b<=b'->(∀i∈aj a',i∈aj a\/i=b)->K (.slice a' (n+m) c') (.aQ (.slice a' (n+m) c') e sz (cs++new)::R) b b' (λi=>i∈aj a2\/i∈aj a\/i=b) (λi=>i∈aj a\/i=b)):WO E X Γ l (.call ⟨.builtin .append,⟨[x,y]⟩,⟨[t,t2]⟩⟩) L K:=by
 obtain⟨VY,_⟩:=ht2.h;exact WO.Q2 (a2:=a2) VY rfl hx hy hr hf (λs hi=>⟨⟨(hs.row hi).1.1,(hs.row hi).2⟩,λk=>WI (hs.row hi).1 k⟩) AB hn λb b' a' c' h1 h2 h3 _=>k b b' a' c' h1 h2 h3
theorem WO.append {e m c c2:Nat}{a2:aS}{new:aY}{z:aY}{t2:TypeId}[ht:rK E t e sz z][ht2:rK E t2 e sz z](hx:Ev l x (.slice a n c))(hy:Ev l y (.slice a2 m c2))(hr:Kx (.aQ (.slice a n c) e sz cs) L R)(hs:kr Γ L a2 m sz new)
  (AB:∀v∈new,flat v=true)(hn:n+m<=1000000)
  (k:∀b b' a' c',iY L b->b<=b'->(∀i∈aj a',i∈aj a\/i=b)->K (.slice a' (n+m) c') (.aQ (.slice a' (n+m) c') e sz (cs++new)::R) b b' (λi=>i∈aj a2\/i∈aj a\/i=b) (λi=>i∈aj a\/i=b)):WO E X Γ l (.call ⟨.builtin .append,⟨[x,y]⟩,⟨[t,t2]⟩⟩) L K:=WO.aaN hx hy hr (λ_ h=>h) hs AB hn k
def fA (E:iq)(X:fY)(f:FuncId)(args:aY)(s:St)(Lm:dy)(A:List Nat)(Q:Value->dy->Prop):Prop:=
 (∀x∈Lm,x.ok s)->(∀x∈Lm,∀b∈x.cr,b<s.next)->(Lm.flatMap It.cr).Nodup->nT E X f args s λv s'=>∃L',Inv ⟨s,Lm.flatMap It.cr,A⟩ s' L'/\Q v L'
theorem fA.mono {f:FuncId}{args:aY}{Lm:dy}{A:List Nat}{Q Q':Value->dy->Prop}(h:fA E X f args s Lm A Q)(k:∀v L,Q v L->Q' v L):fA E X f args s Lm A Q':=λh1 h2 h3=>(h h1 h2 h3).mono λv s' ⟨L',h4,h5⟩=>⟨L',h4,k _ _ h5⟩
inductive jY (l:Kn):List Operand->aY->Prop
 |nil:jY l [] []
 |cons {x:Operand} {v:Value} {xs:List Operand} {vs:aY} (h:Ev l x v) (k:jY l xs vs):jY l (x::xs) (v::vs)
theorem jY.eval {xs:List Operand}{vs:aY}{tm:Tm}(h:jY l xs vs)(hl:mU l tm):xs.map (aO tm)=vs:=by
 induction h with
 |nil=>rfl
 |cons h _ ih=>rw[xg,ih,h.eval hl]
theorem WO.call {f:FuncId}{xs:List Operand}{ts:Array TypeId}{vs:aY}{Lm:dy}{A:List Nat}{Q:Value->dy->Prop}(hx:jY l xs vs)(hp:L.Perm (Lm++R))(hA:∀s,Inv Γ s L->∀b∈A,b<s.next/\(b∈Γ.A\/b∈Γ.M\/Γ.s0.next<=b))(h:∀s,Inv Γ s L->fA E X f vs s Lm A Q)
  (k:∀v L' m m',iY L m->m<=m'->Q v L'->K v (L'++R) m m' (mV A Lm m m') (mW Lm m m')):WC E X Γ l f xs ts L K:=λtm s h1 h2=>by
 have N8:=h2.cT hp;obtain⟨v,s',hr,L',hI,hq⟩:=h s h2 (λx hx=>N8.it x (cA _ hx)) (λx hx b hb=>(N8.lt x (cA _ hx) b hb).1) (by have:=N8.nd;rw[wQ] at this;exact(uP.1 this).1);have hMl:∀b∈Lm.flatMap It.cr,b<s.next/\(Γ.s0.next<=b\/b∈Γ.M):=λb hb=>by
  obtain⟨x,hx,hb⟩:=px.1 hb;exact N8.lt x (cA _ hx) b hb
 have ahg:∀x∈R,∀b∈x.cr,b∉Lm.flatMap It.cr:=λx hx b hb hm=>by
  have:=N8.nd;rw[wQ] at this;exact(uP.1 this).2.2 b hm b (px.2 ⟨x,hx,hb⟩) rfl
 have hle:s.next<=s'.next:=hI.le;have anq:=h2.le;refine fy.call (first:=[]) (cap:=[]) (K:=_) (by rfl) ⟨v,s',?_,?_⟩
 .have:([]:aY)++(xn (aO tm) xs++[])=vs:=by rw[qY,hx.eval h1];simp
  rw[this];exact hr
 .refine⟨L'++R,_,_,⟨λb hb hm=>?_,af,λx hx=>?_,λx hx b hb=>?_,?_,λb hb=>?_,λb hb=>?_,λb hb=>?_,λb hb=>?_⟩,⟨hle,λb hb=>?_,λb hb=>?_⟩,k v L' s.next s'.next h2.old hle hq⟩
  .rw[hI.fr b (by show b<s.next;omega) (λhm'=>?_)]
   .exact h2.fr b hb hm
   .rcases(hMl b hm').2 with h3|h3
    .omega
    .exact hm h3
  .rcases eW.1 hx with hx|hx
   .exact hI.it x hx
   .exact It.y0 (N8.it x (dt _ hx)) λb hb=>hI.fr b ((N8.lt x (dt _ hx) b hb).1) (ahg x hx b hb)
  .rcases eW.1 hx with hx|hx
   .obtain⟨h3,h4⟩:=hI.lt x hx b hb;refine⟨h3,?_⟩;rcases h4 with h4|h4
    .exact .inl (by have h4:s.next<=b:=h4;omega)
    .exact(hMl b h4).2
   .obtain⟨h3,h4⟩:=N8.lt x (dt _ hx) b hb;exact⟨af,h4⟩
  .rw[wQ,uP];refine⟨hI.nd,by have:=N8.nd;rw[wQ] at this;exact(uP.1 this).2.1,λb hb c hc=>?_⟩;rintro rfl;obtain⟨x,hx,hb⟩:=px.1 hb;obtain⟨y,hy,hc⟩:=px.1 hc;rcases(hI.lt x hx b hb).2 with h4|h4
   .have:=(N8.lt y (dt _ hy) b hc).1;have h4:s.next<=b:=h4
    omega
   .exact ahg y hy b hc h4
  .rcases hI.cV b hb with h3|h3|h3|h3
   .exact h2.cV b h3
   .exact .inr (hA s h2 b h3).2
   .exact .inr (.inr (hMl b h3).2.symm)
   .exact .inr (.inr (.inr (by have h3:s.next<=b:=h3;omega)))
  .rcases hI.wr b hb with h3|h3|h3
   .exact h2.wr b h3
   .exact .inr (hMl b h3).2.symm
   .exact .inr (.inr (by have h3:s.next<=b:=h3;omega))
  .rcases hI.top b hb with h3|h3
   .rcases h2.top b h3 with h3|h3
    .exact .inl h3
    .exact .inr af
   .exact .inr h3
  .rcases hI.y1 b hb with h3|h3
   .rcases h2.y1 b h3 with h3|h3
    .exact .inl h3
    .exact .inr af
   .exact .inr h3
  .rcases hI.cV b hb with h3|h3|h3|h3
   .exact .inl h3
   .exact .inr ⟨.inl h3,by have:=(hA s h2 b h3).1;omega⟩
   .exact .inr ⟨.inr (.inl h3),by have:=(hMl b h3).1;omega⟩
   .rcases hI.top b hb with h4|h4
    .exact .inl h4
    .exact .inr ⟨.inr (.inr ⟨h3,h4⟩),h4⟩
  .rcases hI.wr b hb with h3|h3|h3
   .exact .inl h3
   .exact .inr ⟨.inl h3,by have:=(hMl b h3).1;omega⟩
   .rcases hI.y1 b hb with h4|h4
    .exact .inl h4
    .exact .inr ⟨.inr ⟨h3,h4⟩,h4⟩
end
section
variable {KO:KO}{a:aS}{K:Kn->dy->Prop}
inductive qO (E:iq)(l:Kn)(L:dy):List ResultVar->aY->Prop
 |nil:qO E l L [] []
 |tmp {t:Nat} {v:Value} {rs:List ResultVar} {vs:aY} (h:lk l t=some v) (k:qO E l L rs vs):qO E l L (.tmp t::rs) (v::vs)
 |cell {c b off:Nat} {t:TypeId} {cs:aY} {e:TypeId} {w:Bool} {v:Value} {rs:List ResultVar} {vs:aY} (ht:np E t) (h:lk l c=some (.pointer (some ⟨b,off,none⟩))) (hm:It.box b cs e w∈L) (hv:jc cs off=some v) (k:qO E l L rs vs):qO E l L (.cell c t::rs) (v::vs)
 |acI {c b off m:Nat} {t:TypeId} {cs:aY} {e:TypeId} {w:Bool} {r:aY} {rs:List ResultVar} {vs:aY} (ht:wJ E t m) (h:lk l c=some (.pointer (some ⟨b,off,none⟩))) (hm:It.box b cs e w∈L) (hv:ie m (gg off cs)=some r) (k:qO E l L rs vs):qO E l L (.cell c t::rs) (.agg ⟨r⟩::vs)
theorem qO.eval {rs:List ResultVar}{vs:aY}(h:qO E l L rs vs):∀{tm:Tm}{s:St},mU l tm->Inv Γ s L->∃s',C3 E tm rs s=some (vs,s')/\Inv Γ s' L:=by
 induction h with
 |nil=>exact λh1 h2=>⟨_,rfl,h2⟩
 |tmp h k ih=>
  intro tm s h1 h2;obtain⟨s',h3,h4⟩:=ih h1 h2;refine⟨s',?_,h4⟩;rw[vQ];show ob (C3 E tm _ s) _=_;rw[h3];have:=h1 _ _ h;show some (lX (tm.get _)::_,_)=_;rw[show lX (tm.get _)=_ from this]
 |cell ht h hm hv k ih=>
  intro tm s h1 h2;obtain⟨s',h3,h4⟩:=ih h1 (h2.aU (h2.may hm (fJ.2 rfl)));refine⟨s',?_,h4⟩;rw[vQ];show Fv (lX (tm.get _)) _=_;rw[show lX (tm.get _)=_ from h1 _ _ h];show ob (lM E s _ _ _) _=_;rw[tK (h2.it _ hm) (by rw[<-dO];exact hv)];simp only[bu];rw[h3];rfl
 |acI ht h hm hv k ih=>
  intro tm s h1 h2;obtain⟨s',h3,h4⟩:=ih h1 (h2.aU (h2.may hm (fJ.2 rfl)));refine⟨s',?_,h4⟩;rw[vQ];show Fv (lX (tm.get _)) _=_;rw[show lX (tm.get _)=_ from h1 _ _ h];show ob (lM E s _ _ _) _=_;rw[vU (h2.it _ hm) hv];simp only[bu];rw[h3];rfl
def WM:Nat->aY->Kn
 |_,[]=>[]
 |i,v::vs=>(i,v)::WM (i+1) vs
theorem Q4:∀(vs:aY)(i t:Nat)(v:Value),lk (WM i vs) t=some v->i<=t/\vs[t-i]?=some v
 |[],i,t,v,h=>by cases h
 |u::vs,i,t,v,h=>by
  unfold WM lk at h;split at h
  .rename_i hb;have:i=t:=by simpa using hb
   subst this;simp at h;subst h;simp
  .rename_i hb;obtain⟨h1,h2⟩:=Q4 vs (i+1) t v h;refine⟨af,?_⟩;have:t-i=t-(i+1)+1:=by omega
   rw[this,aae];exact h2
def wK (E:iq)(rs:List ResultVar)(Q:Value->dy->Prop):B9:=λe l L=>(e= .normal\/e= .ret)/\∃vs L2,qO E l L rs vs/\cx L2 L/\Q (gK vs) L2
theorem fA.body {f:FuncId}{fn:Func}{c:Code}{args:aY}{Lm:dy}{A:List Nat}{Q:Value->dy->Prop}(hf:E.fn.get f=some fn)(hb:fn.body=some c)(hx:(Nat.beq f X.look||xu X f)=false)(hl:args.length<=fn.ntmps)
  (h:W E X ⟨s,Lm.flatMap It.cr,A⟩ c (WM 0 args) Lm (wK E fn.results.toList Q)):fA E X f args s Lm A Q:=λh1 h2 h3=>by
 refine nT.body hf hb hx hl ((h (kv args 0 .nil) s (λt v ht=>?_) ⟨λ_ _ _=>rfl,cC _,h1,λx hx b hb=>⟨h2 x hx b hb,.inr (px.2 ⟨x,hx,hb⟩)⟩,h3,λb hb=>.inl hb,λb hb=>.inl hb,λb hb=>.inl hb,λb hb=>.inl hb⟩).mono ?_)
 .obtain⟨h4,h5⟩:=Q4 args 0 t v ht;show lX (T.get _ _)=_;rw[vb];have h6:t<args.length:=by
   have:=(sV.1 h5).1;omega
  rw[if_pos ⟨h4,af⟩,h5];rfl
 .rintro e tm s1 ⟨l',L',h4,h5,he,vs,L2,hr,hle,hq⟩;obtain⟨s2,h6,h7⟩:=hr.eval h4 h5;exact⟨he,vs,s2,h6,L2,h7.sub hle,hq⟩
theorem WD.nil {j nx:Nat}{seen:List Sn}(h:K l L):WD E X Γ aG [] j seen nx l L K:=λtm s sn h1 h2 _ h3=>⟨0,tm,s,⟨l,L,h1,h2,h⟩,λ_ _ _ _=>rfl⟩
theorem Inv.clear {s:St}(h:Inv Γ s L):Inv Γ (eD s) L:=by
 cases s
 exact⟨h.fr,h.le,h.it,h.lt,h.nd,λb hb=>absurd hb (by simp[eD,In]),λb hb=>absurd hb (by simp[eD,In]),λb hb=>absurd hb (by simp[eD,In]),λb hb=>absurd hb (by simp[eD,In])⟩
theorem Ta {n mask a r:Nat}{R Wr:Fp}{m:Nat}(hr:∀b,In a b->R b/\b<m)(hw:∀b,In r b->Wr b/\b<m):∀{seen:List Sn},kY n mask R Wr seen->∀{sn:List Seen},S9 seen sn n->An mask a r sn=true:=by
 intro seen ha sn;have bU:∀x∈seen,Nat.testBit mask x.i=true\/((∀b,b<n->x.W b->¬R b)/\(∀b,b<n->x.R b->¬Wr b)):=by
  induction seen with
  |nil=>intro x hx;cases hx
  |cons y l ih=>
   intro x hx;rcases bH.1 hx with rfl|hx
   .exact ha.1
   .exact ih ha.2 x hx
 intro hs;induction sn with
 |nil=>rfl
 |cons y sn ih=>
  show bo (bo (Nat.beq (Nat.land y.wr a) 0) (Nat.beq (Nat.land y.cV r) 0) false||Nat.testBit mask y.i) (An mask a r sn) false=true;rw[ih λz hz=>hs z (iV _ hz)];obtain⟨x,hx,hi,kL,mZ⟩:=hs y ga;have hz:∀p q:Nat,(∀b,In p b->¬In q b)->Nat.beq (Nat.land p q) 0=true:=λp q h=>by
   have:p&&& q=0:=by
    apply Nat.eq_of_testBit_eq;intro i;rw[Nat.testBit_and,Nat.zero_testBit];by_cases h1:p.testBit i=true
    .have:=h i h1;rw[h1,uN];simpa[In] using this
    .simp[h1]
   show Nat.beq (p&&& q) 0=true;rw[this];rfl
  rcases bU x hx with h|⟨h1,h2⟩
  .rw[hi] at h;rw[h,Bool.or_true];rfl
  .rw[hz y.wr a (λb hb lO=>h1 b (mZ b hb).2 (mZ b hb).1 (hr b lO).1),hz y.cV r (λb hb lO=>h2 b (kL b hb).2 (kL b hb).1 (hw b lO).1)];rfl
theorem S9.le {seen:List Sn}{sn:List Seen}{n m:Nat}(h:S9 seen sn n)(hn:n<=m)(y:Sn):S9 (y::seen) sn m:=λz hz=>by
 obtain⟨x,h1,h2,h3,h4⟩:=h z hz;exact⟨x,iV _ h1,h2,λb hb=>⟨(h3 b hb).1,by have:=(h3 b hb).2;omega⟩,λb hb=>⟨(h4 b hb).1,by have:=(h4 b hb).2;omega⟩⟩
theorem F0.cons {tm:Tm}{s:St}{sn:List Seen}{o:Oper}{j:Nat}{K:Tm->St->Prop}(hw:ib aG tm o.guard=true)(h:fy E X (aO tm) (eD s) o.op λv s'=>∃s2 sn2,F0 E X aG aE (j+1) (tm.gY o.dst v) s2 sn2 K/\∀k:St->List Seen->R3,uT aG j s s' sn k=k s2 sn2):F0 E X aG (o::aE) j tm s sn K:=by obtain⟨N,v,s1,⟨s2,sn2,⟨M,tm3,s3,hk,mG⟩,hd⟩,hr⟩:=h;refine⟨max N M,tm3,s3,hk,λn hn lf hl=>?_⟩;rw[xA,hw,gA,hr n af lf af];show uT aG j s s1 sn (λs seen=>tm.put o.dst v λtm=>uU E _ aG aE (Nat.succ j) tm s seen)=_;rw[hd];rw[Tm.put_eq];exact mG n af lf af
theorem F0.pass {tm:Tm}{s:St}{sn:List Seen}{o:Oper}{j:Nat}{K:Tm->St->Prop}(hw:ib aG tm o.guard=false)(h:F0 E X aG aE (j+1) (tm.gY o.dst (.tuple ⟨[]⟩)) s sn K):F0 E X aG (o::aE) j tm s sn K:=by obtain⟨M,tm3,s3,hk,mG⟩:=h;refine⟨M,tm3,s3,hk,λn hn lf hl=>?_⟩;rw[xA,hw,eG,Tm.put_eq];exact mG n hn lf hl
theorem WD.step {o:Oper}{j nx:Nat}{seen:List Sn}{l2:Value->Kn}(hl:∀v tm,mU l tm->mU (l2 v) (tm.gY o.dst v))(hw:Want aG l o.guard true)(h:WO E X Γ l o.op L λv L' n n' R Wr=>n=nx->kY nx ((Region.before ⟨aG⟩).getD j 0) R Wr seen/\WD E X Γ aG aE (j+1) (⟨j,R,Wr⟩::seen) n' (l2 v) L' K):WD E X Γ aG (o::aE) j seen nx l L K:=λtm s sn h1 h2 Tb h3=>by
 obtain⟨N,v,s',⟨L',R,Wr,h4,h5,h67⟩,hr⟩:=h tm (eD s) h1 h2.clear;have hcn:(eD s).next=s.next:=by cases s;rfl
 obtain⟨h6,h7⟩:=h67 (by rw[hcn,Tb]);subst Tb;have kL:∀b,In s'.cV b->R b/\b<s'.next:=λb hb=>by
  rcases h5.cV b hb with h|h
  .cases s;simp[eD,In] at h
  .exact h
 have mZ:∀b,In s'.wr b->Wr b/\b<s'.next:=λb hb=>by
  rcases h5.wr b hb with h|h
  .cases s;simp[eD,In] at h
  .exact h
 have Q5:s.next<=s'.next:=by rw[<-hcn];exact h5.nx
 refine F0.cons (hw.eval h1) ⟨N,v,s',?_,hr⟩;obtain⟨hh,nn,a0,r0⟩:=s;obtain⟨hh',WN,a,r⟩:=s';have QW:S9 (⟨j,R,Wr⟩::seen) sn WN:=h3.le Q5 _;by_cases ha:a=0
 .refine⟨⟨hh',WN,a0,r0⟩,sn,?_,λk=>?_⟩
  .refine h7 _ _ _ (hl v tm h1) ?_ rfl QW;exact⟨h4.fr,h4.le,h4.it,h4.lt,h4.nd,h2.cV,h2.wr,λb hb=>(h2.top b hb).imp id λ(hx:b<nn)=>by have Q5:nn<=WN:=Q5;show b<WN;omega,λb hb=>(h2.y1 b hb).imp id λ(hx:b<nn)=>by have Q5:nn<=WN:=Q5;show b<WN;omega⟩
  .show bo (Nat.beq a 0) _ _=_;rw[ha];rfl
 .refine⟨⟨hh',WN,a0||| a,r0||| r⟩,⟨j,a,r⟩::sn,?_,λk=>?_⟩
  .refine h7 _ _ _ (hl v tm h1) ?_ rfl ?_
   .refine⟨h4.fr,h4.le,h4.it,h4.lt,h4.nd,λb hb=>?_,λb hb=>?_,λb hb=>?_,λb hb=>?_⟩
    .rcases(rH _ _ _).1 hb with h|h
     .exact h2.cV b h
     .exact h4.cV b h
    .rcases(rH _ _ _).1 hb with h|h
     .exact h2.wr b h
     .exact h4.wr b h
    .rcases(rH _ _ _).1 hb with h|h
     .exact(h2.top b h).imp id λ(hx:b<nn)=>by have Q5:nn<=WN:=Q5;show b<WN;omega
     .exact h4.top b h
    .rcases(rH _ _ _).1 hb with h|h
     .exact(h2.y1 b h).imp id λ(hx:b<nn)=>by have Q5:nn<=WN:=Q5;show b<WN;omega
     .exact h4.y1 b h
   .intro z hz;rcases bH.1 hz with rfl|hz
    .exact⟨_,ga,rfl,kL,mZ⟩
    .exact QW z hz
  .show bo (Nat.beq a 0) _ (bo (An ((Region.before ⟨aG⟩).getD j 0) a r sn) _ none)=_;rw[show Nat.beq a 0=false from WJ af,Ta kL mZ h6 h3];simp only[eG,gA,QI];rfl
theorem WD.cons {d:Nat}{o:Oper}{j nx:Nat}{seen:List Sn}(hd:o.dst=some d)(hw:Want aG l o.guard true)(h:WO E X Γ l o.op L λv L' n n' R Wr=>n=nx->kY nx ((Region.before ⟨aG⟩).getD j 0) R Wr seen/\WD E X Γ aG aE (j+1) (⟨j,R,Wr⟩::seen) n' ((d,v)::l) L' K):WD E X Γ aG (o::aE) j seen nx l L K:=
 WD.step (l2:=λv=>(d,v)::l) (λv tm h1=>by rw[hd];exact h1.cons d v) hw h
theorem WD.WA {o:Oper}{j nx:Nat}{seen:List Sn}(hd:o.dst=none)(hw:Want aG l o.guard true)(h:WO E X Γ l o.op L λv L' n n' R Wr=>n=nx->kY nx ((Region.before ⟨aG⟩).getD j 0) R Wr seen/\WD E X Γ aG aE (j+1) (⟨j,R,Wr⟩::seen) n' l L' K):WD E X Γ aG (o::aE) j seen nx l L K:=
 WD.step (l2:=λv=>l) (λv tm h1=>by rw[hd];exact h1) hw h
theorem WD.pass {d:Nat}{o:Oper}{j nx:Nat}{seen:List Sn}(hd:o.dst=some d)(hw:Want aG l o.guard false)(h:WD E X Γ aG aE (j+1) seen nx ((d,.tuple ⟨[]⟩)::l) L K):WD E X Γ aG (o::aE) j seen nx l L K:=λtm s sn h1 h2 Tb h3=>by
 exact F0.pass (hw.eval h1) (by rw[hd];exact h _ _ _ (h1.cons d _) h2 Tb h3)
end
theorem aX {E:iq}{X:fY}(fn:Func){f:FuncId}{c:Code}{args:aY}{s:St}{Lm:dy}{A:List Nat}{Q:Value->dy->Prop}(h:W E X ⟨s,Lm.flatMap It.cr,A⟩ c (WM 0 args) Lm (wK E fn.results.toList Q))(hf:E.fn.get f=some fn:=by kernel_rfl)(hb:fn.body=some c:=by exact rfl)(hx:(Nat.beq f X.look||xu X f)=false:=by decide)(hl:args.length<=fn.ntmps:=by exact mR rfl):fA E X f args s Lm A Q:=fA.body hf hb hx hl h
variable {Q:B9}{i id d j dj nx:Nat}{op:Op}{ty:TypeId}{pos:String}{after:Array Edge}{w:Bool}{seen:List Sn}
section
variable {k:Kn->dy->Prop}
theorem ak (h:k l L):Ls Q k .normal l L:=h
theorem OW (h:Q (.exit i) l L):Ls Q k (.exit i) l L:=h
theorem ke (h:Q .ret l L):Ls Q k .ret l L:=h
theorem fe (h:Q .normal l L):pk id Q .normal l L:=h
theorem iP (h:Q .ret l L):pk id Q .ret l L:=h
theorem BC (h:Q .normal l L):pk id Q (.exit id) l L:=by
 show if id=id then Q .normal l L else Q (.exit id) l L
 rw[if_pos rfl];exact h
end
section
variable {K:Kn->dy->Prop}{t:Bool}
theorem ws (h:WO E X Γ l op L λv L' _ _ _ _=>WS E X Γ aG aE ((d,v)::l) L' K):WS E X Γ aG (⟨some d,op,ty,pos,after,none⟩::aE) l L K:=WS.cons rfl .none h
theorem ws0 (h:WO E X Γ l op L λv L' _ _ _ _=>WS E X Γ aG aE l L' K):WS E X Γ aG (⟨none,op,ty,pos,after,none⟩::aE) l L K:=WS.WA rfl .none h
theorem Cz {b:Bool}(hd:mB aG j=some d)(h:lk l d=some (.bool t))(hb:(if t then w else !w)=b):Want aG l (some (j,w)) b:=by subst hb;exact Want.some hd h
theorem wsg (hd:mB aG j=some dj)(hl:lk l dj=some (.bool t))(h1:t=w->WO E X Γ l op L λv L' _ _ _ _=>WS E X Γ aG aE ((d,v)::l) L' K)(h2:t= !w->WS E X Γ aG aE ((d,.tuple ⟨[]⟩)::l) L K):WS E X Γ aG (⟨some d,op,ty,pos,after,some (j,w)⟩::aE) l L K:=by
 by_cases h:t=w
 .exact WS.cons rfl (Cz hd hl (by subst h;cases t<;>rfl)) (h1 h)
 .exact WS.pass rfl (Cz hd hl (by cases t<;>cases w<;>simp_all)) (h2 (by cases t<;>cases w<;>simp_all))
theorem wd (h:WO E X Γ l op L λv L' n n' R Wr=>n=nx->kY nx ((Region.before ⟨aG⟩).getD i 0) R Wr seen/\WD E X Γ aG aE (i+1) (⟨i,R,Wr⟩::seen) n' ((d,v)::l) L' K):WD E X Γ aG (⟨some d,op,ty,pos,after,none⟩::aE) i seen nx l L K:=WD.cons rfl .none h
theorem wd0 (h:WO E X Γ l op L λv L' n n' R Wr=>n=nx->kY nx ((Region.before ⟨aG⟩).getD i 0) R Wr seen/\WD E X Γ aG aE (i+1) (⟨i,R,Wr⟩::seen) n' l L' K):WD E X Γ aG (⟨none,op,ty,pos,after,none⟩::aE) i seen nx l L K:=WD.WA rfl .none h
theorem wdg (hd:mB aG j=some dj)(hl:lk l dj=some (.bool t))(h1:t=w->WO E X Γ l op L λv L' n n' R Wr=>n=nx->kY nx ((Region.before ⟨aG⟩).getD i 0) R Wr seen/\WD E X Γ aG aE (i+1) (⟨i,R,Wr⟩::seen) n' ((d,v)::l) L' K)(h2:t= !w->WD E X Γ aG aE (i+1) seen nx ((d,.tuple ⟨[]⟩)::l) L K):WD E X Γ aG (⟨some d,op,ty,pos,after,some (j,w)⟩::aE) i seen nx l L K:=by
 by_cases h:t=w
 .exact WD.cons rfl (Cz hd hl (by subst h;cases t<;>rfl)) (h1 h)
 .exact WD.pass rfl (Cz hd hl (by cases t<;>cases w<;>simp_all)) (h2 (by cases t<;>cases w<;>simp_all))
end
noncomputable def ahh (E:iq)(t:TypeId):Option Bool:=ob (gX E t) λd=>some (xl d)
theorem mc (h:ahh E t=some false):np E t:=by obtain⟨d,h1,h2⟩:=aF h;exact⟨d,h1,iU h2⟩
noncomputable def akQ (E:iq)(t:TypeId):Option (Bool×Nat):=ob (gX E t) λd=>ob (size E t) λn=>some (xl d,n)
theorem rL {n:Nat}(h:akQ E t=some (true,n)):wJ E t n:=by obtain⟨d,h1,h2⟩:=aF h;obtain⟨m,h3,h4⟩:=aF h2;have:=iU h4;simp only[cw] at this;exact⟨d,h1,this.1,by rw[h3,this.2]⟩
noncomputable def akR (E:iq)(t:TypeId)(i:Nat):Option Nat:=ob (gX E t) λd=>match d with
 |.struct ⟨fs⟩=>ob (jc fs i) λf=>ob (size E f.type) λsz=>dN (Nat.ble (nat_lit 1) sz) (some f.offset)
 |_=>none
theorem dA {i off:Nat}(h:akR E t i=some off):iu E t i off:=by
 obtain⟨d,h1,h2⟩:=aF h;split at h2
 .rename_i fs;obtain⟨f,h3,h4⟩:=aF h2;obtain⟨sz,h5,h6⟩:=aF h4;obtain⟨h7,h8⟩:=bq h6;rw[dO] at h3;exact⟨fs,f,sz,h1,h3,h5,mR h7,iU h8⟩
 .cases h2
noncomputable def akS (E:iq)(t:TypeId):Option (Nat×Nat×aY):=ob (gX E t) λd=>match d with
 |.slice e=>ob (E.ty.get e) λi=>ob i.zero λv=>dN (Nat.beq (dX (bZ v)) i.size&&Nat.ble (nat_lit 1) i.size&&Nat.ble i.bytes (nat_lit 1000000)) (some (e,i.size,bZ v))
 |_=>none
theorem tL {e sz:Nat}{z:aY}(h:akS E t=some (e,sz,z)):rK E t e sz z:=by
 obtain⟨d,h1,h2⟩:=aF h;split at h2
 .rename_i e';obtain⟨i,h3,h4⟩:=aF h2;obtain⟨v,h5,h6⟩:=aF h4;obtain⟨h7,h8⟩:=bq h6;simp only[bI] at h7;have:=iU h8;simp only[cw] at this;obtain⟨rfl,rfl,rfl⟩:=this;exact⟨h1,i,v,h3,rfl,h5,rfl,by have:=nV h7.1.1;simpa using this,mR h7.1.2,mR h7.2⟩
 .cases h2
theorem oJ {e sz:Nat}{z:aY}(h:rK E t e sz z):pC E t e sz:=by obtain⟨h1,i,v,h2,h3,h4,h5,h6,h7,h8⟩:=h.h;exact⟨h1,i,v,h2,h3,h4,by rw[h5,h6],h7,h8⟩
noncomputable def aeo (E:iq)(t:TypeId):Option (aY):=ob (zero E t) λv=>some (bZ v)
theorem jZ {z:aY}(h:aeo E t=some z):rj E t z:=by obtain⟨v,h1,h2⟩:=aF h;exact⟨v,h1,iU h2⟩
noncomputable def aaO (E:iq)(t:TypeId):Option (List (Nat×Nat)×aY):=ob (gX E t) λd=>match d with
 |.struct ⟨fs⟩=>ob (places E fs) λpl=>ob (zero E t) λv=>some (pl,bZ v)
 |_=>none
theorem j2 {pl:List (Nat×Nat)}{z:aY}(h:aaO E t=some (pl,z)):mv E t pl z:=by
 obtain⟨d,h1,h2⟩:=aF h;split at h2
 .rename_i fs;obtain⟨p,h3,h4⟩:=aF h2;obtain⟨v,h5,h6⟩:=aF h4;have:=iU h6;simp only[cw] at this;exact⟨fs,v,h1,by rw[h3,this.1],h5,this.2⟩
 .cases h2
theorem cx.nil (L:dy):cx [] L:=⟨[],.refl _,List.nil_sublist _⟩
theorem cx.cons {x:It}{L R L2:dy}(h:Kx x L R)(k:cx L2 R):cx (x::L2) L:=by
 obtain⟨l,hp,hs⟩:=k;induction h generalizing l L2 with
 |here=>exact⟨x::l,hp.cons _,hs.cons_cons _⟩
 |there h ih=>
  rename_i y L R;cases hs with
  |cons _ hs=>
   obtain⟨l',h1,h2⟩:=ih l hp hs;exact⟨l',h1,h2.cons _⟩
  |cons_cons _ hs=>
   rename_i l0;obtain⟨l',h1,h2⟩:=ih (L2:=l0) l0 (.refl _) hs;refine⟨y::l',?_,h2.cons_cons _⟩;exact((h1.cons _).trans (.swap _ _ _)).trans (hp.cons _)
theorem cx.refl (L:dy):cx L L:=⟨L,.refl _,.refl _⟩
variable {a2:aS}{enc:aq α sz}{mask:Nat}{f:FuncId}{xs:List Operand}{ts:Array TypeId}{vs:aY}{r:Value}{A:List Nat}{I WQ:Kn->dy->Prop}{rs:List ResultVar}{e:Nat}{b':Bool}{o':Operand}{j':Int}{k':IntKind}
class TT (E:iq)(t:TypeId)(e sz:outParam Nat)(α:outParam Type)(enc:outParam (aq α sz)):Prop where
 h:∃z,rK E t e sz z/\∃d:α,aq.cells (sz:=sz) d=z
theorem TT.elem {E:iq}{t e sz:Nat}{α:Type}{enc:aq α sz}(h:TT E t e sz α enc):pC E t e sz:=by obtain⟨z,h1,_⟩:=h.h;exact oJ h1
section
variable {a:aS}
inductive EvE (l:Kn)(enc:aq α sz):Nat->List (Nat×Operand)->List α->Prop
 |nil {i:Nat}:EvE l enc i [] []
 |cons {i:Nat} {x:Operand} {v:Value} {p:α} {ps:List (Nat×Operand)} {xs:List α} (h:Ev l x v) (hv:bZ v=aq.cells (sz:=sz) p) (k:EvE l enc (i+1) ps xs):EvE l enc i ((i,x)::ps) (p::xs)
theorem EvE.vals {ps:List (Nat×Operand)}{xs:List α}{i:Nat}(h:EvE l enc i ps xs):∃vs:List (Nat×Value),WH l ps vs/\∀(done aE:aY),done.length=i*sz->aE.length=xs.length*sz->sa (oL sz) vs (done++aE)=some (done++ai (sz:=sz) xs):=by
 induction h with
 |nil=>exact⟨[],.nil,λdone aE h1 h2=>by
   have:aE=[]:=mj (by simpa using h2);subst this;rfl⟩
 |cons h hv k ih=>
  rename_i i x v p ps xs;obtain⟨vs,h1,h2⟩:=ih;refine⟨(i,v)::vs,.cons h h1,λdone aE h3 h4=>?_⟩;show ob (some (Nat.mul i sz,sz)) (λq=>dN (Nat.beq (dX (bZ v)) q.2)<| ob (eF q.1 (bZ v) (done++aE)) λcs=>sa (oL sz) vs cs)=_;simp only[bu,c8,hv,aq.len,ja];rw[ep];have hr:aE.length=xs.length*sz+sz:=by rw[h4,cU,lU,Nat.one_mul]
  have dD:eF (Nat.mul i sz) (aq.cells (sz:=sz) p) (done++aE)=some (done++aq.cells (sz:=sz) p++aE.drop sz):=by
   have hl:Nat.mul i sz+(aq.cells (sz:=sz) p).length<=(done++aE).length:=by
    rw[aq.len,bn,h3];show i*sz+sz<=_;omega
   have:∀(k:Nat)(c d:aY),c.length=k->d.length>=(aq.cells (sz:=sz) p).length->eF k (aq.cells (sz:=sz) p) (c++d)=some (c++aq.cells (sz:=sz) p++d.drop (aq.cells (sz:=sz) p).length):=by
    intro k;induction k with
    |zero=>
     intro c d hc hd;have:c=[]:=mj hc;subst this;show nb _ _=_;rw[QJ,pF,if_pos hd];simp
    |succ k ih=>
     intro c d hc hd;cases c with
     |nil=>simp at hc
     |cons y c=>
      show ob (eF k _ (c++d)) (λr=>some (y::r))=_;rw[ih c d (by simpa using hc) hd];rfl
   have h5:=this (Nat.mul i sz) done aE h3 (by rw[aq.len];omega);rw[aq.len] at h5;exact h5
  rw[dD,bu,h2 (done++aq.cells (sz:=sz) p) (aE.drop sz) (by rw[bn,aq.len,h3,lU,Nat.one_mul]) (by rw[eP,hr];omega),dE,iL]
theorem WO.lit {m e:Nat}{ps:List (Nat×Operand)}{xs:List α}[ht:TT E t e sz α enc](hp:EvE l enc 0 ps xs)(hm:m=xs.length)(hb:Nat.ble (Nat.mul m sz) 16777216=true)
  (k:∀b,iY L b->K (.slice (some ⟨b,0,none⟩) xs.length m) (.aQ (.slice (some ⟨b,0,none⟩) xs.length m) e sz (ai (sz:=sz) xs)::L) b (b+1) (λi=>i=b) (λi=>i=b)):WO E X Γ l (.buildSlice t m ⟨ps⟩) L K:=by
 obtain⟨z,h1,d,h2⟩:=ht.h;obtain⟨vs,h3,h4⟩:=hp.vals;subst hm;refine WO.buildSlice (ht:=h1) hb h3 (cs:=ai (sz:=sz) xs) ?_ (aR _) k;have:=h4 [] (lW z xs.length) ay (by rw[<-h2,DE,aR];simp);simpa using this
theorem WO.Q6 {e c c2:Nat}{p q:List α}[ht:TT E t e sz α enc][ht2:TT E t2 e sz α enc](hx:Ev l x (.slice a p.length c))(hy:Ev l y (.slice a2 q.length c2))(hr:Kx (.aQ (.slice a p.length c) e sz (ai (sz:=sz) p)) L R)(hs:kr Γ L a2 q.length sz (ai (sz:=sz) q))(hn:p.length+q.length<=1000000)
  (k:∀b b' a' c',iY L b->b<=b'->(∀i∈aj a',i∈aj a\/i=b)->K (.slice a' (p++q).length c') (.aQ (.slice a' (p++q).length c') e sz (ai (sz:=sz) (p++q))::R) b b' (λi=>i∈aj a2\/i∈aj a\/i=b) (λi=>i∈aj a\/i=b)):WO E X Γ l (.call ⟨.builtin .append,⟨[x,y]⟩,⟨[t,t2]⟩⟩) L K:=by
 obtain⟨z,h1,d,h2⟩:=ht.h;obtain⟨z2,h3,d2,h4⟩:=ht2.h;have hz:z2=z:=by
  obtain⟨_,i,v,h5,_,h6,h7,_⟩:=h1.h;obtain⟨_,i',v',h5',_,h6',Ox,_⟩:=h3.h;rw[h5] at h5';cases h5';rw[h6] at h6';cases h6';rw[<-h7,<-Ox]
 subst hz;refine WO.append (ht:=h1) (ht2:=h3) hx hy hr hs (Az _) hn λb b' a' c' h5 h5' h6=>?_
 have:=k b b' a' c' h5 h5' h6;rw[oS,bn] at this;exact this
theorem WO.ahi {d:α}{m e:Nat}{k1 k2:IntKind}[ht:TT E t e sz α enc](hd:∀z,rK E t e sz z->aq.cells (sz:=sz) d=z)(hx:Ev l x (.int k1 (m:Int)))(hy:Ev l y (.int k2 (m:Int)))(hm:m<=1000000)
  (k:∀b c,iY L b->K (.slice (some ⟨b,0,none⟩) (List.replicate m d).length c) (.aQ (.slice (some ⟨b,0,none⟩) (List.replicate m d).length c) e sz (ai (sz:=sz) (List.replicate m d))::L) b (b+1) (λi=>i=b) (λi=>i=b)):WO E X Γ l (.makeSlice t x y) L K:=by
 obtain⟨z,h1,_⟩:=ht.h;refine WO.makeSlice (ht:=h1) (hd z h1) hx hy hm λb h2=>?_
 have:=k b m h2;rw[sX] at this;exact this
end
section
variable {K:Kn->dy->Prop}{t:Bool}
theorem akT (hd:mB aG j=some dj)(hl:lk l dj=some (.bool t))(ht:t=w)(h1:WO E X Γ l op L λv L' _ _ _ _=>WS E X Γ aG aE ((d,v)::l) L' K):WS E X Γ aG (⟨some d,op,ty,pos,after,some (j,w)⟩::aE) l L K:=wsg hd hl (λ_=>h1) (λh=>by subst ht;cases t<;>cases h)
theorem akU (hd:mB aG j=some dj)(hl:lk l dj=some (.bool t))(ht:t= !w)(h2:WS E X Γ aG aE ((d,.tuple ⟨[]⟩)::l) L K):WS E X Γ aG (⟨some d,op,ty,pos,after,some (j,w)⟩::aE) l L K:=wsg hd hl (λh=>by subst ht;cases w<;>cases h) (λ_=>h2)
theorem akV (hd:mB aG j=some dj)(hl:lk l dj=some (.bool t))(ht:t=w)(h1:WO E X Γ l op L λv L' n n' R Wr=>n=nx->kY nx ((Region.before ⟨aG⟩).getD i 0) R Wr seen/\WD E X Γ aG aE (i+1) (⟨i,R,Wr⟩::seen) n' ((d,v)::l) L' K):WD E X Γ aG (⟨some d,op,ty,pos,after,some (j,w)⟩::aE) i seen nx l L K:=wdg hd hl (λ_=>h1) (λh=>by subst ht;cases t<;>cases h)
theorem akW (hd:mB aG j=some dj)(hl:lk l dj=some (.bool t))(ht:t= !w)(h2:WD E X Γ aG aE (i+1) seen nx ((d,.tuple ⟨[]⟩)::l) L K):WD E X Γ aG (⟨some d,op,ty,pos,after,some (j,w)⟩::aE) i seen nx l L K:=wdg hd hl (λh=>by subst ht;cases w<;>cases h) (λ_=>h2)
theorem aaP {P:Prop}(h:P):kY n mask Z Z seen/\P:=by
 refine⟨?_,h⟩;induction seen with
 |nil=>trivial
 |cons x l ih=>exact⟨.inr ⟨λ_ _ _ h=>h,λ_ _ _ h=>h⟩,ih⟩
theorem Tc {R Wr:Fp}{P:Prop}(h:P):kY n mask R Wr []/\P:=⟨trivial,h⟩
theorem OX {R Wr:Fp}{P:Prop}{k:Nat}(h:kY n mask R Wr seen/\P):kY n mask R Wr (⟨k,Z,Z⟩::seen)/\P:=⟨⟨.inr ⟨λ_ _ h=>h.elim,λ_ _ h=>h.elim⟩,h.1⟩,h.2⟩
theorem Lu {R R':Fp}{P:Prop}{k:Nat}(h:kY n mask R Z seen/\P):kY n mask R Z (⟨k,R',Z⟩::seen)/\P:=⟨⟨.inr ⟨λ_ _ h=>h.elim,λ_ _ _ h=>h⟩,h.1⟩,h.2⟩
theorem Jm {R Wr R' W':Fp}{P:Prop}{k:Nat}(hb:Nat.testBit mask k=true)(h:kY n mask R Wr seen/\P):kY n mask R Wr (⟨k,R',W'⟩::seen)/\P:=⟨⟨.inl hb,h.1⟩,h.2⟩
theorem WR {R Wr R' W':Fp}{P:Prop}{k:Nat}(h1:∀b,b<n->W' b->¬R b)(h2:∀b,b<n->R' b->¬Wr b)(h:kY n mask R Wr seen/\P):kY n mask R Wr (⟨k,R',W'⟩::seen)/\P:=⟨⟨.inr ⟨h1,h2⟩,h.1⟩,h.2⟩
theorem Td {P:Prop}(h:P):kY n mask (λi=>i=n) (λi=>i=n) seen/\P:=by
 refine⟨?_,h⟩;induction seen with
 |nil=>trivial
 |cons x l ih=>exact⟨.inr ⟨λb h1 _ h2=>by omega,λb h1 _ h2=>by omega⟩,ih⟩
end
theorem WO.min {k:IntKind}{a b:Int}{t2:TypeId}(hx:Ev l x (.int k a))(hy:Ev l y (.int k b))(h:∀n,K (.int k (min a b)) L n n Z Z):WO E X Γ l (.call ⟨.builtin .min,⟨[x,y]⟩,⟨[t,t2]⟩⟩) L K:=WO.val (λtm s call hl=>by
 show aai (aO tm x) (aO tm y) s=_;rw[hx.eval hl,hy.eval hl];show dN (qg k k) (aM (.int k (bo (Vb b a) b a)) s)=_;rw[vg,ep,rJ,dJ];unfold aM
 congr 3
 by_cases h:b<a<;>simp[h]<;>omega) h
theorem WO.max {k:IntKind}{a b:Int}{t2:TypeId}(hx:Ev l x (.int k a))(hy:Ev l y (.int k b))(h:∀n,K (.int k (max a b)) L n n Z Z):WO E X Γ l (.call ⟨.builtin .max,⟨[x,y]⟩,⟨[t,t2]⟩⟩) L K:=WO.val (λtm s call hl=>by
 show aaj (aO tm x) (aO tm y) s=_;rw[hx.eval hl,hy.eval hl];show dN (qg k k) (aM (.int k (bo (Vb a b) b a)) s)=_;rw[vg,ep,rJ,dJ];unfold aM
 congr 3
 by_cases h:a<b<;>simp[h]<;>omega) h
theorem WO.conv {k1 k2:IntKind}{n m:Int}{t2:TypeId}[h1:xG E t k1][h2:xG E t2 k2]{k:IntKind}(hx:Ev l x (.int k n))(hm:k2.wrap n=m)(h:∀i,K (.int k2 m) L i i Z Z):WO E X Γ l (.convert t t2 x) L K:=WO.val (λtm s call hl=>by
 show qX E s t t2 (aO tm x)=_;rw[hx.eval hl];unfold qX;rw[h1.h,h2.h];show aM (.int k2 (qf k2 n)) s=_;rw[jR,hm];rfl) h
theorem nt (z:List UInt8)[enc:aq UInt8 1](he:∀c,aq.cells c=[bv c]):strCells z=ai z:=by
 induction z with
 |nil=>rfl
 |cons c z ih=>rw[dE,he,<-ih];rfl
theorem Hc (z:List UInt8)[enc:aq UInt8 1](he:∀c,aq.cells c=[bv c]):yH (ai z)=some z:=by
 induction z with
 |nil=>rfl
 |cons c z ih=>
  rw[dE,he];show dN (Nat.ble (Nat.succ c.toNat) 256) (ob (yH (ai z)) λr=>some (UInt8.ofNat c.toNat::r))=_;rw[ih,gb (show Nat.succ c.toNat<=256 from by have:=c.toNat_lt;omega)];simp[ep]
theorem WO.str {a:aS}{c e:Nat}{p:List UInt8}{t2:TypeId}{enc:aq UInt8 1}[h1:TT E t e 1 UInt8 enc][h2:xF E t2][h3:xG E e .u8](he:∀c,aq.cells c=[bv c])(hx:Ev l x (.slice a p.length c))(hh:kr Γ L a p.length 1 (ai p))(k:∀n,K (sv p) L n n (λi=>i∈aj a) Z):WO E X Γ l (.convert t t2 x) L K:=λtm s hl hi=>by
 obtain⟨z,hr,_⟩:=h1.h;obtain⟨Lv,iF⟩:=hh.row hi;refine fy.pure (v:=sv p) (s':=nq s a) (λcall=>?_) ⟨L,(λi=>i∈aj a),Z,hi.nq iF,DG (λb hb=>(iF b hb).1) (λb hb=>hb),by rw[DF];exact k _⟩;show qX E s t t2 (aO tm x)=_;rw[hx.eval hl];unfold qX;rw[hr.h.1,h2.h];show ob (gX E e) (λd=>dN (isByte d)<| Om s a p.length)=_;rw[h3.h];show dN true _=_;rw[ep];obtain⟨h4,h5⟩:=Lv;rcases h5 with⟨h5,rfl|⟨b,o,q,rfl,h6⟩⟩|⟨b,o,c',e',w,rfl,h6,h7,h8⟩
 .have:p=[]:=mj h5;subst this;rfl
 .have:p=[]:=mj h5;subst this;rfl
 .show s.row b (λc _ _ s=>ob (ie p.length (gg o c)) λl=>ob (yH l) λbs=>aM (.string ⟨⟨bs⟩⟩) s)=_;unfold St.row St.look;rw[h7];simp only[bu];rw[sw (m:=p.length) (by simpa using h8) (by simpa using h4),bu,Hc p he];rfl
theorem WO.bytes {e:Nat}{z:List UInt8}{t2:TypeId}{enc:aq UInt8 1}[h1:xF E t][h2:TT E t2 e 1 UInt8 enc][h3:xG E e .u8](he:∀c,aq.cells c=[bv c])(hx:Ev l x (sv z))(hz:z.length<=1000000)(k:∀b,iY L b->K (.slice (some ⟨b,0,none⟩) z.length dS) (.box b (ai z) e false::L) b (b+1) (λi=>i=b) (λi=>i=b)):WO E X Γ l (.convert t t2 x) L K:=
 WO.news (mk:=λb=>.slice (some ⟨b,0,none⟩) z.length dS) (ob:=λ_=>.cells (ai z) e false) (it:=λb=>.box b (ai z) e false) (λtm s call hl _=>by
   obtain⟨zz,hr,_⟩:=h2.h;obtain⟨hr1,i,v,mG,hr3,_⟩:=hr.h;show qX E s t t2 (aO tm x)=_;rw[hx.eval hl];unfold qX;rw[hr1,h1.h];show ob (gX E e) (λd=>dN (isByte d)<| ob (size E e) λsz=>dN (Nat.beq sz 1&&Nat.ble (dX z) 1000000)<| aM (bJ s (dX z)) (s.new (.cells (strCells z) e false)))=_;rw[h3.h];show dN true _=_;rw[ep];have hs:size E e=some 1:=by unfold size;rw[mG];simp[hr3]
   rw[hs,bu,c8,gb hz];show dN true _=_;rw[ep,nt z he];rfl) (λs b h=>h) (λb=>rfl) k
theorem wrap_u8 (c:UInt8):IntKind.wrap .i64 (c.toNat:Int)=(c.toNat:Int):=qA ⟨by have:=c.toNat_lt;omega,by have:=c.toNat_lt;omega⟩
abbrev l7 (E:iq)(X:fY)(f:FuncId)(vs:aY)(s:St)(A:List Nat)(r:Value):Prop:=fA E X f vs s [] A λv L=>v=r/\L=[]
abbrev eu {α:Type}{sz:Nat}[aq α sz](E:iq)(X:fY)(f:FuncId)(vs:aY)(s:St)(A:List Nat)(e:TypeId)(p:List α):Prop:=fA E X f vs s [] A λv L=>∃a k,v= .slice a p.length k/\L=[.aQ v e sz (ai (sz:=sz) p)]
theorem WO.nu (hx:jY l xs vs)(h:∀s,Inv Γ s L->(∀b∈A,Ca Γ s b)/\l7 E X f vs s A r)(k:∀m m',iY L m->m<=m'->K r L m m' (mV A [] m m') (mW [] m m')):WC E X Γ l f xs ts L K:=
 WO.call (Lm:=[]) (R:=L) hx (.refl _) (λs hi=>(h s hi).1) (λs hi=>(h s hi).2) (by rintro v L' m m' ho hm ⟨rfl,rfl⟩;exact k m m' ho hm)
theorem WO.aW (hx:jY l xs vs)(h:∀s,l7 E X f vs s [] r)(k:∀m m',iY L m->m<=m'->K r L m m' (mV [] [] m m') (mW [] m m')):WC E X Γ l f xs ts L K:=
 WO.nu hx (λs _=>⟨(λb hb=>by cases hb),h s⟩) k
theorem WO.Lw {α:Type}{sz:Nat}{enc:aq α sz}{e:TypeId}{p:List α}(hx:jY l xs vs)(h:∀s,Inv Γ s L->(∀b∈A,Ca Γ s b)/\eu E X f vs s A e p)(k:∀m m' a c,iY L m->m<=m'->K (.slice a p.length c) (.aQ (.slice a p.length c) e sz (ai (sz:=sz) p)::L) m m' (mV A [] m m') (mW [] m m')):WC E X Γ l f xs ts L K:=
 WO.call (Lm:=[]) (R:=L) hx (.refl _) (λs hi=>(h s hi).1) (λs hi=>(h s hi).2) (by rintro v L' m m' ho hm ⟨a,c,rfl,rfl⟩;exact k m m' a c ho hm)
theorem WO.vh {α:Type}{sz:Nat}{enc:aq α sz}{e:TypeId}{p:List α}(hx:jY l xs vs)(h:∀s,eu E X f vs s [] e p)(k:∀m m' a c,iY L m->m<=m'->K (.slice a p.length c) (.aQ (.slice a p.length c) e sz (ai (sz:=sz) p)::L) m m' (mV [] [] m m') (mW [] m m')):WC E X Γ l f xs ts L K:=
 WO.Lw hx (λs _=>⟨(λb hb=>by cases hb),h s⟩) k
theorem WO.aep {a:aS}{n sz:Nat}{cs:aY}(hx:jY l xs vs)(hh:kr Γ L a n sz cs)(h:∀s,bM s a n sz cs->l7 E X f vs s (aj a) r)(k:∀m m',iY L m->m<=m'->K r L m m' (mV (aj a) [] m m') (mW [] m m')):WC E X Γ l f xs ts L K:=
 WO.nu hx (λs hi=>⟨(hh.row hi).2,h s (hh.row hi).1⟩) k
theorem WO.aeq {a:aS}{n Q0:Nat}{cs:aY}{α:Type}{sz:Nat}{enc:aq α sz}{e:TypeId}{p:List α}(hx:jY l xs vs)(hh:kr Γ L a n Q0 cs)(h:∀s,bM s a n Q0 cs->eu E X f vs s (aj a) e p)(k:∀m m' a' c,iY L m->m<=m'->K (.slice a' p.length c) (.aQ (.slice a' p.length c) e sz (ai (sz:=sz) p)::L) m m' (mV (aj a) [] m m') (mW [] m m')):WC E X Γ l f xs ts L K:=
 WO.Lw hx (λs hi=>⟨(hh.row hi).2,h s (hh.row hi).1⟩) k
theorem Rd.of {s:St}{a:aS}{n sz:Nat}{cs:aY}{A:List Nat}(h:bM s a n sz cs)(hA:∀b∈aj a,b∈A):Rd ⟨s,([]:dy).flatMap It.cr,A⟩ a n sz cs:=⟨h,hA,λ_ _ h=>by cases h⟩
theorem Lx {n n' mask:Nat}{seen:List Sn}{P:Prop}(h:P):kY n mask (λi=>i∈([]:List Nat)\/i∈([]:dy).flatMap It.cr\/(n<=i/\i<n')) (λi=>i∈([]:dy).flatMap It.cr\/(n<=i/\i<n')) seen/\P:=by
 refine⟨?_,h⟩;induction seen with
 |nil=>trivial
 |cons x l ih=>exact⟨.inr ⟨λb h1 _ h2=>by simp at h2;omega,λb h1 _ h2=>by simp at h2;omega⟩,ih⟩
section
variable {t:Bool}
theorem W.ahj (hx:Ev l x (.bool t))(ht:t=true)(h:W E X Γ a l L Q):W E X Γ (.cond x a b) l L Q:=W.cond hx (λ_=>h) (λh'=>by rw[ht] at h';cases h')
theorem W.ahk (hx:Ev l x (.bool t))(ht:t=false)(h:W E X Γ b l L Q):W E X Γ (.cond x a b) l L Q:=W.cond hx (λh'=>by rw[ht] at h';cases h') (λ_=>h)
theorem WO.akX {y:Operand}{t t2:TypeId}{K:KO}{a b:Bool}[h:WB E t](hx:Ev l x (.bool a))(hy:Ev l y (.bool b))(k:∀n,K (.bool (a== b)) L n n Z Z):WO E X Γ l (.binOp .eql t x y t2) L K:=WO.bin hx hy (λcc=>by
 show ob (gX E t) (λd=>Ai .eql (Z2 E d (.bool a) (.bool b)))=_;rw[h.h];rfl) k
theorem WO.akY {y:Operand}{t t2:TypeId}{K:KO}{a b:Bool}[h:WB E t](hx:Ev l x (.bool a))(hy:Ev l y (.bool b))(k:∀n,K (.bool (a != b)) L n n Z Z):WO E X Γ l (.binOp .neq t x y t2) L K:=WO.bin hx hy (λcc=>by
 show ob (gX E t) (λd=>Ai .neq (Z2 E d (.bool a) (.bool b)))=_;rw[h.h];rfl) k
theorem Jn {t:TypeId}{xs:aY}{ks:List Nat}:∀{l:List (TypeId×List Nat)},(t,ks)∈l->eV xs ks=true->yG t xs l=true
 |p::l,h,hk=>by
  show bo (bo (Nat.beq t p.1) (eV xs p.2) false) true (yG t xs l)=true;rcases bH.1 h with h|h
  .subst h;rw[ja,hk];rfl
  .rw[Jn h hk];cases bo (Nat.beq t p.1) (eV xs p.2) false<;>rfl
theorem WO.ahl {y:Operand}{t t2:TypeId}{K:KO}{xs ys:aY}{ks:List Nat}[h:TEq E t ks]{r:Bool}(hx:Ev l x (.agg ⟨xs⟩))(hy:Ev l y (.agg ⟨ys⟩))(hk:eV xs ks=true)(hr:fP xs ys=some r)(k:∀n,K (.bool r) L n n Z Z):WO E X Γ l (.binOp .eql t x y t2) L K:=WO.bin hx hy (λcc=>by
 show dN (yG t xs E.eqs) (Ai .eql (fP xs ys))=_;rw[Jn h.h hk,ep,hr];rfl) k
theorem WO.aer {y:Operand}{t t2:TypeId}{K:KO}{xs ys:aY}{ks:List Nat}[h:TEq E t ks]{r:Bool}(hx:Ev l x (.agg ⟨xs⟩))(hy:Ev l y (.agg ⟨ys⟩))(hk:eV xs ks=true)(hr:fP xs ys=some r)(k:∀n,K (.bool !r) L n n Z Z):WO E X Γ l (.binOp .neq t x y t2) L K:=WO.bin hx hy (λcc=>by
 show dN (yG t xs E.eqs) (Ai .neq (fP xs ys))=_;rw[Jn h.h hk,ep,hr];rfl) k
end
theorem AD {n:Int}(h:0<=n/\n<=255):IntKind.wrap .u8 n=n:=by refine' zaP
section
variable {a b:Int}
theorem WO.akZ (hx:Ev l x (.int .u8 a))(hy:Ev l y (.int .u8 b))(hf:0<=a-b/\a-b<=255)(h:∀n,K (.int .u8 (a-b)) L n n Z Z):WO E X Γ l (.binOp .sub t x y t2) L K:=WO.bin hx hy (λcc=>by
 show some (Value.int .u8 (qf .u8 (a-b)))=_;rw[jR,AD hf]) h
end
def Q7 (id:Nat)(Q:B9)(I WQ:Kn->dy->Prop):B9
 |.normal,l,L=>I l L
 |.exit i,l,L=>if i=id then WQ l L else pk id Q (.exit i) l L
 |.ret,l,L=>pk id Q .ret l L
theorem gS (h:I l L):Q7 id Q I WQ .normal l L:=h
theorem kg (h:pk id Q .ret l L):Q7 id Q I WQ .ret l L:=h
theorem OY (h:WQ l L):Q7 id Q I WQ (.exit id) l L:=by
 show if id=id then WQ l L else pk id Q (.exit id) l L
 rw[if_pos rfl];exact h
theorem W.bK (I:Nat->Kn->dy->Prop)(WQ:Kn->dy->Prop)(k:Nat)(h0:I k l L)(step:∀k l L,I k l L->W E X Γ a l L (Q7 id Q (λl L=>∃j,j<k/\I j l L) WQ))(h:∀l L,WQ l L->Q .normal l L):W E X Γ (.loop a) l L (pk id Q):=
 W.loop I k h0 λk l L hI=>(step k l L hI).mono λe l L hq=>by
   cases e with
   |normal=>exact hq
   |ret=>exact hq
   |exit i=>
    show pk id Q (.exit i) l L;(have hq:if i=id then WQ l L else pk id Q (.exit i) l L:=hq);by_cases hi:i=id
    .subst hi;rw[if_pos rfl] at hq;exact BC (h l L hq)
    .rw[if_neg hi] at hq;exact hq
theorem WO.ahm {E:iq}{X:fY}{Γ:qN}{l:Kn}{L:dy}{K:KO}{x:Operand}{t t2:TypeId}{n:Int}[h1:xG E t .i64][h2:xG E t2 .u8](hx:Ev l x (iv n))(hn:0<=n/\n<=255)(h:∀i,K (bv (UInt8.ofNat n.toNat)) L i i Z Z):WO E X Γ l (.convert t t2 x) L K:=by
 refine WO.conv (h1:=h1) (h2:=h2) (k:=.i64) hx (AD hn) λi=>?_
 have:=h i;unfold bv at this;have h3:(((UInt8.ofNat n.toNat).toNat:Nat):Int)=n:=by
  rw[UInt8.toNat_ofNat_of_lt' (by show _<256;omega)];omega
 rw[h3] at this;exact this
noncomputable def Q8 (bP:Nat->Option (Nat×Nat)):List (Nat×Value)->aY->Option (aY)
 |[],cells=>some cells
 |(i,v)::l,cells=>match bP i with
  |none=>none
  |some (o,n)=>match Nat.beq (dX (bZ v)) n with
   |false=>none
   |true=>match eF o (bZ v) cells with
    |none=>none
    |some cs=>Q8 bP l cs
termination_by structural l=>l
theorem Ly (bP:Nat->Option (Nat×Nat)):∀(l:List (Nat×Value))(cells:aY),sa bP l cells=Q8 bP l cells
 |[],cells=>rfl
 |(i,v)::l,cells=>by
  show ob (bP i) (λq=>dN (Nat.beq (dX (bZ v)) q.2)<| ob (eF q.1 (bZ v) cells) λcs=>sa bP l cs)=_;unfold Q8;cases bP i with
  |none=>rfl
  |some q=>
   obtain⟨o,n⟩:=q;simp only[bu];cases Nat.beq (dX (bZ v)) n with
   |false=>rfl
   |true=>
    rw[ep];cases eF o (bZ v) cells with
    |none=>rfl
    |some cs=>exact Ly bP l cs
theorem WO.aes {E:iq}{X:fY}{Γ:qN}{l:Kn}{L:dy}{K:KO}{t:TypeId}{cs:aY}{ps:List (Nat×Operand)}{vs:List (Nat×Value)}{pl:List (Nat×Nat)}{z:aY}[ht:mv E t pl z](hp:WH l ps vs)(hf:Q8 (jc pl) vs z=some cs)(k:∀n,K (.agg ⟨cs⟩) L n n Z Z):WO E X Γ l (.build t ⟨ps⟩) L K:=WO.build hp (by rw[Ly];exact hf) k
abbrev jF {α:Type}{sz:Nat}[aq α sz](E:iq)(X:fY)(f:FuncId)(vs:aY)(s:St)(A:List Nat)(e:TypeId)(p:List α)(b:Bool):Prop:=fA E X f vs s [] A λv L=>∃a k,v= .tuple ⟨[.slice a p.length k,.bool b]⟩/\L=[.aQ (.slice a p.length k) e sz (ai (sz:=sz) p)]
theorem WO.WT {α:Type}{sz:Nat}{enc:aq α sz}{e:TypeId}{p:List α}{b:Bool}(hx:jY l xs vs)(h:∀s,Inv Γ s L->(∀b∈A,Ca Γ s b)/\jF E X f vs s A e p b)(k:∀m m' a c,iY L m->m<=m'->K (.tuple ⟨[.slice a p.length c,.bool b]⟩) (.aQ (.slice a p.length c) e sz (ai (sz:=sz) p)::L) m m' (mV A [] m m') (mW [] m m')):WC E X Γ l f xs ts L K:=
 WO.call (Lm:=[]) (R:=L) hx (.refl _) (λs hi=>(h s hi).1) (λs hi=>(h s hi).2) (by rintro v L' m m' ho hm ⟨a,c,rfl,rfl⟩;exact k m m' a c ho hm)
theorem WO.tM {α:Type}{sz:Nat}{enc:aq α sz}{e:TypeId}{p:List α}{b:Bool}(hx:jY l xs vs)(h:∀s,jF E X f vs s [] e p b)(k:∀m m' a c,iY L m->m<=m'->K (.tuple ⟨[.slice a p.length c,.bool b]⟩) (.aQ (.slice a p.length c) e sz (ai (sz:=sz) p)::L) m m' (mV [] [] m m') (mW [] m m')):WC E X Γ l f xs ts L K:=
 WO.WT hx (λs _=>⟨(λb hb=>by cases hb),h s⟩) k
section
variable {x:Ex}{a:aS}{k:Nat}{p q:List α}{b:Bool}
theorem ak0 (hx:x= .normal\/x= .ret)(hr:qO E l L rs [.slice a q.length k])(hL:cx [.aQ (.slice a q.length k) e sz (ai (sz:=sz) q)] L)(h:p=q):wK E rs (λv L=>∃a k,v= .slice a p.length k/\L=[.aQ v e sz (ai (sz:=sz) p)]) x l L:=by subst h;exact⟨hx,_,_,hr,hL,a,k,rfl,rfl⟩
theorem Hd (hx:x= .normal\/x= .ret)(hr:qO E l L rs [.slice a q.length k,.bool b'])(hL:cx [.aQ (.slice a q.length k) e sz (ai (sz:=sz) q)] L)(h:p=q)(hb:b=b'):wK E rs (λv L=>∃a k,v= .tuple ⟨[.slice a p.length k,.bool b]⟩/\L=[.aQ (.slice a p.length k) e sz (ai (sz:=sz) p)]) x l L:=by subst h;subst hb;exact⟨hx,_,_,hr,hL,a,k,rfl,rfl⟩
end
theorem Rd.lt {Γ:qN}{a:aS}{n sz:Nat}{cs:aY}(h:Rd Γ a n sz cs):∀b∈aj a,b<Γ.s0.next:=λb hb=>by
 rcases h.row.2 with⟨_,rfl|⟨b',o,q,rfl,h1⟩⟩|⟨b',o,c,e,w,rfl,h1,_⟩
 .cases hb
 .have:b=b':=by simpa[aj] using hb
  subst this;exact h1
 .have:b=b':=by simpa[aj] using hb
  subst this;exact h1
theorem tN (a:aS)(n c:Nat):pj (.slice a n c)=aj a:=by cases a<;>rfl
section
variable {o:Operand}
theorem WO.WU [ht:xF E t](hx:Ev l x (sv p))(ho:Ev l o (.int k (i:Int)))(hi:i<=p.length)(h:∀n,K (sv (p.drop i)) L n n Z Z):WO E X Γ l (.slice t x (some o) none none) L K:=
 WO.Jl hx (.inr ⟨o,k,rfl,ho⟩) (.inl ⟨rfl,rfl⟩) hi (cC _) (by rw[rT ay];exact h)
theorem WO.WV [ht:xF E t](hx:Ev l x (sv p))(ho:Ev l o (.int k (j:Int)))(hj:j<=p.length)(h:∀n,K (sv (p.take j)) L n n Z Z):WO E X Γ l (.slice t x none (some o) none) L K:=
 WO.Jl (i:=0) hx (.inl ⟨rfl,rfl⟩) (.inr ⟨o,k,rfl,ho⟩) (iK _) hj (by rw[IG,Nat.sub_zero];exact h)
end
section
variable {K:Kn->dy->Prop}
theorem ak1 (hd:mB aG j=some dj)(hl:lk l dj=some (.tuple ⟨[]⟩))(h2:WS E X Γ aG aE ((d,.tuple ⟨[]⟩)::l) L K):WS E X Γ aG (⟨some d,op,ty,pos,after,some (j,w)⟩::aE) l L K:=WS.pass rfl (.undef hd hl) h2
theorem ak2 (hd:mB aG j=some dj)(hl:lk l dj=some (.tuple ⟨[]⟩))(h2:WD E X Γ aG aE (i+1) seen nx ((d,.tuple ⟨[]⟩)::l) L K):WD E X Γ aG (⟨some d,op,ty,pos,after,some (j,w)⟩::aE) i seen nx l L K:=WD.pass rfl (.undef hd hl) h2
end
theorem WO.xI {E:iq}{X:fY}{Γ:qN}{l:Kn}{L:dy}{K:KO}{x:Operand}{t:TypeId}{a:aS}{n sz:Nat}{α:Type}{enc:aq α sz}{p:List α}{i c e:Nat}{k:IntKind}{j:Int}[ht:pC E t e sz](hx:Ev l x (.slice a n c))(hj:j=(i:Int))(hh:kr Γ L a n sz (ai (sz:=sz) p))(hi:i<p.length)(hk:∀n,K (dh a i sz 0) L n n Z Z):WO E X Γ l (.indexAddr t x (.const (.int k j))) L K:=by subst hj;exact WO.indexAddr hx .const hh hi hk
section
variable {o:Operand}{j:Int}
theorem om (h:Ev l y (.int k j))(hj:0<=j):Ev l y (.int k ((j.toNat:Nat):Int)):=by rw[Bg hj];exact h
theorem WO.aet [ht:xF E t](hx:Ev l x (sv p))(hy:Ev l y (.int k j))(hj:0<=j/\j<p.length)(h:∀n,K (bv (p.getD j.toNat 0)) L n n Z Z):WO E X Γ l (.index t x y) L K:=WO.index hx (om hy hj.1) af h
theorem WO.aaQ [ht:xF E t](hx:Ev l x (sv p))(ho:Ev l o (.int k j))(hj:0<=j/\j<=p.length)(h:∀n,K (sv (p.drop j.toNat)) L n n Z Z):WO E X Γ l (.slice t x (some o) none none) L K:=WO.WU hx (om ho hj.1) af h
theorem WO.aaR [ht:xF E t](hx:Ev l x (sv p))(ho:Ev l o (.int k j))(hj:0<=j/\j<=p.length)(h:∀n,K (sv (p.take j.toNat)) L n n Z Z):WO E X Γ l (.slice t x none (some o) none) L K:=WO.WV hx (om ho hj.1) af h
theorem WO.aaS [ht:xF E t](hx:Ev l x (sv p))(ho:Ev l o (.int k j))(Bt:Ev l o' (.int k' j'))(hj:0<=j/\j<=j'/\j'<=p.length)(h:∀n,K (sv ((p.drop j.toNat).take (j'.toNat-j.toNat))) L n n Z Z):WO E X Γ l (.slice t x (some o) (some o') none) L K:=WO.Jl hx (.inr ⟨o,k,rfl,om ho hj.1⟩) (.inr ⟨o',k',rfl,om Bt af⟩) af af h
theorem WO.OZ {a:aS}{n sz:Nat}{α:Type}{enc:aq α sz}{q:List α}{c e:Nat}[ht:pC E t e sz](hx:Ev l x (.slice a n c))(hy:Ev l y (.int k j))(hh:kr Γ L a n sz (ai (sz:=sz) q))(hi:0<=j/\j<q.length)(hk:∀n,K (dh a j.toNat sz 0) L n n Z Z):WO E X Γ l (.indexAddr t x y) L K:=WO.indexAddr hx (om hy hi.1) hh af hk
end
class TD (E:iq)(t:TypeId)(sz:Nat)(α:Type)(enc:aq α sz)(d:outParam α):Prop where
 h:∃e z,rK E t e sz z/\aq.cells (sz:=sz) d=z
theorem WO.make {d:α}{j:Int}{e:Nat}{k1 k2:IntKind}[ht:TT E t e sz α enc][hd:TD E t sz α enc d](hx:Ev l x (.int k1 j))(hy:Ev l y (.int k2 j))(hm:0<=j/\j<=1000000)
  (k:∀b c,iY L b->K (.slice (some ⟨b,0,none⟩) (List.replicate j.toNat d).length c) (.aQ (.slice (some ⟨b,0,none⟩) (List.replicate j.toNat d).length c) e sz (ai (sz:=sz) (List.replicate j.toNat d))::L) b (b+1) (λi=>i=b) (λi=>i=b)):WO E X Γ l (.makeSlice t x y) L K:=by
 refine WO.ahi (m:=j.toNat) (d:=d) (λz hz=>?_) (om hx hm.1) (om hy hm.1) af k;obtain⟨e',z',h1,h2⟩:=hd.h;obtain⟨h3,i,v,h4,_,h5,h6,_⟩:=h1.h;obtain⟨Te,i',v',h4',_,h5',h6',_⟩:=hz.h;have he:e'=e:=by
  have:=h3.symm.trans Te;injection this with this
  injection this
 subst he;rw[h4] at h4';cases h4';rw[h5] at h5';cases h5';rw[h2,<-h6,h6']
variable {a' a0:aS}{c0:Nat}{p0:List α}
theorem pV (a b:UInt8):(a<b)↔a.toNat<b.toNat:=Sp
theorem qB:∀p q:List UInt8,(!(Op.bytesLess p q||decide (p=q)))=Op.bytesLess q p
 |[],[]=>by simp[Op.bytesLess]
 |[],_::_=>by simp[Op.bytesLess]
 |_::_,[]=>by simp[Op.bytesLess]
 |a::p,b::q=>by
  have ih:=qB p q;have hd:decide (a::p=b::q)=(decide (a=b)&&decide (p=q)):=by
   by_cases h1:a=b<;>by_cases h2:p=q<;>simp[h1,h2]
  rw[hd];show(!((decide (a<b)||(a== b&&Op.bytesLess p q))||(decide (a=b)&&decide (p=q))))=(decide (b<a)||(b== a&&Op.bytesLess q p));rw[<-ih];by_cases h:a=b
  .subst h;have:¬(a<a):=by rw[pV];omega
   simp[this]
  .have h':¬b=a:=λe=>h e.symm
   (have gh:a.toNat≠b.toNat:=λe=>h (sW.1 e));(have h1:(a== b)=false:=by simpa using h);(have h2:(b== a)=false:=by simpa using h');by_cases h3:a<b
   .have:¬b<a:=by rw[pV] at *;omega
    simp[h,h1,h2,h3,this]
   .have:b<a:=by rw[pV] at *;omega
    simp[h,h1,h2,h3,this]
section
variable {a:aS}
theorem WO.ak3 (hx:Ev l x (sv p))(hy:Ev l y (sv q))(h:∀n,K (.bool (Op.bytesLess q p)) L n n Z Z):WO E X Γ l (.binOp .gtr t x y t2) L K:=WO.bin hx hy (λcc=>by
 show some (Value.bool (!(bo (oD p q) true (gz p q))))=_;rw[tj,eQ,<-qB p q];have:∀a b:Bool,bo a true b=(a||b):=by intro a b;cases a<;>rfl
 rw[this]
 congr 4
 rw[pd];simp) h
end
def Vi (a:aS)(k:Nat):aS:=match a with
 |some ⟨b,o,none⟩=>some ⟨b,o+k,none⟩
 |a=>a
structure DI (sz:Nat)(a:aS)(i n:Nat)(a':aS):Prop where
 h:a'=Vi a (i*sz)\/(n=0/\(a'=a\/∃b o o' r,a=some ⟨b,o,none⟩/\a'=some ⟨b,o',some r⟩))
structure Sub {α:Type}(sz:Nat)(a:aS)(p:List α)(a':aS)(q:List α):Prop where
 h:∃i n,q=(p.drop i).take n/\i+n<=p.length/\DI sz a i n a'
theorem aaT {a:aS}{k:Nat}:aj (Vi a k)=aj a:=by unfold Vi;split<;>rfl
theorem DI.cr {sz i n:Nat}{a a':aS}(h:DI sz a i n a'):aj a'=aj a:=by
 rcases h.h with rfl|⟨_,rfl|⟨b,o,o',r,rfl,rfl⟩⟩
 .exact aaT
 .rfl
 .rfl
section
variable {p q:List α}{a:aS}
theorem Sub.cr (h:Sub sz a p a' q):aj a'=aj a:=by obtain⟨_,_,_,_,h⟩:=h.h;exact h.cr
theorem bM.sub (h:bM s a p.length sz (ai (sz:=sz) p))(hs:Sub sz a p a' q):bM s a' q.length sz (ai (sz:=sz) q):=by
 obtain⟨i,n,rfl,IV,hs⟩:=hs.h;refine⟨aR _,?_⟩;have cX:((p.drop i).take n).length=n:=by rw[cO,eP];omega
 rcases hs.h with rfl|⟨rfl,rfl|⟨b,o,o',r,rfl,rfl⟩⟩
 .rcases h.2 with⟨h0,rfl|⟨b,o,r,rfl,hb⟩⟩|⟨b,o,c,e,w,rfl,h1,h2,h3⟩
  .exact .inl ⟨af,.inl rfl⟩
  .exact .inl ⟨af,.inr ⟨b,o,r,rfl,hb⟩⟩
  .refine .inr ⟨b,o+i*sz,c,e,w,rfl,h1,h2,?_⟩;rw[cX,<-pU,<-vV,<-h3,List.drop_take,Oj,mA]
   congr 1
   (have:n*sz<=p.length*sz-i*sz:=by rw[<-Nat.sub_mul];exact wE _ af);omega
 .rcases h.2 with⟨h0,h1⟩|⟨b,o,c,e,w,rfl,h1,h2,h3⟩
  .exact .inl ⟨ay,h1⟩
  .exact .inr ⟨b,o,c,e,w,rfl,h1,h2,by simp[ai]⟩
 .refine .inl ⟨ay,.inr ⟨b,o',r,rfl,?_⟩⟩;rcases h.2 with⟨h0,h1|⟨b,o,r,h1,hb⟩⟩|⟨b,o,c,e,w,h1,h2,h3,h4⟩
  .cases h1
  .cases h1
  .cases h1;exact h2
end
def w6 (s:St)(a:aS)(n c e sz:Nat):Prop:=(a=none/\n=0/\c=0)\/∃b o cs w,a=some ⟨b,o,none⟩/\b<s.next/\s.heap.get b=some (.cells cs e w)/\((n<=c/\c<dS)\/(w=true/\dS<=c/\o=(c-dS)*sz/\o+n*sz<=cs.length))
theorem mu.slv {s:St}{a:aS}{n c e sz:Nat}{cs:aY}(h:mu s (.slice a n c) e sz cs)(hb:∀b∈aj a,b<s.next):w6 s a n c e sz:=by
 rcases h with⟨h1,rfl⟩|⟨b,m,k,w,aE,h1,h2,h3,h4⟩
 .cases h1;exact .inl ⟨rfl,rfl,rfl⟩
 .cases h1
  refine .inr ⟨b,0,cs++aE,w,rfl,hb b (by simp[aj]),h2,?_⟩;rcases h4 with⟨h4,h5,_⟩|⟨rfl,h4⟩
  .exact .inl ⟨h4,h5⟩
  .exact .inr ⟨h4,cC _,ay,by rw[bn,h3];omega⟩
section
variable {o:Operand}{a:aS}{c:Nat}{p:List α}
structure WW (l:Kn)(len:Nat)(lo hi:Option Operand)(i j:Nat):Prop where
 lo:(lo=none/\i=0)\/∃o k,lo=some o/\Ev l o (.int k (i:Int))
 hi:(hi=none/\j=len)\/∃o k,hi=some o/\Ev l o (.int k (j:Int))
 h:i<=j/\j<=len
theorem pW {β:Type}{tm:Tm}{lo hi:Option Operand}{i j len cap:Nat}(h:WW l len lo hi i j)(hl:mU l tm)(hc:len<=cap)(k:Nat->Nat->Nat->Option β):bounds len cap (dB (aO tm) lo) (dB (aO tm) hi) none k=k i j cap:=by
 have h1:hiV len cap (dB (aO tm) hi) none=some j:=by
  rcases h.hi with⟨rfl,rfl⟩|⟨o,k,rfl,ho⟩
  .rfl
  .show pG (aO tm o) cap=_;rw[ho.eval hl];show bo (Nat.ble j cap) (some j) none=_;rw[gb (by have:=h.h;omega)];rfl
 have h2:Sv (dB (aO tm) lo) j 0=some i:=by
  rcases h.lo with⟨rfl,rfl⟩|⟨o,k,rfl,ho⟩
  .rfl
  .show pG (aO tm o) j=_;rw[ho.eval hl];show bo (Nat.ble i j) (some i) none=_;rw[gb h.h.1];rfl
 show ob (some cap) (λm=>ob (hiV len m (dB (aO tm) hi) none) λh=>ob (Sv (dB (aO tm) lo) h 0) λl=>k l h m)=_;simp only[bu,h1,h2]
theorem Lz {tm:Tm}{lo hi:Option Operand}{i j len:Nat}(h:WW l len lo hi i j)(hl:mU l tm)(hz:nX (dB (aO tm) lo) (dB (aO tm) hi) none=true):i=0/\j=0:=by
 obtain⟨h1,h2,h3,_⟩:=h;rcases h1 with⟨rfl,rfl⟩|⟨o,k,rfl,ho⟩
 .rcases h2 with⟨rfl,rfl⟩|⟨o,k,rfl,ho⟩
  .cases hz
  .simp only[dB,ho.eval hl] at hz;cases j with
   |zero=>exact⟨rfl,rfl⟩
   |succ j=>cases hz
 .exact absurd hz (by show ¬(nX (some _) _ _=true);simp[nX])
theorem CA [ht:TT E t e sz α enc]{tm:Tm}{lo hi:Option Operand}{i j:Nat}(h:WW l n lo hi i j)(hl:mU l tm)(hv:w6 s a n c e sz):
  ∃a' c' s',kH E s t (.slice a n c) (dB (aO tm) lo) (dB (aO tm) hi) none=some (.slice a' (j-i) c',s')/\(s'=s\/∃b∈aj a,s'=s.aU b)/\DI sz a i (j-i) a'/\(0<j-i->a'=Vi a (i*sz)/\((c<dS/\c'=c-i)\/(dS<=c/\c'=c+i))):=by
 obtain⟨z,hr,_⟩:=ht.h;obtain⟨hu,ii,z1,Kv,tp,hi3,N9,hi5,hi6,hi7⟩:=hr.h;have iX:size E e=some sz:=by unfold size;rw[Kv];simp[tp]
 have lQ:=h.h;have DJ:∀a,n<=c->eh sz a n c (dB (aO tm) lo) (dB (aO tm) hi) none=some (.slice (bo (Nat.beq c i) a (rZ a (Nat.mul i sz))) (j-i) (c-i)):=λa hc=>by
  unfold eh;rw[pW h hl hc];rfl
 have Jd:∀a,(a=none\/∃b o,a=some ⟨b,o,none⟩)->n<=c->DI sz a i (j-i) (bo (Nat.beq c i) a (rZ a (Nat.mul i sz))):=λa ha hc=>by
  cases hci:Nat.beq c i with
  |true=>
   have:c=i:=nV hci;exact⟨.inr ⟨af,.inl rfl⟩⟩
  |false=>
   refine⟨.inl ?_⟩;show rZ a (Nat.mul i sz)=_;rcases ha with rfl|⟨b,o,rfl⟩
   .rfl
   .show bo (Nat.beq (i*sz) 0) (some (⟨b,o,none⟩:Addr)) (some (⟨b,o+i*sz,none⟩:Addr))=some (⟨b,o+i*sz,none⟩:Addr);cases hb:Nat.beq (i*sz) 0 with
    |true=>have:i*sz=0:=nV hb
           rw[this];rfl
    |false=>rfl
 have hnz:∀a,(a=none\/∃b o,a=some ⟨b,o,none⟩)->n<=c->0<j-i->bo (Nat.beq c i) a (rZ a (Nat.mul i sz))=Vi a (i*sz):=λa ha hc h0=>by
  cases hci:Nat.beq c i with
  |true=>
   have:c=i:=nV hci;omega
  |false=>
   show rZ a (Nat.mul i sz)=_;rcases ha with rfl|⟨b,o,rfl⟩
   .rfl
   .show bo (Nat.beq (i*sz) 0) (some (⟨b,o,none⟩:Addr)) (some (⟨b,o+i*sz,none⟩:Addr))=some (⟨b,o+i*sz,none⟩:Addr);cases hb:Nat.beq (i*sz) 0 with
    |true=>have:i*sz=0:=nV hb
           rw[this];rfl
    |false=>rfl
 unfold kH;rw[hu];show ∃a' c' s',dN (II a) (ob (size E e) λsz=>bo (Nat.ble dS c) (bo (nX (dB (aO tm) lo) (dB (aO tm) hi) none) (nY a c s) (iC e sz a n c (dB (aO tm) lo) (dB (aO tm) hi) none s)) (ob (eh sz a n c (dB (aO tm) lo) (dB (aO tm) hi) none) λv=>aM v s))=_/\_;rw[iX];rcases hv with⟨rfl,rfl,rfl⟩|⟨b,o,cs,w,rfl,hb,hg,⟨hc,hu⟩|⟨rfl,hu,ho,cX⟩⟩
 .refine⟨bo (Nat.beq 0 i) none (rZ none (Nat.mul i sz)),0-i,s,?_,.inl rfl,Jd none (.inl rfl) (cC _),λh0=>by omega⟩;show(ob (eh sz none 0 0 _ _ none) λv=>aM v s)=_;rw[DJ none (cC _)];rfl
 .refine⟨bo (Nat.beq c i) (some ⟨b,o,none⟩) (rZ (some ⟨b,o,none⟩) (Nat.mul i sz)),c-i,s,?_,.inl rfl,Jd _ (.inr ⟨b,o,rfl⟩) hc,λh0=>⟨hnz _ (.inr ⟨b,o,rfl⟩) hc h0,.inl ⟨hu,rfl⟩⟩⟩;rw[show Nat.ble dS c=false from by rw[<-na,pe];omega];show(ob (eh sz (some ⟨b,o,none⟩) n c _ _ none) λv=>aM v s)=_;rw[DJ _ hc];rfl
 .rw[gb hu];show ∃a' c' s',bo (nX (dB (aO tm) lo) (dB (aO tm) hi) none) (nY (some ⟨b,o,none⟩) c s) (iC e sz (some ⟨b,o,none⟩) n c (dB (aO tm) lo) (dB (aO tm) hi) none s)=_/\_;cases hz:nX (dB (aO tm) lo) (dB (aO tm) hi) none with
  |true=>
   obtain⟨rfl,rfl⟩:=Lz h hl hz;exact⟨some ⟨b,o,none⟩,c,s,rfl,.inl rfl,DI.mk (.inr ⟨rfl,.inl rfl⟩),λh0=>absurd h0 af⟩
  |false=>
   show ∃a' c' s',iC e sz (some ⟨b,o,none⟩) n c (dB (aO tm) lo) (dB (aO tm) hi) none s=_/\_;have oc:iC e sz (some ⟨b,o,none⟩) n c (dB (aO tm) lo) (dB (aO tm) hi) none s=bo (Nat.beq i 0||Nat.ble (Nat.succ i) j) (aM (.slice (some ⟨b,o+i*sz,none⟩) (j-i) (c+i)) (s.aU b)) (aM (.slice (some ⟨b,o+i*sz,some o⟩) 0 (c+i)) (s.aU b)):=by
    unfold iC;show s.row b (λc' e' w s=>dN (bo w true (Nat.beq sz 1)&&Nat.beq e' e&&Nat.beq o (Nat.mul (Nat.sub c dS) sz)&&Nat.ble (Nat.add o (Nat.mul n sz)) (dX c')) (bounds n n (dB (aO tm) lo) (dB (aO tm) hi) none λl h _=>_))=_;unfold St.row St.look;rw[hg];simp only[bu];rw[show Nat.mul (Nat.sub c dS) sz=o from ho.symm,ja,ja,c8,gb (show Nat.add o (Nat.mul n sz)<=cs.length from cX)];show bounds n n _ _ none _=_;rw[pW h hl (cC _)];rfl
   rw[oc];cases nI:(Nat.beq i 0||Nat.ble (Nat.succ i) j) with
   |true=>exact⟨some ⟨b,o+i*sz,none⟩,c+i,s.aU b,rfl,.inr ⟨b,by simp[aj],rfl⟩,DI.mk (.inl rfl),λ_=>⟨rfl,.inr ⟨hu,rfl⟩⟩⟩
   |false=>
    have h0:j-i=0:=by
     have h1:Nat.ble (Nat.succ i) j=false:=by
      cases hh:Nat.ble (Nat.succ i) j with
      |true=>rw[hh,Bool.or_true] at nI;cases nI
      |false=>rfl
     (have h2:¬i+1<=j:=λh=>by rw[gb (show Nat.succ i<=j from h)] at h1;cases h1);omega
    rw[h0];exact⟨some ⟨b,o+i*sz,some o⟩,c+i,s.aU b,rfl,.inr ⟨b,by simp[aj],rfl⟩,DI.mk (.inr ⟨rfl,.inr ⟨b,o,_,_,rfl,rfl⟩⟩),λh0=>absurd h0 af⟩
end
structure Part (e sz:Nat)(a:aS)(n c:Nat)(a':aS)(n' c':Nat):Prop where
 h:0<n'->∀s,w6 s a n c e sz->w6 s a' n' c' e sz
theorem Part.refl {e sz:Nat}{a:aS}{n c:Nat}:Part e sz a n c a n c:=⟨λ_ _ h=>h⟩
theorem Part.of {e sz n c c' i j:Nat}{a a':aS}(nI:i<=j/\j<=n)(h:0<j-i->a'=Vi a (i*sz)/\((c<dS/\c'=c-i)\/(dS<=c/\c'=c+i))):Part e sz a n c a' (j-i) c':=⟨λh0 s hv=>by
 obtain⟨rfl,hc⟩:=h h0;rcases hv with⟨rfl,rfl,rfl⟩|⟨b,o,cs,w,rfl,hb,hg,hr⟩
 .omega
 .refine .inr ⟨b,o+i*sz,cs,w,rfl,hb,hg,?_⟩;rcases hr with⟨h1,h2⟩|⟨h1,h2,h3,h4⟩
  .rcases hc with⟨_,rfl⟩|⟨h3,_⟩
   .exact .inl ⟨af,af⟩
   .omega
  .rcases hc with⟨h5,_⟩|⟨_,rfl⟩
   .omega
   .refine .inr ⟨h1,af,?_,?_⟩
    .rw[h3,show c+i-dS=(c-dS)+i by omega,lU]
    .have:i*sz+(j-i)*sz=j*sz:=by rw[<-lU];congr 1;omega
     have:j*sz<=n*sz:=wE _ nI.2;omega⟩
theorem aaU {a:aS}{i j:Nat}:Vi (Vi a i) j=Vi a (i+j):=by rcases a with _|⟨b,o,_|q⟩<;>simp[Vi,Nat.add_assoc]
theorem Sub.trans {α:Type}{sz:Nat}{p0 p q:List α}{a0 a a':aS}{i n:Nat}(h0:0<p.length)(h:Sub sz a0 p0 a p)(hq:(p.drop i).take n=q)(hn:i+n<=p.length)(h':DI sz a i n a'):Sub sz a0 p0 a' q:=by
 obtain⟨i0,n0,rfl,IV,hs⟩:=h.h;have cX:((p0.drop i0).take n0).length=n0:=by rw[cO,eP];omega
 rw[cX] at h0 hn;have ha:a=Vi a0 (i0*sz):=by
  rcases hs.h with h|⟨h,_⟩
  .exact h
  .omega
 subst ha;have hq':q=(p0.drop (i0+i)).take n:=by
  rw[<-hq,List.drop_take,Oj,mA]
  congr 1;omega
 rcases h'.h with rfl|⟨rfl,rfl|⟨b,o,o',r,h1,rfl⟩⟩
 .exact⟨⟨i0+i,n,hq',af,⟨.inl (by rw[aaU,lU])⟩⟩⟩
 .exact⟨⟨i0,0,by rw[hq'];simp,af,⟨.inl rfl⟩⟩⟩
 .refine⟨⟨i0,0,by rw[hq'];simp,af,⟨.inr ⟨rfl,.inr ?_⟩⟩⟩⟩;rcases a0 with _|⟨b0,o0,_|q0⟩
  .cases h1
  .cases h1;exact⟨_,_,_,_,rfl,rfl⟩
  .cases h1
section
variable {o:Operand}{a:aS}{c:Nat}{p q:List α}{lo hi:Option Operand}{u v:Int}
theorem kr.ak4 (hs:Sub sz a p a' q)(h:It.aQ (.slice a p.length c) e sz (ai (sz:=sz) p)∈L):kr Γ L a' q.length sz (ai (sz:=sz) q):=
 .sub h (λs hr=>hr.sub hs) (by rw[hs.cr];exact λb hb=>hb)
theorem DK (h:i<=j/\j<=p.length):((p.drop i).take (j-i)).length=j-i:=by rw[cO,eP];omega
theorem WO.aeu [ht:TT E t e sz α enc](hx:Ev l x (.slice a p.length c))(hm:It.aQ (.slice a p.length c) e sz (ai (sz:=sz) p)∈L)(hb:WW l p.length lo hi i j)(hq:(p.drop i).take (j-i)=q)
  (h:∀m a' c',Sub sz a p a' q->Part e sz a p.length c a' q.length c'->K (.slice a' q.length c') L m m (λb=>b∈aj a) Z):WO E X Γ l (.slice t x lo hi none) L K:=λtm s hl hi=>by
 have h1:∀b∈aj a,Ca Γ s b:=λb hb=>hi.may hm (by
  cases a with
  |none=>simp[aj] at hb
  |some a=>simpa[It.cr,pj,aj] using hb)
 have hv:=mu.slv (hi.it _ hm) λb hb=>(h1 b hb).1
 obtain⟨a',c',s',h2,h3,h4,h5⟩:=CA (ht:=ht) hb hl hv;have hs:Sub sz a p a' q:=⟨⟨i,j-i,hq.symm,by have:=hb.h;omega,h4⟩⟩;have cX:q.length=j-i:=by rw[<-hq];exact DK hb.h
 have uJ:Part e sz a p.length c a' q.length c':=by rw[cX];exact Part.of hb.h h5
 refine' zaF
 .exact fy.pure og ⟨L,_,Z,hi,kX.id,h _ _ _ hs uJ⟩
 .exact fy.pure og ⟨L,_,Z,hi.aU (h1 b lO),cH (h1 b lO).1 lO,by rw[bQ];exact h _ _ _ hs uJ⟩
theorem WO.ak5 [ht:TT E t e sz α enc](hx:Ev l x (.slice a p.length c))(Tf:0<p.length)(hs0:Sub sz a0 p0 a p)(aaV:Part e sz a0 p0.length c0 a p.length c)(hm:It.aQ (.slice a0 p0.length c0) e sz (ai (sz:=sz) p0)∈L)(hb:WW l p.length lo hi i j)(hq:(p.drop i).take (j-i)=q)
  (h:∀m a' c',Sub sz a0 p0 a' q->Part e sz a0 p0.length c0 a' q.length c'->K (.slice a' q.length c') L m m (λb=>b∈aj a0) Z):WO E X Γ l (.slice t x lo hi none) L K:=λtm s hl hi=>by
 have h1:∀b∈aj a0,Ca Γ s b:=λb hb=>hi.may hm (by
  cases a0 with
  |none=>simp[aj] at hb
  |some a=>simpa[It.cr,pj,aj] using hb)
 have hv:=aaV.h Tf s (mu.slv (hi.it _ hm) λb hb=>(h1 b hb).1);obtain⟨a',c',s',h2,h3,h4,h5⟩:=CA (ht:=ht) hb hl hv;have hs:Sub sz a0 p0 a' q:=Sub.trans Tf hs0 hq (by have:=hb.h;omega) h4;have cX:q.length=j-i:=by rw[<-hq];exact DK hb.h
 have uJ:Part e sz a0 p0.length c0 a' q.length c':=⟨λh0 s hv=>by rw[cX] at h0⊢;exact(Part.of hb.h h5).h h0 s (aaV.h Tf s hv)⟩;have og:∀call:ff,GI E call (aO tm) s (.slice t x lo ‹Option Operand› none)=some (.slice a' q.length c',s'):=λcall=>by
  show kH E s t (aO tm x) _ _ none=_;rw[hx.eval hl,h2,cX]
 rw[hs0.cr] at h3;rcases h3 with rfl|⟨b,lO,rfl⟩
 .exact fy.pure og ⟨L,_,Z,hi,kX.id,h _ _ _ hs uJ⟩
 .exact fy.pure og ⟨L,_,Z,hi.aU (h1 b lO),cH (h1 b lO).1 lO,by rw[bQ];exact h _ _ _ hs uJ⟩
theorem Rd.may {cs:aY}(h:Rd Γ a n sz cs)(hi:Inv Γ s L):∀b∈aj a,Ca Γ s b:=(kr.row (.rd h) hi).2
theorem w6.inv (h:w6 Γ.s0 a n c e sz)(hi:Inv Γ s L)(hM:∀b∈aj a,b∉Γ.M):w6 s a n c e sz:=by
 rcases h with h|⟨b,o,cs,w,rfl,h1,h2,h3⟩
 .exact .inl h
 .have:=hi.le;exact .inr ⟨b,o,cs,w,rfl,af,by rw[hi.fr b h1 (hM b (by simp[aj]))];exact h2,h3⟩
theorem Rd.sub (h:Rd Γ a p.length sz (ai (sz:=sz) p))(hs:Sub sz a p a' q):Rd Γ a' q.length sz (ai (sz:=sz) q):=
 ⟨h.row.sub hs,by rw[hs.cr];exact h.A,by rw[hs.cr];exact h.M⟩
theorem WO.ahn [ht:TT E t e sz α enc](hx:Ev l x (.slice a p.length c))(hm:Rd Γ a p.length sz (ai (sz:=sz) p))(hv:w6 Γ.s0 a p.length c e sz)(hb:WW l p.length lo hi i j)(hq:(p.drop i).take (j-i)=q)
  (h:∀m a' c',Rd Γ a' q.length sz (ai (sz:=sz) q)->K (.slice a' q.length c') L m m (λb=>b∈aj a) Z):WO E X Γ l (.slice t x lo hi none) L K:=λtm s hl hi=>by
 have h1:=hm.may hi;obtain⟨a',c',s',h2,h3,h4,_⟩:=CA (ht:=ht) hb hl (hv.inv hi hm.M);have hs:Sub sz a p a' q:=⟨⟨i,j-i,hq.symm,by have:=hb.h;omega,h4⟩⟩;have cX:q.length=j-i:=by rw[<-hq];exact DK hb.h
 refine' zaF
 .exact fy.pure og ⟨L,_,Z,hi,kX.id,h _ _ _ (hm.sub hs)⟩
 .exact fy.pure og ⟨L,_,Z,hi.aU (h1 b lO),cH (h1 b lO).1 lO,by rw[bQ];exact h _ _ _ (hm.sub hs)⟩
theorem acJ (ho:Ev l o (.int k u))(hj:0<=u/\u<=(n:Int)):WW l n (some o) none u.toNat n:=⟨.inr ⟨o,k,rfl,om ho hj.1⟩,.inl ⟨rfl,rfl⟩,af⟩
theorem Q9 (ho:Ev l o (.int k u))(hj:0<=u/\u<=(n:Int)):WW l n none (some o) 0 u.toNat:=⟨.inl ⟨rfl,rfl⟩,.inr ⟨o,k,rfl,om ho hj.1⟩,af⟩
theorem aho (ho:Ev l o (.int k u))(Bt:Ev l o' (.int k' v))(hj:0<=u/\u<=v/\v<=(n:Int)):WW l n (some o) (some o') u.toNat v.toNat:=⟨.inr ⟨o,k,rfl,om ho hj.1⟩,.inr ⟨o',k',rfl,om Bt af⟩,af⟩
theorem WX:(p.drop i).take (p.length-i)=p.drop i:=rT (by rw[eP];omega)
theorem O0:(p.drop 0).take (j-0)=p.take j:=by simp
theorem WO.ahp [ht:TT E t e sz α enc](hx:Ev l x (.slice a p.length c))(ho:Ev l o (.int k u))(hm:It.aQ (.slice a p.length c) e sz (ai (sz:=sz) p)∈L)(hj:0<=u/\u<=(p.length:Int))
  (h:∀m a' c',Sub sz a p a' (p.drop u.toNat)->Part e sz a p.length c a' (p.drop u.toNat).length c'->K (.slice a' (p.drop u.toNat).length c') L m m (λb=>b∈aj a) Z):WO E X Γ l (.slice t x (some o) none none) L K:=WO.aeu hx hm (acJ ho hj) WX h
theorem WO.ahq [ht:TT E t e sz α enc](hx:Ev l x (.slice a p.length c))(ho:Ev l o (.int k u))(hm:It.aQ (.slice a p.length c) e sz (ai (sz:=sz) p)∈L)(hj:0<=u/\u<=(p.length:Int))
  (h:∀m a' c',Sub sz a p a' (p.take u.toNat)->Part e sz a p.length c a' (p.take u.toNat).length c'->K (.slice a' (p.take u.toNat).length c') L m m (λb=>b∈aj a) Z):WO E X Γ l (.slice t x none (some o) none) L K:=WO.aeu hx hm (Q9 ho hj) O0 h
theorem WO.ahr [ht:TT E t e sz α enc](hx:Ev l x (.slice a p.length c))(ho:Ev l o (.int k u))(Bt:Ev l o' (.int k' v))(hm:It.aQ (.slice a p.length c) e sz (ai (sz:=sz) p)∈L)(hj:0<=u/\u<=v/\v<=(p.length:Int))
  (h:∀m a' c',Sub sz a p a' ((p.drop u.toNat).take (v.toNat-u.toNat))->Part e sz a p.length c a' ((p.drop u.toNat).take (v.toNat-u.toNat)).length c'->K (.slice a' ((p.drop u.toNat).take (v.toNat-u.toNat)).length c') L m m (λb=>b∈aj a) Z):WO E X Γ l (.slice t x (some o) (some o') none) L K:=WO.aeu hx hm (aho ho Bt hj) rfl h
theorem WO.ahs [ht:TT E t e sz α enc](hx:Ev l x (.slice a p.length c))(ho:Ev l o (.int k u))(hs0:Sub sz a0 p0 a p)(aaV:Part e sz a0 p0.length c0 a p.length c)(hm:It.aQ (.slice a0 p0.length c0) e sz (ai (sz:=sz) p0)∈L)(Tf:0<p.length)(hj:0<=u/\u<=(p.length:Int))
  (h:∀m a' c',Sub sz a0 p0 a' (p.take u.toNat)->Part e sz a0 p0.length c0 a' (p.take u.toNat).length c'->K (.slice a' (p.take u.toNat).length c') L m m (λb=>b∈aj a0) Z):WO E X Γ l (.slice t x none (some o) none) L K:=WO.ak5 hx Tf hs0 aaV hm (Q9 ho hj) O0 h
theorem WO.aht [ht:TT E t e sz α enc](hx:Ev l x (.slice a p.length c))(ho:Ev l o (.int k u))(hm:Rd Γ a p.length sz (ai (sz:=sz) p))(hv:w6 Γ.s0 a p.length c e sz)(hj:0<=u/\u<=(p.length:Int))
  (h:∀m a' c',Rd Γ a' (p.drop u.toNat).length sz (ai (sz:=sz) (p.drop u.toNat))->K (.slice a' (p.drop u.toNat).length c') L m m (λb=>b∈aj a) Z):WO E X Γ l (.slice t x (some o) none none) L K:=WO.ahn hx hm hv (acJ ho hj) WX h
theorem WO.ahu [ht:TT E t e sz α enc](hx:Ev l x (.slice a p.length c))(ho:Ev l o (.int k u))(hm:Rd Γ a p.length sz (ai (sz:=sz) p))(hv:w6 Γ.s0 a p.length c e sz)(hj:0<=u/\u<=(p.length:Int))
  (h:∀m a' c',Rd Γ a' (p.take u.toNat).length sz (ai (sz:=sz) (p.take u.toNat))->K (.slice a' (p.take u.toNat).length c') L m m (λb=>b∈aj a) Z):WO E X Γ l (.slice t x none (some o) none) L K:=WO.ahn hx hm hv (Q9 ho hj) O0 h
end
abbrev acK {α:Type}{sz:Nat}[aq α sz](E:iq)(X:fY)(f:FuncId)(vs:aY)(s:St)(A:List Nat)(e:TypeId)(p:List α):Prop:=fA E X f vs s [] A λv L=>∃a k a0,∃p0:List α,∃k0,v= .slice a p.length k/\L=[.aQ (.slice a0 p0.length k0) e sz (ai (sz:=sz) p0)]/\Sub sz a0 p0 a p/\Part e sz a0 p0.length k0 a p.length k
theorem WO.aev {α:Type}{sz:Nat}{enc:aq α sz}{e:TypeId}{p:List α}(hx:jY l xs vs)(h:∀s,acK E X f vs s [] e p)(k:∀m m' a c a0 (p0:List α) c0,Sub sz a0 p0 a p->Part e sz a0 p0.length c0 a p.length c->iY L m->m<=m'->K (.slice a p.length c) (.aQ (.slice a0 p0.length c0) e sz (ai (sz:=sz) p0)::L) m m' (mV [] [] m m') (mW [] m m')):WC E X Γ l f xs ts L K:=
 WO.call (Lm:=[]) (R:=L) hx (.refl _) (λs hi b hb=>by cases hb) (λs hi=>h s) (by rintro v L' m m' ho hm ⟨a,c,a0,p0,c0,rfl,rfl,hs,hp⟩;exact k m m' a c a0 p0 c0 hs hp ho hm)
theorem ahv (a:aS):Vi a 0=a:=by rcases a with _|⟨b,o,_|q⟩<;>rfl
theorem Sub.all {α:Type}{sz:Nat}{a:aS}{p:List α}:Sub sz a p a p:=⟨⟨0,p.length,ay,af,⟨.inl (by rw[KF,ahv])⟩⟩⟩
theorem ak6 {α:Type}{sz e:Nat}{enc:aq α sz}{p q p0:List α}{a a0:aS}{k k0:Nat}{rs:List ResultVar}{x:Ex}(hx:x= .normal\/x= .ret)(hr:qO E l L rs [.slice a q.length k])(hs:Sub sz a0 p0 a q)(uJ:Part e sz a0 p0.length k0 a q.length k)(hL:cx [.aQ (.slice a0 p0.length k0) e sz (ai (sz:=sz) p0)] L)(h:p=q):
  wK E rs (λv L=>∃a k a0,∃p0:List α,∃k0,v= .slice a p.length k/\L=[.aQ (.slice a0 p0.length k0) e sz (ai (sz:=sz) p0)]/\Sub sz a0 p0 a p/\Part e sz a0 p0.length k0 a p.length k) x l L:=by
 subst h;exact⟨hx,_,_,hr,hL,a,k,a0,p0,k0,rfl,rfl,hs,uJ⟩
theorem WO.iZ {a:aS}{n sz:Nat}{cs:aY}(hx:jY l xs vs)(h:∀s,bM s a n sz cs->l7 E X f vs s (aj a) r)(hh:kr Γ L a n sz cs)(k:∀m m',iY L m->m<=m'->K r L m m' (mV (aj a) [] m m') (mW [] m m')):WC E X Γ l f xs ts L K:=WO.aep hx hh h k
theorem WO.Jo {a:aS}{n Q0:Nat}{cs:aY}{α:Type}{sz:Nat}{enc:aq α sz}{e:TypeId}{p:List α}(hx:jY l xs vs)(h:∀s,bM s a n Q0 cs->eu E X f vs s (aj a) e p)(hh:kr Γ L a n Q0 cs)(k:∀m m' a' c,iY L m->m<=m'->K (.slice a' p.length c) (.aQ (.slice a' p.length c) e sz (ai (sz:=sz) p)::L) m m' (mV (aj a) [] m m') (mW [] m m')):WC E X Γ l f xs ts L K:=WO.aeq hx hh h k
section
variable {o:Operand}{a:aS}{c:Nat}{p q:List α}
theorem WY [ht:TT E t e sz α enc]{tm:Tm}(h:WW l n none (some o) 0 j)(hl:mU l tm)(hv:w6 s a n c e sz):
  ∃s',kH E s t (.slice a n c) (dB (aO tm) none) (dB (aO tm) (some o)) none=some (.slice a j c,s')/\(s'=s\/∃b∈aj a,s'=s.aU b):=by
 obtain⟨z,hr,_⟩:=ht.h;obtain⟨hu,ii,z1,Kv,tp,hi3,N9,hi5,hi6,hi7⟩:=hr.h;have iX:size E e=some sz:=by unfold size;rw[Kv];simp[tp]
 have lQ:=h.h;have hmv:∀a:aS,(a=none\/∃b o,a=some ⟨b,o,none⟩)->rZ a (Nat.mul 0 sz)=a:=λa ha=>by
  rw[show Nat.mul 0 sz=0 from KF _];rcases ha with rfl|⟨b,o,rfl⟩<;>rfl
 have DJ:∀a:aS,(a=none\/∃b o,a=some ⟨b,o,none⟩)->n<=c->eh sz a n c (dB (aO tm) none) (dB (aO tm) (some o)) none=some (.slice a j c):=λa ha hc=>by
  unfold eh;rw[pW h hl hc];show some (Value.slice (bo (Nat.beq c 0) a (rZ a (Nat.mul 0 sz))) (j-0) (c-0))=_;rw[hmv a ha];cases Nat.beq c 0<;>rfl
 unfold kH;rw[hu];show ∃s',dN (II a) (ob (size E e) λsz=>bo (Nat.ble dS c) (bo (nX (dB (aO tm) none) (dB (aO tm) (some o)) none) (nY a c s) (iC e sz a n c (dB (aO tm) none) (dB (aO tm) (some o)) none s)) (ob (eh sz a n c (dB (aO tm) none) (dB (aO tm) (some o)) none) λv=>aM v s))=_/\_;rw[iX];rcases hv with⟨rfl,rfl,rfl⟩|⟨b,o',cs,w,rfl,hb,hg,⟨hc,hu⟩|⟨rfl,hu,ho,cX⟩⟩
 .refine⟨s,?_,.inl rfl⟩;show(ob (eh sz none 0 0 _ _ none) λv=>aM v s)=_;rw[DJ none (.inl rfl) (cC _)];rfl
 .refine⟨s,?_,.inl rfl⟩;rw[show Nat.ble dS c=false from by rw[<-na,pe];omega];show(ob (eh sz (some ⟨b,o',none⟩) n c _ _ none) λv=>aM v s)=_;rw[DJ _ (.inr ⟨b,o',rfl⟩) hc];rfl
 .rw[gb hu];show ∃s',bo (nX (dB (aO tm) none) (dB (aO tm) (some o)) none) (nY (some ⟨b,o',none⟩) c s) (iC e sz (some ⟨b,o',none⟩) n c (dB (aO tm) none) (dB (aO tm) (some o)) none s)=_/\_;cases hz:nX (dB (aO tm) none) (dB (aO tm) (some o)) none with
  |true=>
   obtain⟨_,rfl⟩:=Lz h hl hz;exact⟨s,rfl,.inl rfl⟩
  |false=>
   refine⟨s.aU b,?_,.inr ⟨b,by simp[aj],rfl⟩⟩;show iC e sz (some ⟨b,o',none⟩) n c (dB (aO tm) none) (dB (aO tm) (some o)) none s=_;unfold iC;show s.row b (λc' e' w s=>dN (bo w true (Nat.beq sz 1)&&Nat.beq e' e&&Nat.beq o' (Nat.mul (Nat.sub c dS) sz)&&Nat.ble (Nat.add o' (Nat.mul n sz)) (dX c')) (bounds n n (dB (aO tm) none) (dB (aO tm) (some o)) none λl h _=>_))=_;unfold St.row St.look;rw[hg];simp only[bu];rw[show Nat.mul (Nat.sub c dS) sz=o' from ho.symm,ja,ja,c8,gb (show Nat.add o' (Nat.mul n sz)<=cs.length from cX)];show bounds n n _ _ none _=_;rw[pW h hl (cC _)];show aM (Value.slice (some ⟨b,o'+0*sz,none⟩) (j-0) (c+0)) (s.aU b)=_;rw[KF];rfl
theorem sx:∀p q:List α,ai (sz:=sz) (p++q)=ai (sz:=sz) p++ai (sz:=sz) q
 |[],q=>rfl
 |x::p,q=>by rw[yw,dE,dE,sx p q,iL]
end
variable {κ ν:Type}{vf:ν->Value}{fv:Operand}{z:Value}{g:FuncId}{fi ca ws:aY}{ys:List Operand}
class He (E:iq)(t:TypeId)(z:outParam Value):Prop where
 h:∃kt e,gX E t=some (.map kt e)/\gX E kt=some .string/\zero E e=some z
class Ra (E:iq)(t:TypeId)(z:outParam Value):Prop where
 h:∃kt e k,gX E t=some (.map kt e)/\gX E kt=some (.int k)/\zero E e=some z
class Rb (E:iq)(t:TypeId):Prop where
 h:∃d,gX E t=some d/\isIface d=false
class WZ (E:iq)(t:TypeId):Prop where
 h:∃u,gX E t=some (.pointer u)
section
variable [DecidableEq κ]
def dr:List (κ×ν)->κ->Option ν
 |[],_=>none
 |p::m,k=>if k=p.1 then some p.2 else dr m k
def er:List (κ×ν)->κ->ν->List (κ×ν)
 |[],k,v=>[(k,v)]
 |p::m,k,v=>if k=p.1 then(k,v)::m else p::er m k v
def oo (kf:κ->Value)(vf:ν->Value)(m:List (κ×ν)):List (Value×Value):=m.map λp=>(kf p.1,vf p.2)
theorem oq:∀(m:List (κ×ν))(k k':κ)(v:ν),dr (er m k v) k'=if k'=k then some v else dr m k'
 |[],k,k',v=>by
  unfold er dr;split<;>rfl
 |p::m,k,k',v=>by
  unfold er;by_cases h:k=p.1
  .rw[if_pos h];unfold dr;by_cases h':k'=k
   .rw[if_pos h',if_pos h']
   .rw[if_neg h',if_neg h',if_neg (by rw[<-h];exact h')]
  .rw[if_neg h];unfold dr;by_cases h2:k'=p.1
   .rw[if_pos h2,if_pos h2,if_neg (λe=>h (e.symm.trans h2))]
   .rw[if_neg h2,if_neg h2,oq m k k' v]
variable {kf:κ->Value}
theorem AE (hk:∀a b,jQ (kf a) (kf b)=some (decide (a=b)))(k:κ):∀m:List (κ×ν),nQ (kf k) (oo kf vf m)=some ((dr m k).map vf)
 |[]=>rfl
 |p::m=>by
  show ob (jQ (kf k) (kf p.1)) (λb=>bo b (some (some (vf p.2))) (nQ (kf k) (oo kf vf m)))=_;rw[hk,AE hk k m];show _=some ((if k=p.1 then some p.2 else dr m k).map vf);by_cases h:k=p.1
  .rw[if_pos h,du h];rfl
  .rw[if_neg h,ec h];rfl
theorem LA (hk:∀a b,jQ (kf a) (kf b)=some (decide (a=b)))(k:κ)(v:ν):∀m:List (κ×ν),(dr m k).isSome=true->On (kf k) (vf v) (oo kf vf m)=some (oo kf vf (er m k v))
 |[],h=>by cases h
 |p::m,h=>by
  show ob (jQ (kf k) (kf p.1)) (λb=>bo b (some ((kf k,vf v)::oo kf vf m)) (ob (On (kf k) (vf v) (oo kf vf m)) λr=>some ((kf p.1,vf p.2)::r)))=_;rw[hk];unfold dr at h;unfold er;by_cases h':k=p.1
  .rw[if_pos h'];simp only[h',decide_true];rfl
  .rw[if_neg h'] at h;rw[if_neg h',LA hk k v m h];simp only[h',decide_false];rfl
theorem LB (k:κ)(v:ν):∀m:List (κ×ν),dr m k=none->oo kf vf m++[(kf k,vf v)]=oo kf vf (er m k v)
 |[],h=>rfl
 |p::m,h=>by
  unfold dr at h;unfold er;by_cases h':k=p.1
  .rw[if_pos h'] at h;cases h
  .rw[if_neg h'] at h;rw[if_neg h'];show(kf p.1,vf p.2)::(oo kf vf m++[(kf k,vf v)])=_;rw[LB k v m h];rfl
theorem Jp (a b:List UInt8):jQ (sv a) (sv b)=some (decide (a=b)):=by show some (gz a b)=_;rw[eQ];by_cases h:a=b<;>simp[h]
theorem Tg (a b:Int):jQ (iv a) (iv b)=some (decide (a=b)):=by
 show dN (qg .i64 .i64) (some (yE a b))=_;rw[jB];by_cases h:a=b
 .subst h;simp;rfl
 .rw[show(a== b)=false by simpa using h,ec h];rfl
end
section
variable {o:Operand}{b:Nat}[DecidableEq κ]{kf:κ->Value}{m:List (κ×ν)}{k:κ}{v d:ν}
theorem WO.makeMap (h:∀b,iY L b->K (.map (some b)) (.kK b (.map [])::L) b (b+1) (λi=>i=b) (λi=>i=b)):WO E X Γ l (.makeMap t none) L K:=
 WO.news (mk:=λb=>.map (some b)) (ob:=λ_=>.map []) (it:=λb=>.kK b (.map [])) (λtm s call hl _=>rfl) (λs b h=>h) (λb=>rfl) h
theorem O1 {kt e:TypeId}{kd:TypeDesc}(h1:gX E t=some (.map kt e))(h2:gX E kt=some kd)(h3:xm E kt kd (kf k)=true)(h4:zero E e=some z)(hk:∀a b,jQ (kf a) (kf b)=some (decide (a=b)))(hz:vf d=z){o:gv}(ho:o= .map (oo kf vf m))(hg:s.heap.get b=some o)(ok:Bool):
  s7 E s t (.map (some b)) (kf k) ok=some (bo ok (.tuple ⟨[vf ((dr m k).getD d),.bool (dr m k).isSome]⟩) (vf ((dr m k).getD d)),s.aU b):=by
 subst ho;unfold s7;rw[h1];show ob (gX E kt) _=_;rw[h2];show dN (xm E kt kd (kf k)) _=_;rw[h3,ep,h4];show ob (s.look b) _=_;unfold St.look;rw[hg];show ob (nQ (kf k) (oo kf vf m)) _=_;rw[AE hk];cases dr m k with
 |none=>rw[<-hz];rfl
 |some v=>rfl
theorem WO.W0 {kt e:TypeId}{kd:TypeDesc}(h1:gX E t=some (.map kt e))(h2:gX E kt=some kd)(h3:xm E kt kd (kf k)=true)(h4:zero E e=some z)(hk:∀a b,jQ (kf a) (kf b)=some (decide (a=b)))(hz:vf d=z)(hx:Ev l x (.map (some b)))(hy:Ev l y (kf k))(hm:It.kK b (.map (oo kf vf m))∈L)(ok:Bool)
  (h:∀n,K (bo ok (.tuple ⟨[vf ((dr m k).getD d),.bool (dr m k).isSome]⟩) (vf ((dr m k).getD d))) L n n (λi=>i=b) Z):WO E X Γ l (.lookup t x y ok) L K:=λtm s hl hi=>by
 have iF:=hi.may hm (b:=b) (by simp[It.cr]);refine fy.pure (v:=bo ok (.tuple ⟨[vf ((dr m k).getD d),.bool (dr m k).isSome]⟩) (vf ((dr m k).getD d))) (s':=s.aU b) (λcall=>?_) ⟨L,(λi=>i=b),Z,hi.aU iF,cH iF.1 rfl,by rw[bQ];exact h _⟩;show s7 E s t (aO tm x) (aO tm y) ok=_;rw[hx.eval hl,hy.eval hl];exact O1 h1 h2 h3 h4 hk hz rfl (hi.it _ hm) ok
theorem WO.aew {kt e:TypeId}{kd:TypeDesc}(h1:gX E t=some (.map kt e))(h2:gX E kt=some kd)(h3:xm E kt kd (kf k)=true)(hk:∀a b,jQ (kf a) (kf b)=some (decide (a=b)))(hx:Ev l x (.map (some b)))(hy:Ev l y (kf k))(hw:Ev l o (vf v))(hu:y3 (.kK b (.map (oo kf vf m))) (.kK b (.map (oo kf vf (er m k v)))) L L')
  (h:∀n,K (.tuple ⟨[]⟩) L' n n (λi=>i=b) (λi=>i=b)):WO E X Γ l (.mapUpdate t x y o) L K:=λtm s hl hi=>by
 obtain⟨R,p1,p2⟩:=hu.cT;have hm:It.kK b (.map (oo kf vf m))∈L:=p1.mem_iff.2 ay;have iF:=hi.may hm (b:=b) (by simp[It.cr]);refine fy.pure (v:=.tuple ⟨[]⟩) (s':=s.put b (some (.map (oo kf vf (er m k v))))) (λcall=>?_) ⟨L',(λi=>i=b),(λi=>i=b),hi.put hu rfl rfl (by show T.get (St.heap _) b=_;simp),jX iF.1 rfl rfl,by rw[dY];exact h _⟩;show s8 E s t (aO tm x) (aO tm y) (aO tm o)=_;rw[hx.eval hl,hy.eval hl,hw.eval hl];unfold s8;rw[h1];show ob (gX E kt) _=_;rw[h2];show dN (xm E kt kd (kf k)) _=_;rw[h3,ep];show ob (s.look b) _=_;have hg:s.heap.get b=some (.map (oo kf vf m)):=hi.it _ hm;unfold St.look;rw[hg];show ob (nQ (kf k) (oo kf vf m)) _=_;rw[AE hk];cases ha:dr m k with
 |none=>
  show aM (Value.tuple ⟨[]⟩) (s.put b (some (.map (oo kf vf m++[(kf k,vf v)]))))=_;rw[LB k v m ha];rfl
 |some w=>
  show ob (On (kf k) (vf v) (oo kf vf m)) _=_;rw[LA hk k v m (by rw[ha];rfl)];rfl
omit [DecidableEq κ] in
theorem WO.aex {kt e:TypeId}(h1:gX E t=some (.map kt e))(hx:Ev l x (.map (some b)))(hm:It.kK b (.map (oo kf vf m))∈L)
  (h:∀n,K (iv (m.length:Int)) L n n (λi=>i=b) Z):WO E X Γ l (.call ⟨.builtin .len,⟨[x]⟩,⟨[t]⟩⟩) L K:=λtm s hl hi=>by
 have iF:=hi.may hm (b:=b) (by simp[It.cr]);refine fy.pure (v:=iv (m.length:Int)) (s':=s.aU b) (λcall=>?_) ⟨L,(λi=>i=b),Z,hi.aU iF,cH iF.1 rfl,by rw[bQ];exact h _⟩;show sb E s .len [t] (aO tm x)=_;rw[hx.eval hl];show Cn E s t b=_;have hg:s.heap.get b=some (.map (oo kf vf m)):=hi.it _ hm;unfold Cn;rw[h1];show ob (s.look b) _=_;unfold St.look;rw[hg];show aM (Value.int .i64 (.ofNat (dX (oo kf vf m)))) (s.aU b)=_;rw[c8];unfold oo;rw[uI];rfl
end
section
variable {o:Operand}{b:Nat}
abbrev mII (m:List (Int×Int)):gv:=.map (oo iv iv m)
abbrev mSI (m:List (List UInt8×Int)):gv:=.map (oo sv iv m)
abbrev mSB (m:List (List UInt8×Bool)):gv:=.map (oo sv Value.bool m)
theorem WO.aey [ht:Ra E t (iv 0)]{m:List (Int×Int)}{k:Int}(hx:Ev l x (.map (some b)))(hy:Ev l y (iv k))(hm:It.kK b (mII m)∈L)(h:∀n,K (iv ((dr m k).getD 0)) L n n (λi=>i=b) Z):WO E X Γ l (.lookup t x y false) L K:=by obtain⟨kt,e,kd,h1,h2,h3⟩:=ht.h;exact WO.W0 h1 h2 rfl h3 Tg rfl hx hy hm false h
theorem WO.aez [ht:He E t (iv 0)]{m:List (List UInt8×Int)}{k:List UInt8}(hx:Ev l x (.map (some b)))(hy:Ev l y (sv k))(hm:It.kK b (mSI m)∈L)(h:∀n,K (iv ((dr m k).getD 0)) L n n (λi=>i=b) Z):WO E X Γ l (.lookup t x y false) L K:=by obtain⟨kt,e,h1,h2,h3⟩:=ht.h;exact WO.W0 h1 h2 rfl h3 Jp rfl hx hy hm false h
theorem WO.aeA [ht:He E t (.bool false)]{m:List (List UInt8×Bool)}{k:List UInt8}(hx:Ev l x (.map (some b)))(hy:Ev l y (sv k))(hm:It.kK b (mSB m)∈L)(h:∀n,K (.bool ((dr m k).getD false)) L n n (λi=>i=b) Z):WO E X Γ l (.lookup t x y false) L K:=by obtain⟨kt,e,h1,h2,h3⟩:=ht.h;exact WO.W0 h1 h2 rfl h3 Jp rfl hx hy hm false h
theorem WO.ahw {z:Value}[ht:Ra E t z]{m:List (Int×Int)}{k v:Int}(hx:Ev l x (.map (some b)))(hy:Ev l y (iv k))(hw:Ev l o (iv v))(hu:y3 (.kK b (mII m)) (.kK b (mII (er m k v))) L L')(h:∀n,K (.tuple ⟨[]⟩) L' n n (λi=>i=b) (λi=>i=b)):WO E X Γ l (.mapUpdate t x y o) L K:=by obtain⟨kt,e,kd,h1,h2,h3⟩:=ht.h;exact WO.aew h1 h2 rfl Tg hx hy hw hu h
theorem WO.ahx {z:Value}[ht:He E t z]{m:List (List UInt8×Int)}{k:List UInt8}{v:Int}(hx:Ev l x (.map (some b)))(hy:Ev l y (sv k))(hw:Ev l o (iv v))(hu:y3 (.kK b (mSI m)) (.kK b (mSI (er m k v))) L L')(h:∀n,K (.tuple ⟨[]⟩) L' n n (λi=>i=b) (λi=>i=b)):WO E X Γ l (.mapUpdate t x y o) L K:=by obtain⟨kt,e,h1,h2,h3⟩:=ht.h;exact WO.aew h1 h2 rfl Jp hx hy hw hu h
theorem WO.ahy {z:Value}[ht:He E t z]{m:List (List UInt8×Bool)}{k:List UInt8}{v:Bool}(hx:Ev l x (.map (some b)))(hy:Ev l y (sv k))(hw:Ev l o (.bool v))(hu:y3 (.kK b (mSB m)) (.kK b (mSB (er m k v))) L L')(h:∀n,K (.tuple ⟨[]⟩) L' n n (λi=>i=b) (λi=>i=b)):WO E X Γ l (.mapUpdate t x y o) L K:=by obtain⟨kt,e,h1,h2,h3⟩:=ht.h;exact WO.aew h1 h2 rfl Jp hx hy hw hu h
theorem WO.ahz {z:Value}[ht:Ra E t z]{m:List (Int×Int)}(hx:Ev l x (.map (some b)))(hm:It.kK b (mII m)∈L)(h:∀n,K (iv (m.length:Int)) L n n (λi=>i=b) Z):WO E X Γ l (.call ⟨.builtin .len,⟨[x]⟩,⟨[t]⟩⟩) L K:=by obtain⟨kt,e,kd,h1,h2,h3⟩:=ht.h;exact WO.aex h1 hx hm h
theorem AF:∀vs:aY,jY l (vs.map Operand.const) vs
 |[]=>.nil
 |v::vs=>.cons .const (AF vs)
theorem WO.ak7 (hf:Ev l fv (.func (.func g) ⟨fi⟩ ⟨ca⟩))(hx:jY l xs vs)(k:WO E X Γ l (.call ⟨.value (.func g),⟨(fi++(vs++ca)).map Operand.const⟩,ts⟩) L K):WO E X Γ l (.call ⟨.value fv,⟨xs⟩,ts⟩) L K:=λtm s hl hi=>by
 obtain⟨N,v,s',hk,hr⟩:=k tm s hl hi;refine⟨N,v,s',hk,λn hn lf B8=>(?_:_=_).trans (hr n hn lf B8)⟩;generalize oP E X lf [] n=call;show xq call (aO tm fv) (xn (aO tm) xs) s=xq call (.func (.func g) #[] #[]) (xn (aO tm) ((fi++(vs++ca)).map Operand.const)) s;rw[hf.eval hl,qY,qY,hx.eval hl,(AF _).eval hl];show call g _ s=call g _ s;simp
theorem WO.invoke {mn:String}{it:TypeId}{a:Addr}(hr:Ev l fv (.iface it (.pointer (some a))))(hm:ml it mn E.rY=some g)(hx:jY l xs vs)(k:WO E X Γ l (.call ⟨.value (.func g),⟨(Value.pointer (some a)::vs).map Operand.const⟩,ts⟩) L K):WO E X Γ l (.call ⟨.invoke fv mn,⟨xs⟩,ts⟩) L K:=λtm s hl hi=>by
 obtain⟨N,v,s',hk,SL⟩:=k tm s hl hi;refine⟨N,v,s',hk,λn hn lf B8=>(?_:_=_).trans (SL n hn lf B8)⟩;generalize oP E X lf [] n=call;show Co E call (aO tm fv) mn (xn (aO tm) xs) s=xq call (.func (.func g) #[] #[]) (xn (aO tm) ((Value.pointer (some a)::vs).map Operand.const)) s;rw[hr.eval hl,qY,qY,hx.eval hl,(AF _).eval hl];unfold Co;show ob (ml it mn E.rY) _=_;rw[hm];show call g _ s=call g _ s;simp
theorem WO.makeFunc {fn:Fn}(hx:jY l xs vs)(hy:jY l ys ws)(k:∀n,K (.func fn ⟨vs⟩ ⟨ws⟩) L n n Z Z):WO E X Γ l (.makeFunc fn ⟨xs⟩ ⟨ys⟩) L K:=WO.val (λtm s call hl=>by
 show aM (Value.func fn ⟨xn (aO tm) xs⟩ ⟨xn (aO tm) ys⟩) s=_;rw[qY,qY,hx.eval hl,hy.eval hl];rfl) k
theorem WO.Hf [ht:Rb E t]{v:Value}(hx:Ev l x v)(k:∀n,K (.iface t v) L n n Z Z):WO E X Γ l (.makeInterface t x) L K:=WO.val (λtm s call hl=>by
 show Oq E t (aO tm x) s=_;rw[hx.eval hl];obtain⟨d,h1,h2⟩:=ht.h;unfold Oq;rw[h1];show dN (!isIface d) _=_;rw[h2];rfl) k
theorem WO.nilFunc {f:FuncId}{a b:Array Value}(hx:Ev l x (.func (.func f) a b))(k:∀n,K (.func (.func f) a b) L n n Z Z):WO E X Γ l (.nilCheck x) L K:=WO.val (λtm s call hl=>by
 show GH E (aO tm x) s=_;rw[hx.eval hl];rfl) k
theorem WO.W1 [ht:WZ E t]{t2:TypeId}{p:aS}(hx:Ev l x (.pointer p))(hy:Ev l y (.pointer none))(k:∀n,K (.bool p.isNone) L n n Z Z):WO E X Γ l (.binOp .eql t x y t2) L K:=WO.bin hx hy (λcc=>by
 obtain⟨u,h1⟩:=ht.h;show ob (gX E t) (λd=>Ai .eql (Z2 E d (.pointer p) (.pointer none)))=_;rw[h1];cases p<;>rfl) k
end
section
variable {o:Operand}{b p:Nat}{z:List UInt8}
theorem WO.aeB [ht:xF E t](hx:Ev l x (sv z))(h:∀b,iY L b->K (.pointer (some ⟨b,0,none⟩)) (.kK b (.lL z 0)::L) b (b+1) (λi=>i=b) (λi=>i=b)):WO E X Γ l (.range t x) L K:=
 WO.news (mk:=λb=>.pointer (some ⟨b,0,none⟩)) (ob:=λ_=>.lL z 0) (it:=λb=>.kK b (.lL z 0)) (λtm s call hl _=>by
   show IJ E s t (aO tm x)=_;rw[hx.eval hl];unfold IJ;rw[ht.h];rfl) (λs b h=>h) (λb=>rfl) h
theorem WO.aeC (hx:Ev l x (.pointer (some ⟨b,0,none⟩)))(hu:y3 (.kK b (.lL z p)) (.kK b (.lL z (p+1))) L L')(hp:p<z.length)(hc:(z.getD p 0).toNat<128)(h:∀n,K (.tuple ⟨[.bool true,iv (p:Int),.int .i32 ((z.getD p 0).toNat:Int)]⟩) L' n n (λi=>i=b) (λi=>i=b)):WO E X Γ l (.next x true) L K:=λtm s hl hi=>by
 obtain⟨R,p1,p2⟩:=hu.cT;have hm:It.kK b (.lL z p)∈L:=p1.mem_iff.2 ay;have iF:=hi.may hm (b:=b) (by simp[It.cr]);have hg:s.heap.get b=some (.lL z p):=hi.it _ hm;have hn:jc z p=some (z.getD p 0):=by
  rw[dO,bc hp,a7,bc hp];rfl
 refine fy.pure (v:=.tuple ⟨[.bool true,iv (p:Int),.int .i32 ((z.getD p 0).toNat:Int)]⟩) (s':=s.put b (some (.lL z (p+1)))) (λcall=>?_) ⟨L',(λi=>i=b),(λi=>i=b),hi.put hu rfl rfl (by show T.get (St.heap _) b=_;simp),jX iF.1 rfl rfl,by rw[dY];exact h _⟩;show KU s (aO tm x) true=_;rw[hx.eval hl];show ob (s.look b) _=_;unfold St.look;rw[hg];show dN true (GG s b z p)=_;rw[ep];unfold GG;rw[hn];show dN (Nat.ble (Nat.succ (z.getD p 0).toNat) 128) _=_;rw[gb (show Nat.succ (z.getD p 0).toNat<=128 by omega)];rfl
theorem WO.aeD (hx:Ev l x (.pointer (some ⟨b,0,none⟩)))(hm:It.kK b (.lL z p)∈L)(hp:z.length<=p)(h:∀n,K (.tuple ⟨[.bool false]⟩) L n n (λi=>i=b) Z):WO E X Γ l (.next x true) L K:=λtm s hl hi=>by
 have iF:=hi.may hm (b:=b) (by simp[It.cr]);have hg:s.heap.get b=some (.lL z p):=hi.it _ hm;refine fy.pure (v:=.tuple ⟨[.bool false]⟩) (s':=s.aU b) (λcall=>?_) ⟨L,(λi=>i=b),Z,hi.aU iF,cH iF.1 rfl,by rw[bQ];exact h _⟩;show KU s (aO tm x) true=_;rw[hx.eval hl];show ob (s.look b) _=_;unfold St.look;rw[hg];show dN true (GG s b z p)=_;rw[ep];unfold GG;rw[show jc z p=none by rw[dO,qP hp]];rfl
end
section
variable {a:aS}{p:List α}
theorem WO.aaW [ht:WZ E t](hx:Ev l x (dh a i sz j))(hy:Ev l y (.pointer none))(hh:kr Γ L a n sz (ai (sz:=sz) p))(hi:i<p.length)(k:∀n,K (.bool false) L n n Z Z):WO E X Γ l (.binOp .eql t x y t2) L K:=λtm s hl h2=>by
 obtain⟨b,o,_,_,_,rfl,_⟩:=(hh.row h2).1.at_ hi;exact WO.W1 (p:=some ⟨b,o+(i*sz+j),none⟩) (ht:=ht) hx hy k tm s hl h2
theorem WO.aaX (hx:Ev l x (dh a i sz j))(hh:kr Γ L a n sz (ai (sz:=sz) p))(hi:i<p.length)(k:∀n,K (dh a i sz j) L n n Z Z):WO E X Γ l (.nilCheck x) L K:=λtm s hl h2=>by
 obtain⟨b,o,_,_,_,rfl,_⟩:=(hh.row h2).1.at_ hi;refine fy.pure (v:=dh (some ⟨b,o,none⟩) i sz j) (s':=s) (λcall=>?_) ⟨L,Z,Z,h2,kX.id,k _⟩;show GH E (aO tm x) s=_;rw[hx.eval hl];rfl
end
theorem WO.ak8 (hx:Ev l x (sv p))(hy:Ev l y (sv q))(h:∀n,K (.bool (!(Op.bytesLess q p))) L n n Z Z):WO E X Γ l (.binOp .leq t x y t2) L K:=WO.bin hx hy (λcc=>by
 show some (Value.bool (bo (oD p q) true (gz p q)))=_;rw[tj,eQ,<-qB p q];have:∀a b:Bool,bo a true b=(a||b):=by intro a b;cases a<;>rfl
 rw[this,Bool.not_not]
 congr 3
 rw[pd];simp) h
section
variable {o:Operand}
theorem WO.aaY {mn:String}{it:TypeId}{a:Addr}{g:FuncId}{c:Array Value}(hx:Ev l x (.func (.method mn) ⟨[.iface it (.pointer (some a))]⟩ c))(hm:ml it mn E.rY=some g)(k:∀n,K (.func (.method mn) ⟨[.iface it (.pointer (some a))]⟩ c) L n n Z Z):WO E X Γ l (.nilCheck x) L K:=WO.val (λtm s call hl=>by
 show GH E (aO tm x) s=_;rw[hx.eval hl];show ob (ml it mn E.rY) _=_;rw[hm];rfl) k
end
variable {c':Nat}
section
variable {o:Operand}{a:aS}{c:Nat}{p q:List α}
theorem WO.aeE {cs:aY}[ht:TT E t e sz α enc](hx:Ev l x (.slice a n c))(ho:Ev l o (.int k (i:Int)))(hm:It.aQ (.slice a n c) e sz cs∈L)(hj:i<=n)
  (h:∀m a' c',DI sz a i (n-i) a'->K (.slice a' (n-i) c') L m m (λb=>b∈aj a) Z):WO E X Γ l (.slice t x (some o) none none) L K:=λtm s hl hi=>by
 have h1:∀b∈aj a,Ca Γ s b:=λb hb=>hi.may hm (by
  cases a with
  |none=>simp[aj] at hb
  |some a=>simpa[It.cr,pj,aj] using hb)
 have hv:=mu.slv (hi.it _ hm) λb hb=>(h1 b hb).1
 obtain⟨a',c',s',h2,h3,h4,h5⟩:=CA (ht:=ht) (i:=i) (j:=n) (lo:=some o) (hi:=none) ⟨.inr ⟨o,k,rfl,ho⟩,.inl ⟨rfl,rfl⟩,af⟩ hl hv;have og:∀call:ff,GI E call (aO tm) s (.slice t x (some o) none none)=some (.slice a' (n-i) c',s'):=λcall=>by
  show kH E s t (aO tm x) _ _ none=_;rw[hx.eval hl,h2]
 rcases h3 with rfl|⟨b,lO,rfl⟩
 .exact fy.pure og ⟨L,_,Z,hi,kX.id,h _ _ _ h4⟩
 .exact fy.pure og ⟨L,_,Z,hi.aU (h1 b lO),cH (h1 b lO).1 lO,by rw[bQ];exact h _ _ _ h4⟩
theorem WO.aeF {cs:aY}[ht:TT E t e sz α enc](hx:Ev l x (.slice a n c))(ho:Ev l o (.int k (i:Int)))(hm:It.aQ (.slice a n c) e sz cs∈L)(hj:i<=n)
  (h:∀m,K (.slice a i c) L m m (λb=>b∈aj a) Z):WO E X Γ l (.slice t x none (some o) none) L K:=λtm s hl hi=>by
 have h1:∀b∈aj a,Ca Γ s b:=λb hb=>hi.may hm (by
  cases a with
  |none=>simp[aj] at hb
  |some a=>simpa[It.cr,pj,aj] using hb)
 have hv:=mu.slv (hi.it _ hm) λb hb=>(h1 b hb).1
 obtain⟨s',h2,h3⟩:=WY (ht:=ht) (j:=i) ⟨.inl ⟨rfl,rfl⟩,.inr ⟨o,k,rfl,ho⟩,af⟩ hl hv;have og:∀call:ff,GI E call (aO tm) s (.slice t x none (some o) none)=some (.slice a i c,s'):=λcall=>by
  show kH E s t (aO tm x) _ _ none=_;rw[hx.eval hl];exact h2
 rcases h3 with rfl|⟨b,lO,rfl⟩
 .exact fy.pure og ⟨L,_,Z,hi,kX.id,h _⟩
 .exact fy.pure og ⟨L,_,Z,hi.aU (h1 b lO),cH (h1 b lO).1 lO,by rw[bQ];exact h _⟩
theorem WO.aeG {n0:Nat}{d:α}[ht:TT E t e sz α enc][hd:TD E t sz α enc d](hx:Ev l x (.slice a' n c'))(hs:DI sz a i n a')(hu:y3 (.aQ (.slice a n0 c) e sz (ai (sz:=sz) p)) (.aQ (.slice a n0 c) e sz (ai (sz:=sz) (p.take i++List.replicate n d++p.drop (i+n)))) L L')(hn:i+n<=p.length)
  (h:∀m,K (.tuple ⟨[]⟩) L' m m (λb=>b∈aj a) (λb=>b∈aj a)):WO E X Γ l (.call ⟨.builtin .clear,⟨[x]⟩,⟨[t]⟩⟩) L K:=λtm s hl hi=>by
 obtain⟨z,F1,_⟩:=ht.h;obtain⟨hu1,ii,z1,Kv,tp,hi3,N9,hi5,hi6,hi7⟩:=F1.h;obtain⟨e',z',tO,hdz⟩:=hd.h;obtain⟨ak9,ii',z1',ahA,anr,ahB,ala,_⟩:=tO.h;have hee:e'=e:=by
  have:=ak9.symm.trans hu1;injection this with this
  injection this
 subst hee;rw[Kv] at ahA;cases ahA;rw[hi3] at ahB;cases ahB;have hzd:bZ z1=aq.cells (sz:=sz) d:=by rw[hdz,<-ala]
 obtain⟨R,p1,p2⟩:=hu.cT;have hm:It.aQ (.slice a n0 c) e' sz (ai (sz:=sz) p)∈L:=p1.mem_iff.2 ay;have oc:∀call:ff,GI E call (aO tm) s (.call ⟨.builtin .clear,⟨[x]⟩,⟨[t]⟩⟩)=Ak E s [t] (.slice a' n c'):=λcall=>by
  show sb E s .clear [t] (aO tm x)=_;rw[hx.eval hl];rfl
 rcases xh n with vJ|vJ
 .subst vJ;have e1:p.take i++List.replicate 0 d++p.drop (i+0)=p:=by simp
  have e2:L.Perm L':=by rw[e1] at p2;exact p1.trans p2.symm
  have uA:Ak E s [t] (.slice a' 0 c')=some (.tuple ⟨[]⟩,s):=by
   cases a' with
   |none=>
    show Ev.elemOf E (jc [t] 0) (λ_=>aM (Value.tuple ⟨[]⟩) s)=_;unfold Ev.elemOf;show ob (some t) _=_;rw[bu,hu1];rfl
   |some a'=>
    obtain⟨b,o',r⟩:=a';show Ev.elemOf E (jc [t] 0) (λe=>bo (Nat.beq 0 0) (aM (Value.tuple ⟨[]⟩) s) _)=_;unfold Ev.elemOf;show ob (some t) _=_;rw[bu,hu1];rfl
  exact fy.pure (λcall=>(oc call).trans uA) ⟨L',(λi=>i∈aj a),(λi=>i∈aj a),hi.cT e2,kX.id,h _⟩
 .rcases hi.it _ hm with⟨h3,h4⟩|⟨b,n',k',w,aE,h3,h4,h5,h6⟩
  .exfalso;have sS:=aR (sz:=sz) p;rw[h4] at sS;have h7:0<p.length*sz:=Nat.mul_pos af af;simp at sS;omega
  .cases h3
   have ha':a'=some ⟨b,0+i*sz,none⟩:=by
    rcases hs.h with h|⟨h,_⟩
    .exact h
    .omega
   subst ha';have dz:=(hi.may hm (b:=b) (by simp[It.cr,pj]));have hr:=hi.aU dz;have sS:=aR (sz:=sz) p;(have cX:i*sz+n*sz<=p.length*sz:=by rw[<-lU];exact wE _ hn);have alb:lW (bZ z1) n=ai (sz:=sz) (List.replicate n d):=by rw[hzd,DE]
   have dD:eF (0+i*sz) (lW (bZ z1) n) (ai (sz:=sz) p)=some (ai (sz:=sz) (p.take i++List.replicate n d++p.drop (i+n))):=by
    rw[alb,mS,xH _ _ _ (by rw[aR,sX,sS];exact cX),sx,sx,<-pU,<-vV,aR,sX,lU]
   (have AB:ku (bZ z1)=true:=by rw[hzd];exact(n9 _).2 (enc.fl d));(have hp2:(p.take i++List.replicate n d++p.drop (i+n)).length=p.length:=by rw[bn,bn,cO,sX,eP];omega);refine fy.pure (v:=.tuple ⟨[]⟩) (s':=(s.aU b).put b (some (.cells (ai (sz:=sz) (p.take i++List.replicate n d++p.drop (i+n))++aE) e' w))) (λcall=>(oc call).trans ?_) ⟨L',(λi=>i∈aj (some ⟨b,0,none⟩)),(λi=>i∈aj (some ⟨b,0,none⟩)),hr.put hu rfl rfl ?_,(kX.trans (cH dz.1 (by simp[aj])) (jX (by simpa using dz.1) (by simp[aj]) (by simp[aj]))),by rw[dY,bQ];exact h _⟩
   .unfold Ak Ev.elemOf;show ob (some t) _=_;rw[bu,hu1];show bo (Nat.beq n 0) _ _=_;rw[WJ vJ];show dN true _=_;rw[ep];unfold St.row St.look;rw[h4,bu];show ob (size E e') _=_;have Rc:size E e'=some sz:=by unfold size;rw[Kv];simp[tp]
    (have hze:zero E e'=some z1:=by unfold zero;rw[Kv];simp[hi3]);rw[Rc,bu,hze,bu,c8,show(bZ z1).length=sz by rw[N9];exact hi5,ja,gb hi6,AB];show ob (eF (0+i*sz) (lW (bZ z1) n) (ai (sz:=sz) p++aE)) _=_;rw[su aE _ _ _ _ dD];rfl
   .exact .inr ⟨b,_,_,w,aE,rfl,by show T.get (St.heap _) b=_;simp,by rw[aR,hp2,<-sS];exact h5,DD h6 (by rw[aR,aR,hp2])⟩
end
section
variable {o:Operand}{b:Nat}{enc:aq UInt8 1}{z u:List UInt8}
theorem WO.alc [ht:TT E t e 1 UInt8 enc](hx:Ev l x (.slice (some ⟨b,0,none⟩) z.length dS))(ho:Ev l o (.int k (i:Int)))(hm:It.box b (ai z) e false∈L)(hj:i<z.length)
  (h:∀m,K (.slice (some ⟨b,i,none⟩) (z.length-i) (dS+i)) L m m (λc=>c=b) Z):WO E X Γ l (.slice t x (some o) none none) L K:=λtm s hl hi=>by
 obtain⟨zz,hr,_⟩:=ht.h;obtain⟨hu,ii,z1,Kv,tp,hi3,N9,hi5,hi6,hi7⟩:=hr.h;have iX:size E e=some 1:=by unfold size;rw[Kv];simp[tp]
 have h1:=hi.may hm (b:=b) (by simp[It.cr]);have hg:s.heap.get b=some (.cells (ai z) e false):=hi.it _ hm;have ald:WW l z.length (some o) none i z.length:=⟨.inr ⟨o,k,rfl,ho⟩,.inl ⟨rfl,rfl⟩,af⟩;refine fy.pure (v:=.slice (some ⟨b,i,none⟩) (z.length-i) (dS+i)) (s':=s.aU b) (λcall=>?_) ⟨L,(λc=>c=b),Z,hi.aU h1,cH h1.1 rfl,by rw[bQ];exact h _⟩;show kH E s t (aO tm x) (dB (aO tm) (some o)) (dB (aO tm) none) none=_;rw[hx.eval hl];unfold kH;rw[hu];show dN (II (some ⟨b,0,none⟩)) (ob (size E e) λsz=>bo (Nat.ble dS dS) (bo (nX (dB (aO tm) (some o)) (dB (aO tm) none) none) (nY (some ⟨b,0,none⟩) dS s) (iC e sz (some ⟨b,0,none⟩) z.length dS (dB (aO tm) (some o)) (dB (aO tm) none) none s)) _)=_;rw[iX];show iC e 1 (some ⟨b,0,none⟩) z.length dS (dB (aO tm) (some o)) (dB (aO tm) none) none s=_;unfold iC;show s.row b (λc' e' w s=>dN (bo w true (Nat.beq 1 1)&&Nat.beq e' e&&Nat.beq 0 (Nat.mul (Nat.sub dS dS) 1)&&Nat.ble (Nat.add 0 (Nat.mul z.length 1)) (dX c')) (bounds z.length z.length (dB (aO tm) (some o)) (dB (aO tm) none) none λl h _=>_))=_;unfold St.row St.look;rw[hg];simp only[bu];rw[show Nat.mul (Nat.sub dS dS) 1=0 by show(dS-dS)*1=0;omega,c8,aR,ja,gb (show Nat.add 0 (Nat.mul z.length 1)<=z.length*1 by show 0+z.length*1<=_;omega)];rw[ja];show bounds z.length z.length _ _ none _=_;rw[pW ald hl (cC _)];show bo (Nat.beq i 0||Nat.ble (Nat.succ i) z.length) (aM (Value.slice (some ⟨b,0+i*1,none⟩) (z.length-i) (dS+i)) (s.aU b)) _=_;rw[gb (show Nat.succ i<=z.length from hj),Bool.or_true,uz,mS];rfl
theorem WO.ahC {c:Nat}[ht:TT E t e 1 UInt8 enc](he:∀c,aq.cells c=[bv c])(hx:Ev l x (.slice (some ⟨b,i,none⟩) (z.length-i) c))(hy:Ev l y (sv u))(hu:y3 (.box b (ai z) e false) (.box b (ai (z.take i++u++z.drop (i+u.length))) e false) L L')(hj:i+u.length<=z.length)
  (h:∀m,K (iv (u.length:Int)) L' m m (λc=>c=b) (λc=>c=b)):WO E X Γ l (.call ⟨.builtin .copy,⟨[x,y]⟩,⟨[t,t2]⟩⟩) L K:=λtm s hl hi=>by
 obtain⟨zz,hr,_⟩:=ht.h;obtain⟨hu1,ii,z1,Kv,tp,hi3,N9,hi5,hi6,hi7⟩:=hr.h;have iX:size E e=some 1:=by unfold size;rw[Kv];simp[tp]
 obtain⟨R,p1,p2⟩:=hu.cT;have hm:It.box b (ai z) e false∈L:=p1.mem_iff.2 ay;have h1:=hi.may hm (b:=b) (by simp[It.cr]);have hg:s.heap.get b=some (.cells (ai z) e false):=hi.it _ hm;have hrd:=hi.aU h1;have dD:eF i (strCells u) (ai z)=some (ai (z.take i++u++z.drop (i+u.length))):=by
  rw[nt u he,xH _ _ _ (by rw[aR,aR];omega),sx,sx,<-pU,<-vV,aR];simp
 have hlu:(strCells u).length=u.length:=by rw[nt u he,aR,uz]
 refine fy.pure (v:=iv (u.length:Int)) (s':=(s.aU b).put b (some (.cells (ai (z.take i++u++z.drop (i+u.length))) e false))) (λcall=>?_) ⟨L',(λc=>c=b),(λc=>c=b),hrd.put hu rfl rfl (by show T.get (St.heap _) b=_;simp),(kX.trans (cH h1.1 rfl) (jX (by simpa using h1.1) rfl rfl)),by rw[dY,bQ];exact h _⟩;show copyV E s [t,t2] (aO tm x) (aO tm y)=_;rw[hx.eval hl,hy.eval hl];show Ev.elemOf E (jc [t,t2] 0) (λe=>ob (size E e) λsz=>KT s sz (sv u) λk new s=>Aj sz b i (z.length-i) k new s)=_;unfold Ev.elemOf;show ob (some t) _=_;rw[bu,hu1];show ob (size E e) _=_;rw[iX];show dN (Nat.beq 1 1) (Aj 1 b i (z.length-i) (dX u) (strCells u) s)=_;rw[c8];show Aj 1 b i (z.length-i) u.length (strCells u) s=_;unfold Aj;have AB:ku (strCells u)=true:=by rw[nt u he];exact(n9 _).2 (Az _)
 have SD:C0 u.length (z.length-i)=u.length:=by
  show bo (Nat.ble u.length (z.length-i)) u.length (z.length-i)=_;rw[gb af];rfl
 have htk:ie (Nat.mul u.length 1) (strCells u)=some (strCells u):=by
  have:=sw (cs:=strCells u) (o:=0) (m:=u.length) (c:=strCells u) (by rw[IG];exact rT af) hlu;rw[show Nat.mul u.length 1=u.length from uz _];exact this
 rw[AB,ep,SD,htk,bu];unfold St.row St.look;rw[hg];simp only[bu];rw[dD];rfl
end
class W3 (E:iq)(t:TypeId)(i:Nat)(off:outParam Nat):Prop where
 h:∃fs f d,gX E t=some (.struct ⟨fs⟩)/\jc fs i=some f/\gX E f.type=some d/\xl d=false/\f.offset=off
noncomputable def ahD (E:iq)(t:TypeId)(i:Nat):Option Nat:=ob (gX E t) λd=>match d with
 |.struct ⟨fs⟩=>ob (jc fs i) λf=>ob (gX E f.type) λd=>dN (!xl d) (some f.offset)
 |_=>none
theorem aaZ {E:iq}{t:TypeId}{i off:Nat}(h:ahD E t i=some off):W3 E t i off:=by
 obtain⟨d,h1,h2⟩:=aF h;split at h2
 .rename_i fs;obtain⟨f,h3,h4⟩:=aF h2;obtain⟨d,h5,h6⟩:=aF h4;obtain⟨h7,h8⟩:=bq h6;exact⟨fs,f,d,h1,h3,h5,by simpa using h7,iU h8⟩
 .cases h2
theorem W4 {x:It}{L:dy}(h:x∈L):y3 x x L L:=by
 induction L with
 |nil=>cases h
 |cons y L ih=>
  rcases bH.1 h with rfl|h
  .exact .here
  .exact .there (ih h)
section
variable {a:aS}
theorem WO.aeH {i off:Nat}{cs:aY}{v:Value}[ht:W3 E t i off](hx:Ev l x (.agg ⟨cs⟩))(hv:cs[off]?=some v)(k:∀n,K v L n n Z Z):WO E X Γ l (.field t x i) L K:=WO.val (λtm s call hl=>by
 obtain⟨fs,f,d,h1,h2,h3,h4,h5⟩:=ht.h;show IM E s t (aO tm x) i=_;rw[hx.eval hl];unfold IM;rw[h1];show ob (jc fs i) _=_;rw[h2];show ob (gX E f.type) _=_;rw[h3];show dN (!xl d) _=_;rw[h4,h5];show dN true (ob (jc cs off) _)=_;rw[ep,dO,hv];rfl) k
theorem WO.xor {m n:Nat}(hx:Ev l x (iv m))(hy:Ev l y (iv n))(hm:m<4611686018427387904)(hn:n<4611686018427387904)(h:∀i,K (iv ((m^^^ n:Nat):Int)) L i i Z Z):WO E X Γ l (.binOp .xor t x y t2) L K:=WO.bin hx hy (tJ rfl (by
 show dN (Nat.ble (Nat.succ m) 4611686018427387904&&Nat.ble (Nat.succ n) 4611686018427387904) (some (Value.int .i64 (.ofNat (Nat.xor m n))))=_;rw[gb hm,gb hn];rfl)) h
theorem WO.aeI {e:Nat}{p:List UInt8}{enc:aq UInt8 1}[h1:TT E t e 1 UInt8 enc][h3:xG E e .u8](hx:Ev l x (.slice a p.length p.length))(hm:It.aQ (.slice a p.length p.length) e 1 (ai p)∈L)(hp:0<p.length)(hb:p.length<=1000000)
  (k:∀n,K (.slice a p.length p.length) L n n (λi=>i∈aj a) (λi=>i∈aj a)):WO E X Γ l (.convert t t x) L K:=λtm s hl hi=>by
 rcases hi.it _ hm with⟨h5,_⟩|⟨b,n',k',w,aE,h5,h6,h7,h8⟩
 .exfalso
  injection h5 with h5 h6
  omega
 .cases h5
  have hu:(1000000:Nat)<dS:=by decide
  obtain rfl:aE=[]:=mj (by
   rcases h8 with⟨_,_,h8⟩|⟨h8,_⟩
   .rw[bn,h7] at h8;omega
   .omega)
  rw[gJ] at h6;have dz:=(hi.may hm (b:=b) (by simp[It.cr,pj]));have hr:=hi.aU dz;obtain⟨z,SL,_⟩:=h1.h;obtain⟨hr1,i,v,mG,hr3,_⟩:=SL.h;have hs:size E e=some 1:=by unfold size;rw[mG];simp[hr3]
  refine fy.pure (v:=.slice (some ⟨b,0,none⟩) p.length p.length) (s':=(s.aU b).put b (some (.cells (ai p) e false))) (λcall=>?_) ⟨L,(λi=>i∈aj (some ⟨b,0,none⟩)),(λi=>i∈aj (some ⟨b,0,none⟩)),hr.put (W4 hm) rfl rfl ?_,(kX.trans (cH dz.1 (by simp[aj])) (jX (by simpa using dz.1) (by simp[aj]) (by simp[aj]))),by rw[dY,bQ];exact k _⟩
  .show qX E s t t (aO tm x)=_;rw[hx.eval hl];unfold qX;rw[hr1];show ob (gX E e) (λd=>dN (isByte d&&Nat.beq t t)<| s.row b λcs e' _ s=>ob (size E e') λsz=>ob (gX E e') λd'=>dN (isByte d'&&Nat.beq sz 1)<| aM (.slice (some ⟨b,0,none⟩) p.length p.length) (s.put b (some (.cells cs e' false))))=_;rw[h3.h];show dN (Nat.beq t t) _=_;rw[ja,ep];unfold St.row St.look;rw[h6];simp only[bu,hs,h3.h];rfl
  .exact mu.cq (w:=false) (by rw[qZ,if_pos rfl]) h7 (.inl ⟨rfl,Nat.lt_of_le_of_lt hb hu⟩)
end
end Go.Lg
