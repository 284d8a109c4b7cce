/- A lemma text of the proof of the law (evaluator, its soundness, walks). No condition beyond those that each theorem states. -/
import Derived.Test.YtjaeddbblleomaaGreatDoorAb
set_option maxRecDepth 100000
set_option maxHeartbeats 4000000
set_option linter.unusedVariables false
set_option linter.unusedSimpArgs false
open Go.Proofs.Tryz
namespace Go
theorem zaB{P:Prop}(h:P:=by
 all_goals first|(exfalso;simp_all;done)|skip
 all_goals(refine' av)
 all_goals(rcases(_:_) with h;exact h)):P:=h
theorem zaV{P:Prop}(h:P:=by
 have:t.depth.toNat=0\/t.depth.toNat=1\/t.depth.toNat=2:=by rw[h.dp];omega
 rcases this with hh|hh|hh<;>rw[hh] at h3<;>simp at h3<;>omega
 all_goals(rcases(_:_) with h;exact h)):P:=h
theorem za3{P:Prop}(h:P:=by
 obtain⟨hr,hm⟩:=(jR.rd (L:=L) hh).row h2;obtain⟨_,⟨rfl,hc|⟨b',o,q,hc,_⟩⟩|⟨b',o,c,e,w,hc,h3,h4,h5⟩⟩:=hr
 all_goals(rcases(_:_) with h;exact h)):P:=h
theorem zbb{P:Prop}(h:P:=by
 cases hb:bK z.ag x.ag with
 |true=>rfl
 |false=>exact absurd (lp _ _ hb (by simpa using dA)) (hn z jr)
 all_goals(rcases(_:_) with h;exact h)):P:=h
end Go
namespace Go.Pl
open Go Go.Ev Go.Lg Go.Proofs
def rk (p:iL):aQ:=[iv p.row,iv p.de,iv p.size,iv p.sum,iv p.level]
def gU (t:bX):aQ:=[iv t.cC.row,iv t.cC.de,iv t.cC.size,iv t.cC.sum,iv t.cC.level,iv t.depth,iv t.many]
def wS (n:Nde):aQ:=[iv n.kind,iv n.bE,iv n.size,iv n.aN.cC.row,iv n.aN.cC.de,iv n.aN.cC.size,iv n.aN.cC.sum,iv n.aN.cC.level,iv n.aN.depth,iv n.aN.many]
def CQ (e:aT):aQ:=[sv e.name,iv e.id]
def VG (e:Fnd):aQ:=[sv e.ag,iv e.id]
def Iz (e:bU):aQ:=[iv e.id,.bool e.aM,sv e.bh]
def oR (o:Op):aQ:=[iv o.kind,sv o.ag,sv o.to,iv o.at_,sv o.bh]
def pv (p:iL):Value:=.agg ⟨rk p⟩
def tv (t:bX):Value:=.agg ⟨gU t⟩
def nv (n:Nde):Value:=.agg ⟨wS n⟩
def ov (o:Op):Value:=.agg ⟨oR o⟩
instance:c9 ay 1:=⟨λs=>[sv s],[],λ_=>rfl,λs v h=>by simp at h;subst h;rfl,af⟩
instance:c9 Int 1:=⟨λs=>[iv s],0,λ_=>rfl,λs v h=>by simp at h;subst h;rfl,af⟩
instance:c9 UInt8 1:=⟨λs=>[bv s],0,λ_=>rfl,λs v h=>by simp at h;subst h;rfl,af⟩
instance:c9 iL 5:=⟨rk,bq,λ_=>rfl,λs v h=>by simp[rk] at h;rcases h with rfl|rfl|rfl|rfl|rfl<;>rfl,af⟩
instance:c9 aT 2:=⟨CQ,⟨[],0⟩,λ_=>rfl,λs v h=>by simp[CQ] at h;rcases h with rfl|rfl<;>rfl,af⟩
instance:c9 Fnd 2:=⟨VG,⟨[],0⟩,λ_=>rfl,λs v h=>by simp[VG] at h;rcases h with rfl|rfl<;>rfl,af⟩
instance:c9 bU 3:=⟨Iz,⟨0,false,[]⟩,λ_=>rfl,λs v h=>by simp[Iz] at h;rcases h with rfl|rfl|rfl<;>rfl,af⟩
instance:c9 Nde 10:=⟨wS,bu,λ_=>rfl,λs v h=>by simp[wS] at h;rcases h with rfl|rfl|rfl|rfl|rfl|rfl|rfl|rfl|rfl|rfl<;>rfl,af⟩
instance:c9 Op 5:=⟨oR,⟨0,[],[],0,[]⟩,λ_=>rfl,λs v h=>by simp[oR] at h;rcases h with rfl|rfl|rfl|rfl|rfl<;>rfl,af⟩
instance:TT aU 52 9 1 ay inferInstance:=⟨_,VB,[],rfl⟩
instance:TT aU 53 3 1 Int inferInstance:=⟨_,VC,(0:Int),rfl⟩
instance:TT aU 22 5 1 UInt8 inferInstance:=⟨_,Vy,(0:UInt8),rfl⟩
instance:TT aU 56 60 5 iL inferInstance:=⟨_,VD,bq,rfl⟩
instance:TT aU 23 70 2 Fnd inferInstance:=⟨_,Vz,(⟨[],0⟩:Fnd),rfl⟩
instance:TT aU 24 37 3 bU inferInstance:=⟨_,VA,(⟨0,false,[]⟩:bU),rfl⟩
instance:TT aU 99 28 5 Op inferInstance:=⟨_,row99,(⟨0,[],[],0,[]⟩:Op),rfl⟩
instance:TT aU 106 109 10 Nde inferInstance:=⟨_,VE,bu,rfl⟩
instance:TT aU 180 186 2 aT inferInstance:=⟨_,VF,(⟨[],0⟩:aT),rfl⟩
instance:TD aU 52 1 ay inferInstance []:=⟨_,_,VB,rfl⟩
instance:TD aU 53 1 Int inferInstance 0:=⟨_,_,VC,rfl⟩
instance:TD aU 22 1 UInt8 inferInstance 0:=⟨_,_,Vy,rfl⟩
instance:TD aU 56 5 iL inferInstance bq:=⟨_,_,VD,rfl⟩
instance:TD aU 23 2 Fnd inferInstance ⟨[],0⟩:=⟨_,_,Vz,rfl⟩
instance:TD aU 24 3 bU inferInstance ⟨0,false,[]⟩:=⟨_,_,VA,rfl⟩
@[simp] theorem dfltStr:(c9.lW (α:=ay) (sz:=1))=[]:=rfl
@[simp] theorem dfltInt:(c9.lW (α:=Int) (sz:=1))=0:=rfl
@[simp] theorem dfltU8:(c9.lW (α:=UInt8) (sz:=1))=0:=rfl
@[simp] theorem dfltPtr:(c9.lW (α:=iL) (sz:=5))=bq:=rfl
@[simp] theorem dfltEntry:(c9.lW (α:=aT) (sz:=2))=⟨[],0⟩:=rfl
@[simp] theorem dfltFound:(c9.lW (α:=Fnd) (sz:=2))=⟨[],0⟩:=rfl
@[simp] theorem dfltThing:(c9.lW (α:=bU) (sz:=3))=⟨0,false,[]⟩:=rfl
@[simp] theorem dfltNode:(c9.lW (α:=Nde) (sz:=10))=bu:=rfl
@[simp] theorem dfltOp:(c9.lW (α:=Op) (sz:=5))=⟨0,[],[],0,[]⟩:=rfl
abbrev bO:=@pW aU aW
abbrev AJ:=@fI aU aW
end Go.Pl
namespace Go.Pl
open Go Go.Ev Go.Lg Go.Proofs
structure Hid (P:Prop):Prop where
 out:P
theorem W.drawN {E:dy}{X:dM}{Γ:gY}{l:Kn}{L:List It}{Q:zM}{id:Nat}{ax:List Oper}(h:∀nx,(∀y∈L,∀i∈y.aS,i<nx)->Γ.s0.next<=nx->Hid (L.flatMap It.aS).Nodup->WD E X Γ ax ax 0 [] nx l L (Q .normal)):W E X Γ (.region id ⟨ax⟩ true) l L Q:=λtm s h1 h2=>W.draw (λnx a b=>h nx a b ⟨h2.nd⟩) tm s h1 h2
theorem KC {A:List Nat}{n n' mask:Nat}{seen:List Sn}{P:Prop}{k:Nat}{R':Fp}(h:kK n mask (λi=>i∈A\/i∈([]:List It).flatMap It.aS\/(n<=i/\i<n')) (λi=>i∈([]:List It).flatMap It.aS\/(n<=i/\i<n')) seen/\P):
  kK n mask (λi=>i∈A\/i∈([]:List It).flatMap It.aS\/(n<=i/\i<n')) (λi=>i∈([]:List It).flatMap It.aS\/(n<=i/\i<n')) (⟨k,R',Z⟩::seen)/\P:=
 ⟨⟨.inr ⟨λ_ _ h=>h.elim,λb hb _ hw=>by simp at hw;omega⟩,h.1⟩,h.2⟩
variable {P:Prop}
theorem ry (h:P:=by first|(exfalso;omega;done)|contradiction|(exfalso;simp_all;done)|fail):P:=h
theorem M0 (h:P:=by first|(exfalso;omega;done)|contradiction|(exfalso;simp_all;done)|(exfalso;simp_all;omega)|fail):P:=h
theorem pb (h:P:=by first|(exfalso;omega;done)|fail):P:=h
theorem cI (h:P:=by first|(exfalso;omega;done)|contradiction|fail):P:=h
theorem gO (h:P:=by(first|((first|exact Ev.tmp rfl|exact Ev.const|exact Ev.func);done)|fail)):P:=h
theorem aD (h:P:=by(first|((repeat(first|exact ky.nil|(apply ky.cons;constructor<;>exact rfl)));done)|fail)):P:=h
theorem qevp (h:P:=by(first|((repeat(first|exact RP.nil|(apply RP.cons;constructor<;>exact rfl)));done)|fail)):P:=h
theorem yo (h:P:=by(first|((repeat(first|exact EvE.nil|(apply EvE.cons;constructor<;>exact rfl;exact rfl)));done)|fail)):P:=h
theorem rl (h:P:=by(first|((repeat(first|exact jr|apply lE));done)|fail)):P:=h
theorem ZX (h:P:=by(first|((repeat(first|exact NF.here|apply NF.there));done)|fail)):P:=h
theorem wT (h:P:=by(first|((repeat(first|exact yk.here|apply yk.there));done)|fail)):P:=h
theorem bd (h:P:=by(first|((repeat(first|exact Le.nil _|refine Le.cons (by exact rfl) ?_));done)|fail)):P:=h
theorem aq (h:P:=by(first|((repeat(first|exact cr.nil _|refine cr.cons (by(repeat(first|exact NF.here|apply NF.there))) ?_));done)|fail)):P:=h
theorem cu (h:P:=by(first|((first|exact jR.rd (by assumption)|exact jR.aJ (by(repeat(first|exact jr|apply lE)))|exact jR.subT (by assumption) (by(repeat(first|exact jr|apply lE)))|exact jR.box (by(repeat(first|exact jr|apply lE))) rfl (by first|rfl|(rw[bc];done)|simp));done)|fail)):P:=h
theorem ez (h:P:=by(first|((exact qQ.mk cu cu cu);done)|fail)):P:=h
theorem eu (h:P:=by(first|((repeat(first|exact oz.nil|(apply oz.cons;exact ZX)));done)|fail)):P:=h
theorem mv (h:P:=by(first|((first|omega|(simp only[bR,dh,mD];omega)|(simp;done)|(simp;omega)|(simp at *;omega));done)|fail)):P:=h
theorem qbt (h:P:=by(first|((first|exact rfl|assumption);done)|fail)):P:=h
theorem bj (h:P:=by(first|((repeat(first|exact pV.nil|(apply pV.tmp;exact rfl)|(apply pV.cell;(focus infer_instance);exact rfl;(focus(repeat(first|exact jr|apply lE)));exact rfl)|(apply pV.cellA;(focus infer_instance);exact rfl;(focus(repeat(first|exact jr|apply lE)));exact rfl)));done)|fail)):P:=h
theorem jx (h:P:=by(first|((exact VH.mk cu cu);done)|fail)):P:=h
theorem tI (h:P:=by(first|((exact KD.mk cu (qQ.mk cu cu cu));done)|fail)):P:=h
theorem qhasv (h:P:=by(first|((exact ZY.mk (qQ.mk cu cu cu) cu cu);done)|fail)):P:=h
theorem bB (h:P:=by(first|((first|exact .inl rfl|exact .inr rfl);done)|fail)):P:=h
theorem qac (h:P:=by(first|((intro b_ _ h1_ E3;(try dsimp only at h1_ E3);first|exact h1_.elim|exact E3.elim|omega|(simp only[iC,qC,vO,iP,ai,iN] at h1_ E3;omega)|((first|have VI:=Rd.lt (by assumption) _ E3|have VI:=s9.lt (by assumption) _ E3);dsimp only at VI;(try simp only[iC,qC,vO,iP,ai,iN] at h1_);omega)|((first|have VI:=Rd.lt (by assumption) _ h1_|have VI:=s9.lt (by assumption) _ h1_);dsimp only at VI;(try simp only[iC,qC,vO,iP,ai,iN] at E3);omega)|(have E4:=Bh.out;(try dsimp only[j5,eM,List.append,List.cons_append,List.nil_append] at E4);(try simp only[l3,qC,It.aS,s8,tw,xB,oa,iH,vN,qB,bV,fJ,not_or,iC,iP,JH,B4,Jz,zw] at E4);first|(simp only[iC,qC,vO,iP,ai,iN] at h1_ E3;omega)|(subst h1_;first|(exact absurd E3 (by simp only[E4,JH]))|(simp_all;done))|(subst E3;first|(exact absurd h1_ (by simp only[E4,JH]))|(simp_all;done))|(simp_all;done))|(rcases E3 with E3|E3<;>first|((first|have VI:=Rd.lt (by assumption) _ E3|have VI:=s9.lt (by assumption) _ E3);dsimp only at VI;(try simp only[iC,l3,qC,iH,tw,It.aS,vO,iP,ai,iN,bV] at h1_);omega)|((try simp only[iC,l3,qC,iH,tw,It.aS,vO,iP,ai,iN,bV] at h1_ E3);omega)|(have E4:=Bh.out;(try dsimp only[j5,eM,cj,dD,List.append,List.cons_append,List.nil_append] at E4);(try simp only[l3,qC,It.aS,s8,tw,xB,oa,iH,vN,qB,bV,fJ,not_or,iC,iP,JH,B4,Jz,zw] at E4);(try simp only[iC,l3,qC,iH,tw,It.aS,vO,iP,ai,iN,bV] at h1_ E3);first|omega|(subst h1_;simp_all;done)|(subst E3;simp_all;done)))|(rcases h1_ with h1_|h1_<;>first|((first|have VI:=Rd.lt (by assumption) _ h1_|have VI:=s9.lt (by assumption) _ h1_);dsimp only at VI;(try simp only[iC,l3,qC,iH,tw,It.aS,vO,iP,ai,iN,bV] at E3);omega)|((try simp only[iC,l3,qC,iH,tw,It.aS,vO,iP,ai,iN,bV] at h1_ E3);omega)|(have E4:=Bh.out;(try dsimp only[j5,eM,cj,dD,List.append,List.cons_append,List.nil_append] at E4);(try simp only[l3,qC,It.aS,s8,tw,xB,oa,iH,vN,qB,bV,fJ,not_or,iC,iP,JH,B4,Jz,zw] at E4);(try simp only[iC,l3,qC,iH,tw,It.aS,vO,iP,ai,iN,bV] at h1_ E3);first|omega|(subst h1_;simp_all;done)|(subst E3;simp_all;done))));done)|fail)):P:=h
theorem av (h:P:=by(first|(refine⟨by(first|exact .inl rfl|exact .inr rfl),_,[],bj,cr.nil _,?_,rfl⟩;all_goals(rcases(_:_) with h;exact h))|fail)):P:=h
theorem fq (h:P:=by(first|((apply Gn;exact bB;exact bj;exact aq);all_goals(rcases(_:_) with h;exact h))|fail)):P:=h
theorem qretu (h:P:=by(first|((apply retU;exact bB;exact bj;(focus(first|assumption|exact Sub.all));(focus(first|assumption|exact Part.refl));exact aq);all_goals(rcases(_:_) with h;exact h))|fail)):P:=h
theorem lB (h:P:=by(first|((apply retR;exact bB;exact bj;exact aq);all_goals(rcases(_:_) with h;exact h))|fail)):P:=h
theorem qretd (h:P:=by(first|((apply KE;exact bB;exact bj;exact aq);all_goals(rcases(_:_) with h;exact h))|fail)):P:=h
theorem qretf (h:P:=by(first|((apply mw;exact bB;exact bj;exact aq);all_goals(rcases(_:_) with h;exact h))|fail)):P:=h
theorem qretfr (h:P:=by(first|((apply retFR;exact bB;exact bj;exact aq);all_goals(rcases(_:_) with h;exact h))|fail)):P:=h
theorem dV (h:P:=by(first|((apply qv;exact bB;exact bj;exact aq);all_goals(rcases(_:_) with h;exact h))|fail)):P:=h
theorem qretc (h:P:=by(first|((apply retC;exact bB;exact bj;exact aq);all_goals(rcases(_:_) with h;exact h))|fail)):P:=h
theorem VJ (h:P:=by(first|((apply retN5;exact bB;exact bj;exact aq);all_goals(rcases(_:_) with h;exact h))|fail)):P:=h
theorem qretn (h:P:=by(first|((apply retN;exact bB;exact bj;exact aq);all_goals(rcases(_:_) with h;exact h))|fail)):P:=h
theorem qretl (h:P:=by(first|((apply retL;exact bB;exact bj;exact aq);all_goals(rcases(_:_) with h;exact h))|fail)):P:=h
theorem qretmd (h:P:=by(first|((apply qv (v':=SA.mk v.r v.rc v.f v.fc v.l v.lc v.g v.gc VK VL);exact bB;exact bj;exact aq);all_goals(rcases(_:_) with h;exact h))|fail)):P:=h
theorem qretmg (h:P:=by(first|((apply qv (v':=SA.mk v.r v.rc v.f v.fc v.l v.lc VK VL v.d v.dc);exact bB;exact bj;exact aq);all_goals(rcases(_:_) with h;exact h))|fail)):P:=h
theorem ar (h:P:=by(first|((first|((with_reducible apply WO.lit);exact yo;exact rfl;exact rfl;intro bl _)|((with_reducible apply WO.lit (α:=iL) (xs:=[⟨_,_,_,_,_⟩]));exact yo;exact rfl;exact rfl;intro bl _)|((with_reducible apply WO.lit (α:=aT) (xs:=[⟨_,_⟩]));exact yo;exact rfl;exact rfl;intro bl _)|((with_reducible apply WO.lit (α:=Fnd) (xs:=[⟨_,_⟩]));exact yo;exact rfl;exact rfl;intro bl _)|((with_reducible apply WO.lit (α:=bU) (xs:=[⟨_,_,_⟩]));exact yo;exact rfl;exact rfl;intro bl _)|((with_reducible apply WO.lit (α:=Op) (xs:=[⟨_,_,_,_,_⟩]));exact yo;exact rfl;exact rfl;intro bl _)|((with_reducible apply WO.ZZ);exact gO;exact gO;exact ZX;exact cu;assumption;(focus(omega;done));intro _ _ VK VL _ _ _)|((with_reducible apply WO.PT);exact gO;exact gO;exact ZX;exact cu;exact mv;intro _ _ VK VL _ _ _)|((with_reducible apply WO.cutOE);exact gO;exact gO;exact rl;exact mv;intro _ KF KG Gs NO)|((with_reducible apply WO.cutO0);exact gO;exact gO;exact rl;exact mv;intro _ KF KG Gs NO)|((with_reducible apply WO.cutOS);exact gO;exact gO;exact gO;exact rl;exact mv;intro _ KF KG Gs NO)|((with_reducible apply WO.cutU0);exact gO;exact gO;assumption;assumption;exact rl;exact mv;exact mv;intro _ KF KG Gs NO)|((with_reducible apply WO.cutFE);exact gO;exact gO;assumption;assumption;exact mv;intro _ KF KG Gs)|((with_reducible apply WO.cutF0);exact gO;exact gO;assumption;assumption;exact mv;intro _ KF KG Gs));all_goals(rcases(_:_) with h;exact h))|fail)):P:=h
theorem aX (h:P:=by(first|((repeat1' (first|(with_reducible refine W.seq ?_)|(with_reducible refine W.block ?_)|(with_reducible refine W.region ?_)|(with_reducible refine aj ?_)|(with_reducible refine cP ?_)|(with_reducible refine WS.nil ?_)|(with_reducible refine WD.nil ?_)|(with_reducible refine ws ?_)|(with_reducible refine ws0 ?_)|(with_reducible refine wd ?_)|(with_reducible refine wd0 ?_)|(with_reducible refine W.skip ?_)|(with_reducible refine W.exit ?_)|(with_reducible refine W.ret ?_)|(with_reducible refine NI ?_)|(with_reducible refine j3 ?_)|(with_reducible refine iy ?_)|(with_reducible refine AH ?_)|(with_reducible refine blockQ_ne rfl ?_)|(with_reducible refine dC ?_)|(with_reducible refine j4 ?_)|(with_reducible refine NK ?_)|(with_reducible refine stepQ_ne rfl ?_)|(with_reducible refine ZP ?_)|(with_reducible refine RU ?_)|(with_reducible refine RT ?_)|(with_reducible refine Kv ?_)|(with_reducible refine NJ ?_)|(with_reducible refine Kt ?_)|(with_reducible refine KC ?_)|(with_reducible refine Iv (by decide+kernel) ?_)|((with_reducible refine W.drawN ?_);intro nx hold hn_ Bh;(try dsimp only at hn_);(try dsimp only[j5,eM,List.append,List.cons_append,List.nil_append] at hold);(try simp only[bV,forall_eq_or_imp,iC,false_imp_iff,implies_true,zw,It.aS,iN,forall_eq,s8] at hold))|(intro e_;subst e_)|((with_reducible refine Vn ?_ ?_ ?_);exact qac;exact qac)|((with_reducible apply wsgT);exact rfl;exact rfl;(focus((first|exact rfl|assumption);done)))|((with_reducible apply wsgF);exact rfl;exact rfl;(focus((first|exact rfl|assumption);done)))|((with_reducible apply wdgT);exact rfl;exact rfl;(focus((first|exact rfl|assumption);done)))|((with_reducible apply wdgF);exact rfl;exact rfl;(focus((first|exact rfl|assumption);done)))|((with_reducible apply wsgU);exact rfl;exact rfl)|((with_reducible apply wdgU);exact rfl;exact rfl)|((with_reducible apply WO.move);constructor<;>exact rfl;intro _)|((with_reducible apply WO.assign);constructor<;>exact rfl;intro _)|((with_reducible apply WO.load);constructor<;>exact rfl;exact rl;exact rfl;intro _)|((with_reducible apply WO.loadA);constructor<;>exact rfl;exact rl;exact rfl;intro _)|((with_reducible apply WO.loadRA);constructor<;>exact rfl;assumption;exact rfl;intro _)|((with_reducible apply WO.VM);constructor<;>exact rfl;assumption;exact rfl;intro _)|((with_reducible apply WO.nilCheck);constructor<;>exact rfl;intro _)|((with_reducible apply WO.fieldAddr);constructor<;>exact rfl;intro _)|((with_reducible apply WO.store);constructor<;>exact rfl;constructor<;>exact rfl;exact rfl;exact rfl;exact wT;exact rfl;intro _)|((with_reducible apply WO.peql);constructor<;>exact rfl;constructor<;>exact rfl;intro _)|((with_reducible apply WO.pneq);constructor<;>exact rfl;constructor<;>exact rfl;intro _)|((with_reducible apply WO.pneq (p:=bq));constructor<;>exact rfl;constructor<;>exact rfl;intro _)|((with_reducible apply WO.peql (p:=bq));constructor<;>exact rfl;constructor<;>exact rfl;intro _)|((with_reducible apply WO.P0);constructor<;>exact rfl;exact wT;constructor<;>exact rfl;exact mv;intro _)|((with_reducible apply WO.P0 (q:=bq));constructor<;>exact rfl;exact wT;constructor<;>exact rfl;exact mv;intro _)|((with_reducible apply WO.storeT);constructor<;>exact rfl;constructor<;>exact rfl;exact wT;exact rfl;exact mv;intro _)|((with_reducible apply WO.lenS);constructor<;>exact rfl;intro _)|((with_reducible apply WO.lenR);constructor<;>exact rfl;intro _)|((with_reducible apply WO.lss);constructor<;>exact rfl;constructor<;>exact rfl;intro _)|((with_reducible apply WO.leq);constructor<;>exact rfl;constructor<;>exact rfl;intro _)|((with_reducible apply WO.gtr);constructor<;>exact rfl;constructor<;>exact rfl;intro _)|((with_reducible apply WO.geq);constructor<;>exact rfl;constructor<;>exact rfl;intro _)|((with_reducible apply WO.eql);constructor<;>exact rfl;constructor<;>exact rfl;intro _)|((with_reducible apply WO.neq);constructor<;>exact rfl;constructor<;>exact rfl;intro _)|((with_reducible apply WO.seql);constructor<;>exact rfl;constructor<;>exact rfl;intro _)|((with_reducible apply WO.sneq);constructor<;>exact rfl;constructor<;>exact rfl;intro _)|((with_reducible apply WO.slss);constructor<;>exact rfl;constructor<;>exact rfl;intro _)|((with_reducible apply WO.sgeq);constructor<;>exact rfl;constructor<;>exact rfl;intro _)|((with_reducible apply WO.beql);constructor<;>exact rfl;constructor<;>exact rfl;intro _)|((with_reducible apply WO.bneq);constructor<;>exact rfl;constructor<;>exact rfl;intro _)|((with_reducible apply WO.not);constructor<;>exact rfl;intro _)|((with_reducible apply WO.extract);constructor<;>exact rfl;exact rfl;intro _)|((with_reducible apply WO.pickT);constructor<;>exact rfl;(focus((first|exact rfl|assumption);done));constructor<;>exact rfl;intro _)|((with_reducible apply WO.pickF);constructor<;>exact rfl;(focus((first|exact rfl|assumption);done));constructor<;>exact rfl;intro _)|((with_reducible apply WO.add);constructor<;>exact rfl;constructor<;>exact rfl;(focus((constructor<;>omega);done));intro _)|((with_reducible apply WO.sub);constructor<;>exact rfl;constructor<;>exact rfl;(focus((constructor<;>omega);done));intro _)|((with_reducible apply WO.mul);constructor<;>exact rfl;constructor<;>exact rfl;(focus((constructor<;>omega);done));intro _)|((with_reducible apply WO.sadd);constructor<;>exact rfl;constructor<;>exact rfl;exact mv;intro _)|((with_reducible apply WO.quo);constructor<;>exact rfl;constructor<;>exact rfl;(focus((first|decide|omega);done));(focus((constructor<;>omega);done));intro _)|((with_reducible apply WO.rem);constructor<;>exact rfl;constructor<;>exact rfl;(focus((first|decide|omega);done));intro _)|((with_reducible apply WO.boxA);constructor<;>exact rfl;intro bx _)|((with_reducible apply WO.boxS);constructor<;>exact rfl;exact rfl;intro bx _)|((with_reducible apply WO.alloc);intro ba _)|((with_reducible apply WO.Vr);constructor<;>exact rfl;constructor<;>exact rfl;exact mv;intro _)|((with_reducible apply WO.Vs);constructor<;>exact rfl;constructor<;>exact rfl;exact mv;intro _)|((with_reducible apply WO.Iu);constructor<;>exact rfl;(focus((first|exact .inl ⟨rfl,rfl⟩|exact .inr ⟨_,_,rfl,.tmp rfl⟩|exact .inr ⟨_,_,rfl,.const⟩);done));(focus((first|exact .inl ⟨rfl,rfl⟩|exact .inr ⟨_,_,rfl,.tmp rfl⟩|exact .inr ⟨_,_,rfl,.const⟩);done));exact mv;exact mv;intro _)|((with_reducible apply WO.index);constructor<;>exact rfl;constructor<;>exact rfl;exact mv;intro _)|((with_reducible apply WO.wQ);constructor<;>exact rfl;(focus((first|exact(rfl:_=((0:Nat):Int))|exact(rfl:_=((1:Nat):Int))|exact(rfl:_=((2:Nat):Int))|exact(rfl:_=((3:Nat):Int))|exact(rfl:_=((4:Nat):Int))|exact(rfl:_=((5:Nat):Int))|exact(rfl:_=((6:Nat):Int))|exact(rfl:_=((7:Nat):Int)));done));exact cu;exact mv;intro _)|((with_reducible apply WO.indexAddr);constructor<;>exact rfl;constructor<;>exact rfl;exact cu;exact mv;intro _)|((with_reducible apply WO.NL);constructor<;>exact rfl;constructor<;>exact rfl;exact cu;exact mv;intro _)|((with_reducible apply WO.indexI);constructor<;>exact rfl;constructor<;>exact rfl;exact mv;intro _)|((with_reducible apply WO.ZQ);constructor<;>exact rfl;constructor<;>exact rfl;exact mv;intro _)|((with_reducible apply WO.ZR);constructor<;>exact rfl;constructor<;>exact rfl;exact mv;intro _)|((with_reducible apply WO.ZS);constructor<;>exact rfl;constructor<;>exact rfl;constructor<;>exact rfl;exact mv;intro _)|((with_reducible apply WO.ND);constructor<;>exact rfl;exact cu;exact mv;intro _)|((with_reducible apply WO.loadE);constructor<;>exact rfl;exact cu;exact mv;exact rfl;intro _)|((with_reducible apply WO.loadEA);constructor<;>exact rfl;exact cu;exact mv;intro _)|((with_reducible apply WO.add8);constructor<;>exact rfl;constructor<;>exact rfl;(focus((constructor<;>omega);done));intro _)|((with_reducible apply WO.sub8);constructor<;>exact rfl;constructor<;>exact rfl;(focus((constructor<;>omega);done));intro _)|((with_reducible apply WO.conv8);constructor<;>exact rfl;(focus((constructor<;>omega);done));intro _)|((with_reducible apply WO.conv);constructor<;>exact rfl;(focus((first|exact wrap_u8 _|exact pU (by constructor<;>omega)|exact zP (by constructor<;>omega));done));intro _)|((with_reducible apply WO.str);(focus(exact λ_=>rfl;done));constructor<;>exact rfl;exact cu;intro _)|((with_reducible apply WO.bytes);(focus(exact λ_=>rfl;done));constructor<;>exact rfl;exact mv;intro _ _)|((with_reducible apply WO.make);constructor<;>exact rfl;constructor<;>exact rfl;exact mv;intro bm _ _)|((with_reducible apply WO.min);constructor<;>exact rfl;constructor<;>exact rfl;intro _)|((with_reducible apply WO.max);constructor<;>exact rfl;constructor<;>exact rfl;intro _)|((with_reducible apply WO.buildW);(focus((repeat(first|exact RP.nil|(apply RP.cons;constructor<;>exact rfl)));done));exact rfl;intro _)|((with_reducible apply WO.fieldN);constructor<;>exact rfl;exact rfl;intro _)|((with_reducible apply WO.xor);constructor<;>exact rfl;constructor<;>exact rfl;(focus(omega;done));(focus(omega;done));intro _)|((with_reducible apply WO.xorI);constructor<;>exact rfl;constructor<;>exact rfl;(focus(omega;done));(focus(omega;done));intro _)|((with_reducible apply WO.convSl);constructor<;>exact rfl;exact rl;(focus((first|decide|(simp;done)|omega);done));(focus((first|decide|(simp;done)|omega);done));intro _)|((with_reducible apply WO.sgtr);constructor<;>exact rfl;constructor<;>exact rfl;intro _)|((fail_if_success have:=ns_);((with_reducible apply W.condT);constructor<;>exact rfl;(focus(first|exact rfl|assumption))))|((fail_if_success have:=ns_);((with_reducible apply W.condF);constructor<;>exact rfl;(focus(first|exact rfl|assumption))))|((fail_if_success have:=ns_);(((with_reducible apply wsg);exact rfl;exact rfl)<;>(intro hg;(try(have tR:=hg;simp only[cl,lD,pG,B5,mC,cv,B6,Fw,HM,HN,jJ,vP,fR,Int.not_lt,Int.not_le,zv] at tR)))))|((fail_if_success have:=ns_);(((with_reducible apply wdg);exact rfl;exact rfl)<;>(intro hg;(try(have tR:=hg;simp only[cl,lD,pG,B5,mC,cv,B6,Fw,HM,HN,jJ,vP,fR,Int.not_lt,Int.not_le,zv] at tR)))))|((fail_if_success have:=ns_);(((with_reducible apply W.cond);constructor<;>exact rfl)<;>(intro hc;(try(have jU:=hc;simp only[cl,lD,pG,B5,mC,cv,B6,Fw,HM,HN,jJ,vP,fR,Int.not_lt,Int.not_le,zv] at jU)))))|fail));all_goals(rcases(_:_) with h;exact h))|fail)):P:=h
theorem wU (h:P:=by(first|((have ns_:=True.intro;(refine' aX);all_goals clear ns_);all_goals(rcases(_:_) with h;exact h))|fail)):P:=h
theorem M1 (h:P:=by(first|(((with_reducible apply WO.bG);exact aD;(first|exact λs=>Z0 s _ _ _);intro _ _ _ _);all_goals(rcases(_:_) with h;exact h))|fail)):P:=h
theorem zc3 (h:P:=by(first|(((with_reducible apply WO.bG);exact aD;(first|exact λs=>VN s _);intro _ _ _ _);all_goals(rcases(_:_) with h;exact h))|fail)):P:=h
theorem R1 (h:P:=by(first|(((with_reducible apply WO.bG);exact aD;(first|exact λs=>KH s _|exact λs=>KH s ⟨_,_,_,_,_⟩);intro _ _ _ _);all_goals(rcases(_:_) with h;exact h))|fail)):P:=h
theorem Gt (h:P:=by(first|(((with_reducible apply WO.bG);exact aD;(first|exact λs=>wV s _|exact λs=>wV s ⟨_,_,_,_,_⟩);intro _ _ _ _);all_goals(rcases(_:_) with h;exact h))|fail)):P:=h
theorem Z1 (h:P:=by(first|(((with_reducible apply WO.bG);exact aD;(first|exact λs=>R5 s _ af);intro _ _ _ _);all_goals(rcases(_:_) with h;exact h))|fail)):P:=h
theorem VO (h:P:=by(first|(((with_reducible apply WO.Iw);exact aD;(first|exact λs=>uy s _ 46 af|exact λs=>uy s _ 44 af|exact λs=>uy s _ 47 af|exact λs=>uy s _ 59 af|exact λs=>uy s _ 61 af);intro _ _ ve vg _ _);all_goals(rcases(_:_) with h;exact h))|fail)):P:=h
theorem zc15 (h:P:=by(first|(((with_reducible apply WO.bG);exact aD;(first|exact λs=>Gu s _|exact λs=>Gu s ⟨_,_,_,_,_⟩);intro _ _ _ _);all_goals(rcases(_:_) with h;exact h))|fail)):P:=h
theorem Z2 (h:P:=by(first|(((with_reducible apply WO.bG);exact aD;(first|exact λs=>R6 s _ af);intro _ _ _ _);all_goals(rcases(_:_) with h;exact h))|fail)):P:=h
theorem zc18 (h:P:=by(first|(((with_reducible apply WO.lN);exact aD;(first|exact λs hr=>IA s _ _ _ af (by assumption) hr);exact cu;intro _ _ _ _);all_goals(rcases(_:_) with h;exact h))|fail)):P:=h
theorem zc19 (h:P:=by(first|(((with_reducible apply WO.lN);exact aD;(first|exact λs hr=>R7 s _ _ _ af (by assumption) hr);exact cu;intro _ _ _ _);all_goals(rcases(_:_) with h;exact h))|fail)):P:=h
theorem R8 (h:P:=by(first|(((with_reducible apply WO.callU0);exact aD;(first|exact λs=>KI s _ af af (by assumption));intro _ _ CR CS KJ AK KK hs_l14Names hp_l14Names _ _);all_goals(rcases(_:_) with h;exact h))|fail)):P:=h
theorem zc21 (h:P:=by(first|(((with_reducible apply WO.bG);exact aD;(first|exact λs=>R9 s _ af);intro _ _ _ _);all_goals(rcases(_:_) with h;exact h))|fail)):P:=h
theorem vI (h:P:=by(first|(((with_reducible apply WO.viaF);(exact Ev.tmp rfl);exact aD;(dsimp only[List.map,List.nil_append,List.append_nil,List.cons_append]));all_goals(rcases(_:_) with h;exact h))|fail)):P:=h
theorem zc36 (h:P:=by(first|(((with_reducible apply WO.lN);exact aD;(first|exact λs hr=>bsT_ok s _ _ _ (by assumption) af _ hr);exact cu;intro _ _ _ _);all_goals(rcases(_:_) with h;exact h))|fail)):P:=h
theorem zc37 (h:P:=by(first|(((with_reducible apply WO.lN);exact aD;(first|exact λs hr=>bsN_ok s _ _ _ (by assumption) af _ hr);exact cu;intro _ _ _ _);all_goals(rcases(_:_) with h;exact h))|fail)):P:=h
theorem zc39 (h:P:=by(first|(((with_reducible apply WO.bG);exact aD;(first|exact λs=>CT s _ _ af|exact λs=>CT s ⟨_,_,_,_,_⟩ _ af);intro _ _ _ _);all_goals(rcases(_:_) with h;exact h))|fail)):P:=h
theorem zc40 (h:P:=by(first|(((with_reducible apply WO.Iw);exact aD;(first|exact λs=>NP s _ af);intro _ _ a_l8Holes c_l8Holes _ _);all_goals(rcases(_:_) with h;exact h))|fail)):P:=h
theorem zS (h:P:=by(first|(((with_reducible apply WO.lY);exact aD;(first|exact λs hr=>Gv s _ _ (by assumption) _ (by assumption) hr|exact λs hr=>Gv s _ _ (by assumption) ⟨_,_,_,_,_⟩ (by assumption) hr);exact ez;intro _ _ _ _);all_goals(rcases(_:_) with h;exact h))|fail)):P:=h
theorem Z3 (h:P:=by(first|(((with_reducible apply WO.ta);exact aD;(first|exact λs hr=>CU s _ _ (by assumption) _ _ hr|exact λs hr=>CU s _ _ (by assumption) ⟨_,_,_,_,_⟩ _ hr);exact ez;intro _ _ Gw Gx _ _);all_goals(rcases(_:_) with h;exact h))|fail)):P:=h
theorem zc44 (h:P:=by(first|(((with_reducible apply WO.ta);exact aD;(first|exact λs hr=>uz s _ _ (by assumption) _ (by assumption) hr|exact λs hr=>uz s _ _ (by assumption) ⟨⟨_,_,_,_,_⟩,_,_⟩ (by assumption) hr);exact ez;intro _ _ a_l8Leaves c_l8Leaves _ _);all_goals(rcases(_:_) with h;exact h))|fail)):P:=h
theorem CV (h:P:=by(first|(((with_reducible apply WO.zT);exact aD;(first|exact λs hr=>Gy s _ _ (by assumption) _ (by assumption) hr|exact λs hr=>Gy s _ _ (by assumption) ⟨⟨_,_,_,_,_⟩,_,_⟩ (by assumption) hr);exact ez;intro _ _ KL KM _ _);all_goals(rcases(_:_) with h;exact h))|fail)):P:=h
theorem VP (h:P:=by(first|(((with_reducible apply WO.bG);exact aD;(first|exact λs=>NQ s _);intro _ _ _ _);all_goals(rcases(_:_) with h;exact h))|fail)):P:=h
theorem NR (h:P:=by(first|(((with_reducible apply WO.bG);exact aD;(first|exact λs=>Gz s _|exact λs=>Gz s ⟨_,_,_,⟨⟨_,_,_,_,_⟩,_,_⟩⟩);intro _ _ _ _);all_goals(rcases(_:_) with h;exact h))|fail)):P:=h
theorem zc57 (h:P:=by(first|(((with_reducible apply WO.bG);exact aD;(first|exact λs=>CW s _|exact λs=>CW s ⟨_,_,_,⟨⟨_,_,_,_,_⟩,_,_⟩⟩);intro _ _ _ _);all_goals(rcases(_:_) with h;exact h))|fail)):P:=h
theorem zc58 (h:P:=by(first|(((with_reducible apply WO.zT);exact aD;(first|exact λs hr=>CX s _ _ (by assumption) _ (by assumption) hr|exact λs hr=>CX s _ _ (by assumption) ⟨⟨_,_,_,_,_⟩,_,_⟩ (by assumption) hr);exact ez;intro _ _ gA gB _ _);all_goals(rcases(_:_) with h;exact h))|fail)):P:=h
theorem Sa (h:P:=by(first|(((with_reducible apply WO.rm);exact aD;(intro s hr;exact kh s hr);(exact uA.mk cu cu cu);intro _ _ _ _);all_goals(rcases(_:_) with h;exact h))|fail)):P:=h
theorem Z4 (h:P:=by(first|(((with_reducible apply WO.Z5);exact gO;exact cu;exact mv;intro _);all_goals(rcases(_:_) with h;exact h))|fail)):P:=h
theorem zc63 (h:P:=by(first|(((with_reducible apply WO.bG);exact aD;(first|exact λs=>VQ s _ af);intro _ _ _ _);all_goals(rcases(_:_) with h;exact h))|fail)):P:=h
theorem qw (h:P:=by(first|(((with_reducible apply WO.rm);exact aD;(intro s hr;exact P2 s _ hr);(exact uA.mk cu cu cu);intro _ _ _ _);all_goals(rcases(_:_) with h;exact h))|fail)):P:=h
theorem zc65 (h:P:=by(first|(((with_reducible apply WO.Vx);exact gO;exact gO;intro _);all_goals(rcases(_:_) with h;exact h))|fail)):P:=h
theorem zc66 (h:P:=by(first|(((with_reducible apply WO.Z6);exact gO;exact gO;exact cu;exact mv;intro _);all_goals(rcases(_:_) with h;exact h))|fail)):P:=h
theorem Sb (h:P:=by(first|(((with_reducible apply WO.bG);exact aD;(first|exact λs=>Sc s _ _ _);intro _ _ _ _);all_goals(rcases(_:_) with h;exact h))|fail)):P:=h
theorem Z7 (h:P:=by(first|(((with_reducible apply WO.VM);exact gO;assumption;exact rfl;intro _);all_goals(rcases(_:_) with h;exact h))|fail)):P:=h
theorem yp (h:P:=by(first|(((with_reducible apply WO.invoke);exact gO;(first|exact GA|exact KN|exact IB|exact NS|exact Sd);exact aD;(dsimp only[List.map]));all_goals(rcases(_:_) with h;exact h))|fail)):P:=h
theorem zc71 (h:P:=by(first|(((with_reducible apply WO.rm);exact aD;(intro s hr;exact hrm s hr);(exact uA.mk cu cu cu);intro _ _ _ _);all_goals(rcases(_:_) with h;exact h))|fail)):P:=h
theorem VS (h:P:=by(first|(((with_reducible apply WO.bG);exact aD;(first|exact λs=>CY s _ (by assumption));intro _ _ _ _);all_goals(rcases(_:_) with h;exact h))|fail)):P:=h
theorem VT (h:P:=by(first|(((with_reducible apply WO.Z8);exact gO;(exact GA);intro _);all_goals(rcases(_:_) with h;exact h))|fail)):P:=h
theorem yq (h:P:=by(first|(((with_reducible apply WO.makeFunc);exact aD;exact aD;intro _);all_goals(rcases(_:_) with h;exact h))|fail)):P:=h
theorem KP (h:P:=by(first|(((with_reducible apply WO.rm);exact aD;(intro s hr;exact uB s _ (hV.th _ af) hr);(exact uA.mk cu cu cu);intro _ _ _ _);all_goals(rcases(_:_) with h;exact h))|fail)):P:=h
theorem Z9 (h:P:=by(first|(((with_reducible apply WO.rm);exact aD;(intro s hr;exact U9 s _ hr);(exact uA.mk cu cu cu);intro _ _ _ _);all_goals(rcases(_:_) with h;exact h))|fail)):P:=h
theorem zc78 (h:P:=by(first|(((with_reducible apply WO.VU);exact aD;(intro s hr;exact tU s _ hr);(exact NT.mk (uA.mk cu cu cu) cu cu);intro _ _ _ _);all_goals(rcases(_:_) with h;exact h))|fail)):P:=h
theorem zc81 (h:P:=by(first|(((with_reducible apply WO.bG);exact aD;(first|exact λs=>E5 s _ _ ⟨by assumption,by assumption,by assumption,by assumption⟩);intro _ _ _ _);all_goals(rcases(_:_) with h;exact h))|fail)):P:=h
theorem NU (h:P:=by(first|(((with_reducible apply WO.lY);exact aD;(first|exact λs hr=>P3 s _ _ (by assumption) _ hr|exact λs hr=>P3 s _ _ (by assumption) ⟨⟨_,_,_,_,_⟩,_,_⟩ hr);exact ez;intro _ _ _ _);all_goals(rcases(_:_) with h;exact h))|fail)):P:=h
theorem zc86 (h:P:=by(first|(((with_reducible apply WO.bG);exact aD;(first|exact λs=>NV s _ _ af af);intro _ _ _ _);all_goals(rcases(_:_) with h;exact h))|fail)):P:=h
theorem KQ (h:P:=by(first|(((with_reducible apply WO.bG);exact aD;(first|exact λs=>KR s _ af);intro _ _ _ _);all_goals(rcases(_:_) with h;exact h))|fail)):P:=h
theorem zc90 (h:P:=by(first|(((with_reducible apply WO.lN);exact aD;(first|exact λs hr=>tU s _ hr);exact cu;intro _ _ _ _);all_goals(rcases(_:_) with h;exact h))|fail)):P:=h
theorem aaa (h:P:=by(first|(((with_reducible apply WO.VV);exact aD;(intro s h1 h2;exact Se s h1 h2);exact cu;exact cu;intro _ _ _ _);all_goals(rcases(_:_) with h;exact h))|fail)):P:=h
theorem Sf (h:P:=by(first|(((with_reducible apply WO.bG);exact aD;(first|exact λs=>T0 s);intro _ _ _ _);all_goals(rcases(_:_) with h;exact h))|fail)):P:=h
theorem Sg (h:P:=by(first|(((with_reducible apply WO.lit (α:=Fnd) (xs:=[_]));exact yo;exact rfl;exact rfl;intro bl _);all_goals(rcases(_:_) with h;exact h))|fail)):P:=h
theorem VW (h:P:=by(first|(((with_reducible apply WO.lit (α:=Fnd) (xs:=[⟨_,_⟩]));exact yo;exact rfl;exact rfl;intro bl _);all_goals(rcases(_:_) with h;exact h))|fail)):P:=h
theorem NW (h:P:=by(first|(((with_reducible apply WO.lit (α:=bU) (xs:=[_]));exact yo;exact rfl;exact rfl;intro bl _);all_goals(rcases(_:_) with h;exact h))|fail)):P:=h
theorem yr (h:P:=by(first|(((with_reducible apply WO.lit (α:=bU) (xs:=[⟨_,_,_⟩]));exact yo;exact rfl;exact rfl;intro bl _);all_goals(rcases(_:_) with h;exact h))|fail)):P:=h
theorem yu (h:P:=by(first|(((with_reducible apply WO.callSo);exact aD;exact eu;exact mv;exact mv;(first|exact gS|assumption|(exact q9 (by simp)));(first|exact gS|assumption|(exact q9 (by simp)));exact mv;exact mv;(intro s;exact VX s _ _ _ _ _ _ _ _ (by(first|exact gS|assumption|(exact q9 (by simp)))) (by(first|exact gS|assumption|(exact q9 (by simp)))) mv mv);intro _ _ p_so q_so _ _ yv yw yx yy);all_goals(rcases(_:_) with h;exact h))|fail)):P:=h
theorem P4 (h:P:=by(first|(((with_reducible apply WO.stTtx);exact gO;exact gO;exact wT;exact mv;intro _);all_goals(rcases(_:_) with h;exact h))|fail)):P:=h
theorem zc107 (h:P:=by(first|(((with_reducible apply WO.VY);exact aD;exact eu;exact rl;(intro s hr hm;exact aab s _ _ _ af _ ⟨_,_,_,_,_⟩ hr hm);intro _ _ p_d1 _ _ hl_d1 ht_d1 hs_d1);all_goals(rcases(_:_) with h;exact h))|fail)):P:=h
theorem zc108 (h:P:=by(first|(((with_reducible apply WO.VZ);exact aD;exact eu;exact rl;(intro s hr hm;exact aac s _ _ _ af _ _ hr hm);intro _ _ p_d2 _ _ hl_d2 ht_d2 hs_d2);all_goals(rcases(_:_) with h;exact h))|fail)):P:=h
theorem zc109 (h:P:=by(first|(((with_reducible apply WO.rm);exact aD;(intro s hr;exact hli s hr);(exact uA.mk cu cu cu);intro _ _ _ _);all_goals(rcases(_:_) with h;exact h))|fail)):P:=h
theorem P5 (h:P:=by(first|(((with_reducible apply WO.stPath);exact gO;exact gO;exact wT;exact mv;intro _);all_goals(rcases(_:_) with h;exact h))|fail)):P:=h
theorem GB (h:P:=by(first|(((with_reducible apply WO.lY);exact aD;(first|exact λs hr=>vZ s hr);exact ez;intro _ _ _ _);all_goals(rcases(_:_) with h;exact h))|fail)):P:=h
theorem V0 (h:P:=by(first|(((with_reducible apply WO.bG);exact aD;(first|exact λs=>YN s);intro _ _ _ _);all_goals(rcases(_:_) with h;exact h))|fail)):P:=h
theorem P6 (h:P:=by(first|(((with_reducible apply WO.lY);exact aD;(first|exact λs hr=>hfc s _ _ hr);exact ez;intro _ _ _ _);all_goals(rcases(_:_) with h;exact h))|fail)):P:=h
theorem zc115 (h:P:=by(first|(((with_reducible apply WO.mQ);exact aD;(first|exact λs=>Sh s _ _ (by assumption) _ af);exact eu;intro _ _ V1 _ _ k_l7Drop);all_goals(rcases(_:_) with h;exact h))|fail)):P:=h
theorem V2 (h:P:=by(first|(((with_reducible apply WO.lN);exact aD;(first|exact λs hr=>Si s _ _ _ af hr);exact cu;intro _ _ _ _);all_goals(rcases(_:_) with h;exact h))|fail)):P:=h
theorem zc117 (h:P:=by(first|(((with_reducible apply WO.lN);exact aD;(first|exact λs hr=>Sj s _ _ _ af hr);exact cu;intro _ _ _ _);all_goals(rcases(_:_) with h;exact h))|fail)):P:=h
theorem zc118 (h:P:=by(first|(((with_reducible apply WO.mQ);exact aD;(first|exact λs=>wW s _ _ (by assumption) _ af _);exact eu;intro _ _ v_l7Write _ _ zU);all_goals(rcases(_:_) with h;exact h))|fail)):P:=h
theorem V3 (h:P:=by(first|(((with_reducible apply WO.callMR);exact aD;(first|exact λs hr hm=>Kj s _ _ hr hm);exact eu;exact cu;intro _ _ v_l8FanW _ _ CZ);all_goals(rcases(_:_) with h;exact h))|fail)):P:=h
theorem KS (h:P:=by(first|(((with_reducible apply WO.mQ);exact aD;(first|exact λs=>GC s _ _ (by assumption) _ (by assumption)|exact λs=>GC s _ _ (by assumption) ⟨_,_,_,_,_⟩ (by assumption));exact eu;intro _ _ V4 _ _ k_l7Free);all_goals(rcases(_:_) with h;exact h))|fail)):P:=h
theorem C0 (h:P:=by(first|(((with_reducible apply WO.callMV);exact aD;(first|exact λs hr hm hv=>hlc _ s _ _ hr hm hv);exact eu;exact rl;intro _ _ C1 _ _ uC);all_goals(rcases(_:_) with h;exact h))|fail)):P:=h
theorem P7 (h:P:=by(first|(((with_reducible apply WO.mQ);exact aD;(first|exact λs=>hwc s);exact eu;intro _ _ v_l7WriteW _ _ C2);all_goals(rcases(_:_) with h;exact h))|fail)):P:=h
theorem C3 (h:P:=by(first|(((with_reducible apply WO.mQ);exact aD;(first|exact λs=>Sk _ s);exact eu;intro _ _ yz _ _ KT);all_goals(rcases(_:_) with h;exact h))|fail)):P:=h
theorem zc128 (h:P:=by(first|(((with_reducible apply WO.mQ);exact aD;(first|exact λs=>C4 s _ _ (by assumption) _ (by assumption) _ af|exact λs=>C4 s _ _ (by assumption) ⟨⟨_,_,_,_,_⟩,_,_⟩ (by assumption) _ af);exact eu;intro _ _ v_l8Cut _ _ k_l8Cut);all_goals(rcases(_:_) with h;exact h))|fail)):P:=h
theorem zc133 (h:P:=by(first|(((with_reducible apply WO.lY);exact aD;(first|exact λs hr=>zV s _ _ (by assumption) _ (by assumption) _ af hr|exact λs hr=>zV s _ _ (by assumption) ⟨⟨_,_,_,_,_⟩,_,_⟩ (by assumption) _ af hr);exact ez;intro _ _ _ _);all_goals(rcases(_:_) with h;exact h))|fail)):P:=h
theorem zc134 (h:P:=by(first|(((with_reducible apply WO.mQ);exact aD;(first|exact λs=>vh s _ _ (by assumption) _ (by assumption) _ af _|exact λs=>vh s _ _ (by assumption) ⟨⟨_,_,_,_,_⟩,_,_⟩ (by assumption) _ af _|exact λs=>vh s _ _ (by assumption) _ (by assumption) _ af ⟨_,_,_,⟨⟨_,_,_,_,_⟩,_,_⟩⟩);exact eu;intro _ _ v_l11Put _ _ k_l11Put);all_goals(rcases(_:_) with h;exact h))|fail)):P:=h
theorem V5 (h:P:=by(first|(((with_reducible apply WO.IC);exact aD;exact tI;(first|exact λs hr=>tc s _ _ _ (by assumption) (by assumption) _ af hr);intro _ _ _ _);all_goals(rcases(_:_) with h;exact h))|fail)):P:=h
theorem zc137 (h:P:=by(first|(((with_reducible apply WO.ta);exact aD;(first|exact λs hr=>hent s hr);exact ez;intro _ _ rn rp _ _);all_goals(rcases(_:_) with h;exact h))|fail)):P:=h
theorem zc138 (h:P:=by(first|(((with_reducible apply WO.lN);exact aD;(first|exact λs hr=>C5 s _ _ _ _ (by first|omega|(simp;done)) hr);exact cu;intro _ _ _ _);all_goals(rcases(_:_) with h;exact h))|fail)):P:=h
theorem zc141 (h:P:=by(first|(((with_reducible apply WO.bG);exact aD;(first|exact λs=>GD s _ (by rw[dg];omega));intro _ _ _ _);all_goals(rcases(_:_) with h;exact h))|fail)):P:=h
theorem GF (h:P:=by(first|(((with_reducible apply WO.zW);exact aD;(intro v s;(first|exact dK _ s));exact eu;intro _ _ ph _ _);all_goals(rcases(_:_) with h;exact h))|fail)):P:=h
theorem zc147 (h:P:=by(first|(((with_reducible apply WO.V6);exact aD;(intro s hr hn hm;(first|exact hrec _ _ s hr hn hm));exact eu;exact ez;exact cu;intro _ _ jy jz _ _);all_goals(rcases(_:_) with h;exact h))|fail)):P:=h
theorem P8 (h:P:=by(first|(((with_reducible apply WO.lY);exact aD;(first|exact λs hr=>KU s _ _ (by assumption) _ hr|exact λs hr=>KU s _ _ (by assumption) ⟨⟨_,_,_,_,_⟩,_,_⟩ hr);exact ez;intro _ _ _ _);all_goals(rcases(_:_) with h;exact h))|fail)):P:=h
theorem P9 (h:P:=by(first|(((with_reducible apply WO.zT);exact aD;(first|exact λs hr=>tW s hr);exact ez;intro _ _ jl jm _ _);all_goals(rcases(_:_) with h;exact h))|fail)):P:=h
theorem zc150 (h:P:=by(first|(((with_reducible apply WO.V6);exact aD;(intro s hr hn hm;(first|exact hwk _ _ _ _ s hr hn hm));exact eu;exact ez;exact cu;intro _ _ jy jz _ _);all_goals(rcases(_:_) with h;exact h))|fail)):P:=h
theorem yA (h:P:=by(first|(((with_reducible apply WO.lY);exact aD;(first|exact λs hr=>C6 s _ _ (by assumption) _ (by assumption) hr|exact λs hr=>C6 s _ _ (by assumption) ⟨_,_,_,⟨⟨_,_,_,_,_⟩,_,_⟩⟩ (by assumption) hr);exact ez;intro _ _ _ _);all_goals(rcases(_:_) with h;exact h))|fail)):P:=h
theorem tJ (h:P:=by(first|(((with_reducible apply WO.vi);exact aD;(intro s hr;(first|exact NX s hr));exact tI;intro _ _ _ _);all_goals(rcases(_:_) with h;exact h))|fail)):P:=h
theorem yB (h:P:=by(first|(((with_reducible apply WO.vi);exact aD;(intro s hr;(first|exact xZ s hr));exact tI;intro _ _ _ _);all_goals(rcases(_:_) with h;exact h))|fail)):P:=h
theorem V7 (h:P:=by(first|(((with_reducible apply WO.vi);exact aD;(intro s hr;(first|exact ri s hr));exact tI;intro _ _ _ _);all_goals(rcases(_:_) with h;exact h))|fail)):P:=h
theorem AL (h:P:=by(first|(((with_reducible apply WO.KV);exact aD;(intro s hr;(first|exact U9 s hr));exact tI;intro _ _ zX zY _ _);all_goals(rcases(_:_) with h;exact h))|fail)):P:=h
theorem C7 (h:P:=by(first|(((with_reducible apply WO.bG);exact aD;(first|exact λs=>NY s _ af (by assumption) (by assumption));intro _ _ _ _);all_goals(rcases(_:_) with h;exact h))|fail)):P:=h
theorem KW (h:P:=by(first|(((with_reducible apply WO.lN);exact aD;(first|exact λs hr=>hat2 _ _ s hr);exact cu;intro _ _ _ _);all_goals(rcases(_:_) with h;exact h))|fail)):P:=h
theorem KX (h:P:=by(first|(((with_reducible apply WO.callRO);exact aD;exact rl;(first|exact λs hr hv=>hles _ _ s hr hv);intro _ _ a_l12LessW c_l12LessW _ _);all_goals(rcases(_:_) with h;exact h))|fail)):P:=h
theorem KY (h:P:=by(first|(((with_reducible apply WO.V8);exact aD;(intro v s hr hm;(first|exact nG _ _ _ s hr hm));exact eu;exact cu;intro _ _ jc _ _);all_goals(rcases(_:_) with h;exact h))|fail)):P:=h
theorem KZ (h:P:=by(first|(((with_reducible apply WO.bG);exact aD;(first|exact λs=>hpi s);intro _ _ _ _);all_goals(rcases(_:_) with h;exact h))|fail)):P:=h
theorem V9 (h:P:=by(first|(((with_reducible apply WO.mQ);exact aD;(first|exact λs=>Rk _ s);exact eu;intro _ _ K0 _ _ Wa);all_goals(rcases(_:_) with h;exact h))|fail)):P:=h
theorem Wb (h:P:=by(first|(((with_reducible apply WO.wQ);exact gO;exact gO;assumption;exact mv;intro _);all_goals(rcases(_:_) with h;exact h))|fail)):P:=h
theorem Wc (h:P:=by(first|(((with_reducible apply WO.loadC);exact gO;assumption;exact mv;intro _);all_goals(rcases(_:_) with h;exact h))|fail)):P:=h
theorem AM (h:P:=by(first|(((with_reducible apply WO.Qb);exact aD;exact eu;assumption;(intro s hr hm;(first|exact aad s _ _ _ _ _ _ (by assumption) af af hr hm));intro _ _ mR r_pick hp_pick aae _ _;obtain⟨C8,rfl,h_pick⟩:=aae);all_goals(rcases(_:_) with h;exact h))|fail)):P:=h
theorem zc176 (h:P:=by(first|(((with_reducible apply WO.Qb);exact aD;exact eu;assumption;(intro s hr hm;(first|exact aaf s _ _ _ _ _ (by assumption) af hr hm));intro _ _ p_path r_path hp_path aag _ _;obtain⟨k_path,rfl,h_path⟩:=aag);all_goals(rcases(_:_) with h;exact h))|fail)):P:=h
theorem zc177 (h:P:=by(first|(((with_reducible apply WO.Qb);exact aD;exact eu;assumption;(intro s hr hm;(first|exact aah s _ _ _ _ _ _ (by assumption) af af hr hm));intro _ _ p_text r_text hp_text aai _ _;obtain⟨k_text,rfl,h_text⟩:=aai);all_goals(rcases(_:_) with h;exact h))|fail)):P:=h
theorem qR (h:P:=by(first|(((with_reducible apply WO.Wd);exact aD;(first|exact λs hr=>Sl s _ _ (by assumption) hr);exact qhasv;intro _ _ v_l7Copy _ _);all_goals(rcases(_:_) with h;exact h))|fail)):P:=h
theorem C9 (h:P:=by(first|(((with_reducible apply WO.vi);exact aD;(intro s hr;(first|exact zD s hr));exact tI;intro _ _ _ _);all_goals(rcases(_:_) with h;exact h))|fail)):P:=h
theorem We (h:P:=by(first|(((with_reducible apply WO.lY);exact aD;(first|exact λs hr=>K1 s hr);exact ez;intro _ _ _ _);all_goals(rcases(_:_) with h;exact h))|fail)):P:=h
theorem Qc (h:P:=by(first|(((with_reducible apply WO.Iy);exact aD;(first|exact λs hr=>Bd _ _ s hr);exact cu;intro _ _ a_l12AddW c_l12AddW _ _);all_goals(rcases(_:_) with h;exact h))|fail)):P:=h
theorem AN (h:P:=by(first|(((with_reducible apply WO.vi);exact aD;(intro s hr;(first|exact NX s hr|exact PQ s hr));exact tI;intro _ _ _ _);all_goals(rcases(_:_) with h;exact h))|fail)):P:=h
theorem yC (h:P:=by(first|(((with_reducible apply WO.bG);exact aD;(first|exact λs=>Kd s);intro _ _ _ _);all_goals(rcases(_:_) with h;exact h))|fail)):P:=h
theorem Qd (h:P:=by(first|(((with_reducible apply WO.vi);exact aD;(intro s hr;(first|exact ri s hr|exact hpt2 s hr));exact tI;intro _ _ _ _);all_goals(rcases(_:_) with h;exact h))|fail)):P:=h
theorem Wf (h:P:=by(first|(((with_reducible apply WO.KV);exact aD;(intro s hr;(first|exact U9 s hr|exact hef s hr));exact tI;intro _ _ zX zY _ _);all_goals(rcases(_:_) with h;exact h))|fail)):P:=h
theorem zc189 (h:P:=by(first|(((with_reducible apply WO.V8);exact aD;(intro v s hr hm;(first|exact nG _ _ _ s hr hm|exact MX _ _ _ s hr hm|exact Rn _ _ _ s hr hm));exact eu;exact cu;intro _ _ jc _ _);all_goals(rcases(_:_) with h;exact h))|fail)):P:=h
theorem zc191 (h:P:=by(first|(((with_reducible apply WO.zW);exact aD;(intro v s;(first|exact mg _ _ s));exact eu;intro _ _ wa _ _);all_goals(rcases(_:_) with h;exact h))|fail)):P:=h
theorem Wg (h:P:=by(first|(((with_reducible apply WO.zW);exact aD;(intro v s;(first|exact mg _ _ s));exact eu;intro _ _ E6 _ _);all_goals(rcases(_:_) with h;exact h))|fail)):P:=h
theorem Wh (h:P:=by(first|(((with_reducible apply WO.zW);exact aD;(intro v s;(first|exact mg _ _ s));exact eu;intro _ _ E7 _ _);all_goals(rcases(_:_) with h;exact h))|fail)):P:=h
theorem Wi (h:P:=by(first|(((with_reducible apply WO.zW);exact aD;(intro v s;(first|exact mg _ _ s));exact eu;intro _ _ E8 _ _);all_goals(rcases(_:_) with h;exact h))|fail)):P:=h
theorem Wj (h:P:=by(first|(((with_reducible apply WO.zW);exact aD;(intro v s;(first|exact mg _ _ s));exact eu;intro _ _ Bi _ _);all_goals(rcases(_:_) with h;exact h))|fail)):P:=h
theorem zc201 (h:P:=by(first|(((with_reducible apply WO.Qb);exact aD;exact eu;assumption;(intro s hr hm;(first|exact op_ok s _ _ _ _ _ (by assumption) af hr hm));intro _ _ p_opD r_opD hp_opD hq_opD _ _;obtain⟨Da,rfl,Wk⟩:=hq_opD);all_goals(rcases(_:_) with h;exact h))|fail)):P:=h
theorem pY (h:P:=by(first|(((with_reducible apply WO.kM);exact aD;(intro s hr;exact kh s hr);exact jx;intro _ _ _ _);all_goals(rcases(_:_) with h;exact h))|fail)):P:=h
theorem wb (h:P:=by(first|(((with_reducible apply WO.bG);exact aD;(first|exact λs=>K2 s _ af);intro _ _ _ _);all_goals(rcases(_:_) with h;exact h))|fail)):P:=h
theorem Wl (h:P:=by(first|(((with_reducible apply WO.kM);exact aD;(intro s hr;exact Db s _ _ _ _ _ (by assumption) _ hr);exact jx;intro _ _ _ _);all_goals(rcases(_:_) with h;exact h))|fail)):P:=h
theorem zc217 (h:P:=by(first|(((with_reducible apply WO.kM);exact aD;(intro s hr;exact kN s _ _ _ _ _ (by assumption) _ hr);exact jx;intro _ _ _ _);all_goals(rcases(_:_) with h;exact h))|fail)):P:=h
theorem K3 (h:P:=by(first|(((with_reducible apply WO.kM);exact aD;(intro s hr;exact ID s _ _ _ _ _ (by assumption) _ hr);exact jx;intro _ _ _ _);all_goals(rcases(_:_) with h;exact h))|fail)):P:=h
theorem zc219 (h:P:=by(first|(((with_reducible apply WO.kM);exact aD;(intro s hr;exact IE s _ _ _ _ _ (by assumption) hr);exact jx;intro _ _ _ _);all_goals(rcases(_:_) with h;exact h))|fail)):P:=h
theorem Qe (h:P:=by(first|(((with_reducible apply WO.fneqR);exact gO;exact gO;intro _);all_goals(rcases(_:_) with h;exact h))|fail)):P:=h
theorem Wm (h:P:=by(first|(((with_reducible apply WO.kM);exact aD;(intro s hr;exact qS s _ _ _ _ _ (by assumption) _ hr);exact jx;intro _ _ _ _);all_goals(rcases(_:_) with h;exact h))|fail)):P:=h
theorem wc (h:P:=by(first|(((with_reducible apply WO.kM);exact aD;(intro s hr;exact Wn s _ _ _ _ _ (by assumption) _ hr);exact jx;intro _ _ _ _);all_goals(rcases(_:_) with h;exact h))|fail)):P:=h
theorem zc229 (h:P:=by(first|(((with_reducible apply WO.rm);exact aD;(intro s hr;exact kh s _ hr);(exact uA.mk cu cu cu);intro _ _ _ _);all_goals(rcases(_:_) with h;exact h))|fail)):P:=h
theorem zc230 (h:P:=by(first|(((with_reducible apply WO.sleq);exact gO;exact gO;intro _);all_goals(rcases(_:_) with h;exact h))|fail)):P:=h
theorem zc231 (h:P:=by(first|(((with_reducible apply WO.lookSB);exact gO;exact gO;exact rl;intro _);all_goals(rcases(_:_) with h;exact h))|fail)):P:=h
theorem zc232 (h:P:=by(first|(((with_reducible apply WO.bG);exact aD;(first|exact λs=>NZ s _ af (by assumption));intro _ _ _ _);all_goals(rcases(_:_) with h;exact h))|fail)):P:=h
theorem zc233 (h:P:=by(first|(((with_reducible apply WO.lookSI);exact gO;exact gO;exact rl;intro _);all_goals(rcases(_:_) with h;exact h))|fail)):P:=h
theorem zc234 (h:P:=by(first|(((with_reducible apply WO.updSI);exact gO;exact gO;exact gO;exact wT;intro _);all_goals(rcases(_:_) with h;exact h))|fail)):P:=h
theorem zc235 (h:P:=by(first|(((with_reducible apply WO.lookII);exact gO;exact gO;exact rl;intro _);all_goals(rcases(_:_) with h;exact h))|fail)):P:=h
theorem zc236 (h:P:=by(first|(((with_reducible apply WO.updII);exact gO;exact gO;exact gO;exact wT;intro _);all_goals(rcases(_:_) with h;exact h))|fail)):P:=h
theorem zc237 (h:P:=by(first|(((with_reducible apply WO.updSB);exact gO;exact gO;exact gO;exact wT;intro _);all_goals(rcases(_:_) with h;exact h))|fail)):P:=h
theorem K4 (h:P:=by(first|(((with_reducible apply WO.bG);exact aD;(exact mg);intro _ _ _ _);all_goals(rcases(_:_) with h;exact h))|fail)):P:=h
theorem zc246 (h:P:=by(first|(((with_reducible apply WO.rm);exact aD;(intro s hr;exact UO s hr);(exact uA.mk cu cu cu);intro _ _ _ _);all_goals(rcases(_:_) with h;exact h))|fail)):P:=h
theorem GG (h:P:=by(first|(((with_reducible apply WO.kM);exact aD;(intro s hr;exact uB s hr);exact jx;intro _ _ _ _);all_goals(rcases(_:_) with h;exact h))|fail)):P:=h
theorem Qf (h:P:=by(first|(((with_reducible apply WO.kM);exact aD;(intro s hr;exact AO s _ _ _ _ _ (by assumption) _ (by assumption) hr);exact jx;intro _ _ _ _);all_goals(rcases(_:_) with h;exact h))|fail)):P:=h
theorem Wo (h:P:=by(first|(((with_reducible apply WO.Wp);exact aD;(intro s hr;exact N0 s _ _ _ _ _ _ (by assumption) _ (by assumption) _ hr);exact cu;exact cu;intro _ _ b_add d_add _ _);all_goals(rcases(_:_) with h;exact h))|fail)):P:=h
theorem zc257 (h:P:=by(first|(((with_reducible apply WO.kM);exact aD;(intro s hr;exact Sm s hr);exact jx;intro _ _ _ _);all_goals(rcases(_:_) with h;exact h))|fail)):P:=h
theorem zc258 (h:P:=by(first|(((with_reducible apply WO.Wp);exact aD;(intro s hr;exact K5 s _ _ _ _ _ _ (by assumption) _ (by assumption) hr);exact cu;exact cu;intro _ _ b_less d_less _ _);all_goals(rcases(_:_) with h;exact h))|fail)):P:=h
theorem zc262 (h:P:=by(first|(((with_reducible apply WO.RX);exact gO;exact gO;exact ZX;exact cu;exact mv;intro _ _ a_ac c_ac a0_ac p0_ac d0_ac _ _ _ hs_ac);all_goals(rcases(_:_) with h;exact h))|fail)):P:=h
theorem K6 (h:P:=by(first|(((with_reducible apply WO.kM);exact aD;(intro s hr;exact N1 s hr);exact jx;intro _ _ _ _);all_goals(rcases(_:_) with h;exact h))|fail)):P:=h
theorem Wq (h:P:=by(first|(((with_reducible apply WO.kM);exact aD;(intro s hr;exact zD s hr);exact jx;intro _ _ _ _);all_goals(rcases(_:_) with h;exact h))|fail)):P:=h
theorem zc265 (h:P:=by(first|(((with_reducible apply WO.Ws);exact aD;(intro s;exact iK s);exact eu;intro _ _ b_do d_do b2_do d2_do b0_do d0_do p0_do _ _ Dc);all_goals(rcases(_:_) with h;exact h))|fail)):P:=h
theorem zc266 (h:P:=by(first|(((with_reducible apply WO.N2);exact aD;(intro s h1 h2;exact Dd s _ _ _ _ _ _ af af h1 h2);exact cu;exact cu;intro _ _ a_cp c_cp b_cp d_cp _ _);all_goals(rcases(_:_) with h;exact h))|fail)):P:=h
theorem zc270 (h:P:=by(first|(((with_reducible apply WO.Wt);exact aD;(intro s hr;exact hwi s hr);exact jx;intro _ _ a1_i c1_i b1_i d1_i p1_i a2_i c2_i b2_i d2_i q2_i h1_i h2_i _ _);all_goals(rcases(_:_) with h;exact h))|fail)):P:=h
theorem zc271 (h:P:=by(first|(((with_reducible apply WO.Wt);exact aD;(intro s hr;exact hws s hr);exact jx;intro _ _ a1_w c1_w b1_w d1_w p1_w a2_w c2_w b2_w d2_w q2_w h1_w h2_w _ _);all_goals(rcases(_:_) with h;exact h))|fail)):P:=h
theorem Wu (h:P:=by(first|(((with_reducible apply WO.callP4);exact aD;(intro s h1 h2 h3 h4;exact Kl s _ _ _ _ _ _ _ _ h1 h2 h3 h4);exact cu;exact cu;exact cu;exact cu;intro _ _ _ _);all_goals(rcases(_:_) with h;exact h))|fail)):P:=h
theorem cO (h:P:=by(first|((repeat' (first|refine' aX|refine' ar|fail));all_goals(rcases(_:_) with h;exact h))|fail)):P:=h
theorem zb2 (h:P:=by(first|((repeat' (first|refine' aX|refine' M1|refine' ar|fail));all_goals(rcases(_:_) with h;exact h))|fail)):P:=h
theorem zb39 (h:P:=by(first|((repeat' (first|refine' aX|((with_reducible apply WO.bG);exact aD;(first|exact λs=>aaj s _ _ _);intro _ _ _ _)|refine' ar|fail));all_goals(rcases(_:_) with h;exact h))|fail)):P:=h
theorem Bj (h:P:=by(first|((repeat' (first|refine' aX|refine' Gt|refine' ar|fail));all_goals(rcases(_:_) with h;exact h))|fail)):P:=h
theorem Wv (h:P:=by(first|((repeat' (first|refine' aX|refine' zc58|refine' ar|fail));all_goals(rcases(_:_) with h;exact h))|fail)):P:=h
theorem aak (h:P:=by(first|((repeat' (first|refine' aX|refine' VS|refine' VT|refine' yq|refine' yp|refine' qw|refine' ar|fail));all_goals(rcases(_:_) with h;exact h))|fail)):P:=h
theorem aal (h:P:=by(first|((repeat' (first|refine' aX|refine' VS|refine' VT|refine' yq|refine' yp|refine' qw|refine' KP|refine' ar|fail));all_goals(rcases(_:_) with h;exact h))|fail)):P:=h
theorem zb71 (h:P:=by(first|((repeat' (first|refine' aX|refine' VS|refine' VT|refine' yq|refine' yp|refine' qw|refine' KP|refine' Z9|refine' vI|refine' zc78|refine' ar|fail));all_goals(rcases(_:_) with h;exact h))|fail)):P:=h
theorem Ww (h:P:=by(first|((repeat' (first|refine' aX|refine' yp|refine' qw|refine' yq|refine' vI|refine' KP|refine' ar|fail));all_goals(rcases(_:_) with h;exact h))|fail)):P:=h
theorem Wx (h:P:=by(first|((repeat' (first|refine' aX|refine' yp|refine' qw|refine' yq|refine' vI|refine' KP|refine' VT|refine' VS|refine' zc81|refine' ar|fail));all_goals(rcases(_:_) with h;exact h))|fail)):P:=h
theorem zb78 (h:P:=by(first|((repeat' (first|refine' aX|refine' yp|refine' qw|refine' yq|refine' vI|refine' KP|refine' VT|refine' VS|refine' zc81|refine' Z9|refine' ar|fail));all_goals(rcases(_:_) with h;exact h))|fail)):P:=h
theorem aam (h:P:=by(first|((repeat' (first|refine' aX|refine' vI|refine' zc90|refine' ar|fail));all_goals(rcases(_:_) with h;exact h))|fail)):P:=h
theorem zb93 (h:P:=by(first|((repeat' (first|refine' aX|((with_reducible apply WO.cutOEs);exact gO;exact gO;exact rl;exact mv;intro _ a_s c_s hs_s)|((with_reducible apply WO.clearA);exact gO;assumption;exact wT;exact mv;intro _)|((with_reducible apply WO.cutO0n);exact gO;exact gO;exact rl;exact mv;intro _)|refine' ar|fail));all_goals(rcases(_:_) with h;exact h))|fail)):P:=h
theorem GH (h:P:=by(first|((repeat' (first|refine' aX|refine' GB|refine' P6|refine' V0|refine' ar|fail));all_goals(rcases(_:_) with h;exact h))|fail)):P:=h
theorem zb108 (h:P:=by(first|((repeat' (first|refine' aX|((with_reducible apply WO.callL);exact aD;(first|exact λs=>hg s);exact eu;intro _ _ _ _)|refine' ar|fail));all_goals(rcases(_:_) with h;exact h))|fail)):P:=h
theorem Wy (h:P:=by(first|((repeat' (first|refine' aX|refine' V2|refine' zc117|refine' Gt|refine' zc39|refine' zc118|refine' ar|fail));all_goals(rcases(_:_) with h;exact h))|fail)):P:=h
theorem Wz (h:P:=by(first|((repeat' (first|refine' aX|refine' CV|refine' zS|refine' C0|refine' ar|fail));all_goals(rcases(_:_) with h;exact h))|fail)):P:=h
theorem zb124 (h:P:=by(first|((repeat' (first|refine' aX|((with_reducible apply WO.Iw);exact aD;(first|exact λs=>hR s);intro _ _ a_l9PiecesW c_l9PiecesW _ _)|refine' ar|fail));all_goals(rcases(_:_) with h;exact h))|fail)):P:=h
theorem WA (h:P:=by(first|((repeat' (first|refine' aX|refine' zc133|refine' zc137|refine' zc138|refine' ar|fail));all_goals(rcases(_:_) with h;exact h))|fail)):P:=h
theorem Qg (h:P:=by(first|((repeat' (first|refine' aX|refine' tJ|refine' yB|refine' ar|fail));all_goals(rcases(_:_) with h;exact h))|fail)):P:=h
theorem GI (h:P:=by(first|((repeat' (first|refine' aX|refine' qR|refine' zc191|refine' ar|fail));all_goals(rcases(_:_) with h;exact h))|fail)):P:=h
theorem GJ (h:P:=by(first|((repeat' (first|refine' aX|refine' pY|refine' ar|fail));all_goals(rcases(_:_) with h;exact h))|fail)):P:=h
theorem sb (h:P:=by(first|((repeat' (first|refine' aX|refine' zc229|refine' zc230|refine' zc66|refine' zc63|refine' zc231|refine' zc232|refine' zc233|refine' zc234|refine' zc235|refine' zc236|refine' Z4|refine' zc237|refine' zc65|refine' ar|fail));all_goals(rcases(_:_) with h;exact h))|fail)):P:=h
theorem AP (h:P:=by(first|((repeat' (first|refine' aX|refine' Sg|refine' VW|refine' ar|fail));all_goals(rcases(_:_) with h;exact h))|fail)):P:=h
theorem K7 (h:P:=by(first|((repeat' (first|refine' aX|refine' pY|refine' zc257|refine' KQ|refine' P4|refine' ar|fail));all_goals(rcases(_:_) with h;exact h))|fail)):P:=h
theorem zb235 (h:P:=by(first|((repeat' (first|refine' aX|refine' pY|refine' wc|refine' zc258|((with_reducible apply WO.kM);exact aD;(intro s hr;exact hmy s _ _ hr);exact jx;intro _ _ _ _)|((with_reducible apply WO.kM);exact aD;(intro s hr;exact Sm s _ _ hr);exact jx;intro _ _ _ _)|((with_reducible apply WO.cutO0x);exact gO;exact gO;exact rl;exact mv;intro _)|refine' zc262|refine' ar|fail));all_goals(rcases(_:_) with h;exact h))|fail)):P:=h
theorem GK (h:P:=by(first|((repeat' (first|refine' aX|refine' Wo|refine' Sg|refine' VW|refine' ar|fail));all_goals(rcases(_:_) with h;exact h))|fail)):P:=h
theorem K8 (h:P:=by(first|((repeat' (first|refine' aX|refine' zc265|refine' ar|fail));all_goals(rcases(_:_) with h;exact h))|fail)):P:=h
end Go.Pl
namespace Go.Pl
open Go Go.Ev Go.Lg Go.Proofs
variable {f i:Nat}
theorem IF {a b:UInt8}:(a.toNat:Int)=b.toNat↔a=b:=by
 rw[Int.ofNat_inj,wu]
theorem N3 (c:UInt8)(p q:ay)(h:c∉p):cut c (p++c::q)=p::cut c q:=by
 induction p with
 |nil=>simp[cut]
 |cons x p ih=>
  simp at h;rw[xB,cut,if_neg (λe=>h.1 e.symm),ih h.2]
theorem uD (c:UInt8)(p:ay)(h:c∉p):cut c p=[p]:=by
 induction p with
 |nil=>simp[cut]
 |cons x p ih=>
  simp at h;rw[cut,if_neg (λe=>h.1 e.symm),ih h.2]
theorem Sp (z:ay)(h1:f<=i)(h2:i<z.length):(z.drop f).take (i+1-f)=(z.drop f).take (i-f)++[z.getD i 0]:=by
 have:i+1-f=(i-f)+1:=by omega
 rw[this,vQ]
 congr 1
 rw[xF,show f+(i-f)=i by omega,aY,bk h2];rfl
theorem aan (z:ay)(h1:f<=i)(h2:i<z.length):z.drop f=(z.drop f).take (i-f)++z.getD i 0::z.drop (i+1):=by
 conv=>lhs;rw[<-zq (i-f) (z.drop f)]
 congr 1
 rw[lZ,show f+(i-f)=i by omega,xH h2,aY,bk h2];rfl
theorem uy (s:St)(z:ay)(c:UInt8)(hz:z.length<=100000):AJ 125 [sv z,bv c] s [] [] λv L=>∃a k,v= .slice a (cut c z).length k/\L=[.aJ v 9 1 (ah (cut c z))]:=by
 refine aO f125 ?_;(repeat(first|refine' wU|refine' ar|fail))
 refine W.loop (λk l L=>∃(i fr:Nat)(a:aH)(cp:Nat)(done:List ay),Le [(0,sv z),(1,bv c),(5,.slice a done.length cp),(6,iv fr),(7,iv i)] l/\cr [.aJ (.slice a done.length cp) 9 1 (ah done)] L/\
  k=z.length-i/\fr<=i/\i<=z.length/\done.length<=i/\cut c z=done++cut c (z.drop fr)/\c∉(z.drop fr).take (i-fr)) z.length ⟨0,0,_,_,[],bd,aq,af,af,af,mv,by simp,by simp⟩ ?_
 rintro k l L ⟨i,fr,a,cp,done,hl,hL,rfl,h1,h2,h4,h5,h6⟩;refine W.le ?_ hl hL;clear hl hL;(repeat(first|refine' wU|refine' ar|fail))
 refine W.cond gO ?_ ?_<;>intro h<;>simp only[cl,lD,jJ,vP,Fw,HM,HN] at h
 ·(repeat(first|refine' wU|refine' ar|fail))
  refine W.cond gO ?_ ?_<;>intro hc<;>simp only[cl,lD,jJ,vP,Fw,HM,HN] at hc<;>rw[IF] at hc
  ·(repeat(first|refine' wU|refine' ar|fail))
   refine⟨_,?_,i+1,i+1,_,_,done++[(z.drop fr).take (i-fr)],bd,aq,rfl,af,af,by simp;omega,?_,by simp⟩
   .omega
   .have h9:=N3 c _ (z.drop (i+1)) h6;rw[<-hc,<-aan z h1 af,hc] at h9;rw[h5,h9];simp
  ·(repeat(first|refine' wU|refine' ar|fail))
   refine⟨_,?_,i+1,fr,_,_,done,bd,aq,rfl,af,af,af,h5,?_⟩
   .omega
   .rw[Sp z h1 af];simp[h6];exact λe=>hc e.symm
 ·(repeat(first|refine' wU|refine' ar|fail))
  have hi:i=z.length:=by omega
  subst hi;have h7:cut c z=done++[z.drop fr]:=by
   rw[h5,uD]
   rwa [q9 (by simp)] at h6
  rw[h7];refine⟨bB,_,[.aJ _ 9 1 _],.tmp rfl .nil,aq,_,_,rfl,rfl⟩
end Go.Pl
namespace Go.Pl
open Go Go.Ev Go.Lg Go.Proofs
theorem wX (a b c d e a' b' c' d' e':Int):gL [iv a,iv b,iv c,iv d,iv e] [iv a',iv b',iv c',iv d',iv e']=some (decide (a=a'/\b=b'/\c=c'/\d=d'/\e=e')):=by
 simp only[dN,ud,lR,cq,jv,ek]
 congr 1
 rw[oL];simp
theorem Z0 (s:St)(n a b:Int):bO 43 [iv n,iv a,iv b] s [] (.bool (fR n a b)):=by
 refine aO f43 ?_;(refine' cO)<;>(refine' av)<;>(first|(simp_all [gF,fR];done)|(simp_all [gF,fR];omega))
theorem VN (s:St)(n:Int):bO 171 [iv n] s [] (.bool (RH n)):=by
 refine aO f171 ?_;(refine' zb2)<;>(refine' av)<;>simp_all [gF,RH]
theorem N4 (s:St)(z:ay):bO 244 [sv z] s [] (.bool (Im z)):=by
 refine aO f244 ?_;(refine' zb2)<;>(refine' av)<;>(simp only[gF,Im,fR];congr 1;rw[oL];simp;omega)
theorem wV (s:St)(p:iL):bO 131 [pv p] s [] (.bool (aC p)):=by
 refine aO f131 ?_;(refine' cO)
 apply WO.aeql
 .exact Ev.tmp rfl
 .exact Ev.tmp rfl
 .rfl
 .exact wX _ _ _ _ _ _ _ _ _ _
 intro _;(refine' cO)
 (refine' av)
 simp only[gF,aC,bq]
 congr 1
 obtain⟨a,b,c,d,e⟩:=p;simp
theorem KH (s:St)(p:iL):bO 130 [pv p] s [] (.bool (bw p)):=by
 refine aO f130 ?_;(repeat' (first|refine' aX|((with_reducible apply WO.bG);exact aD;(first|exact λs=>wV s ⟨_,_,_,_,_⟩);intro _ _ _ _)|refine' zc3|refine' M1|refine' ar|fail))<;>(refine' av)<;>simp_all [gF,bw]
theorem NQ (s:St)(n:Int):bO 187 [iv n] s [] (iv (cH n)):=by
 refine aO f187 ?_;(refine' cO)<;>(refine' av)<;>simp_all [gF,cH]<;>omega
theorem N5 (s:St)(n:Int):bO 229 [iv n] s [] (iv (fh n)):=by
 refine aO f229 ?_;(refine' cO)<;>(refine' av)<;>simp_all [gF,fh]<;>omega
theorem NV (s:St)(n:Int)(k:Nat)(hn:0<=n/\n<=10000)(hk:k<=10000):bO 105 [iv n,iv (k:Nat)] s [] (iv (gi n k)):=by
 refine aO f105 ?_;(refine' cO)<;>(refine' av)<;>simp_all [gF,gi]<;>omega
end Go.Pl
namespace Go.Pl
open Go Go.Ev Go.Lg Go.Proofs
variable {i k:Nat}
theorem yD (s:St)(n e:Int)(hn:0<=n/\n<=1000000)(he:0<e/\e<=1000000):bO 186 [iv n,iv e] s [] (iv (dr n e)):=by
 have h1:(n+e-1).tdiv e=(n+e-1)/ e:=Ue af;have h2:0<=(n+e-1)/ e:=Int.ediv_nonneg af af;have h3:(n+e-1)/ e<=n+e-1:=Int.ediv_le_self _ af;refine aO f186 ?_;(repeat(first|refine' wU|refine' ar|fail))
 (refine' av)
 simp[gF,dr,h1]
theorem E9 (s:St)(k n:Int):bO 191 [iv k,iv n] s [] (iv (fj k n)):=by
 have he:fh k=0\/fh k=12\/fh k=128:=by unfold fh;split<;>(try split)<;>simp
 refine aO f191 ?_;(repeat' (first|refine' aX|((with_reducible apply WO.bG);exact aD;(first|exact λs=>N5 s _);intro _ _ _ _)|refine' M1|((with_reducible apply WO.bG);exact aD;(first|exact λs=>yD s _ _ af af);intro _ _ _ _)|refine' ar|fail))<;>(refine' av)<;>simp_all [gF,fj,fR]<;>omega
def N6 (c:UInt8):Bool:=decide (97<=c.toNat)&&decide (c.toNat<=122)
theorem De (p:UInt8->Bool)(z:ay)(h:i<z.length):(z.take (i+1)).all p=((z.take i).all p&&p (z.getD i 0)):=by
 rw[vQ,bk h,Fx,aY,bk h];simp
theorem all_at (p:UInt8->Bool)(z:ay)(h:i<z.length)(hp:p (z.getD i 0)=false):z.all p=false:=by
 rw[Fy];exact⟨z.getD i 0,by rw[aY,bk h];simp,by simpa using hp⟩
theorem R6 (s:St)(z:ay)(hz:z.length<=100000):bO 39 [sv z] s [] (.bool (bT z)):=by
 refine aO f39 ?_;(repeat(first|refine' wU|refine' ar|fail))
 refine W.loop (λk l L=>∃(i:Nat),Le [(0,sv z),(3,iv i)] l/\cr [] L/\k=z.length-i/\i<=z.length/\(z.take i).all N6=true) z.length ⟨0,bd,aq,af,af,by simp⟩ ?_;rintro k l L ⟨i,hl,hL,rfl,h1,h2⟩;refine W.le ?_ hl hL;clear hl hL;(repeat(first|refine' wU|refine' ar|fail))
 refine W.cond gO ?_ ?_<;>intro h<;>simp only[cl,lD,jJ,vP,Fw,HM,HN] at h
 ·(refine' cO)
  rotate_left 1
  .refine⟨_,?_,i+1,bd,aq,rfl,af,?_⟩
   .omega
   .rw[De _ _ af,h2];simp only[N6];simp_all;omega
  all_goals
   (refine' av)
   have:N6 (z.getD i 0)=false:=by simp only[N6];simp_all;omega
   have:=all_at N6 z af this;unfold N6 at this;simp[gF,bT];intro h3;rw[Fy] at this;obtain⟨x,hx,h4⟩:=this;exact absurd (h3 x hx) (by simpa using h4)
 ·(repeat(first|refine' wU|refine' M1|refine' ar|fail))
  (refine' av)
  have hi:i=z.length:=by omega
  subst hi;rw[gS] at h2;unfold N6 at h2;simp only[gF,bT,h2,fR]
  congr 1;rw[oL];simp;omega
theorem aao (z:ay)(hk:k<=9)(hl:k<=z.length)(ha:(z.take k).all kF=true)(hs:k=9\/k=z.length\/kF (z.getD k 0)=false):sT z=z.take k:=by
 unfold sT;rw[iM] at ha;have h1:z.take 9=z.take k++(z.take 9).drop k:=by
  conv=>lhs;rw[<-zq k (z.take 9)]
  rw[M5,Ba hk]
 rw[h1,List.takeWhile_append_of_pos (λa h=>ha a h)];have h2:((z.take 9).drop k).takeWhile kF=[]:=by
  rcases hs with rfl|rfl|hs
  .rw[zt (by simp;omega)];rfl
  .rw[zt (by simp;omega)];rfl
  .rcases kU k z.length with h|h
   .rcases kU k 9 with h9|h9
    .rw[xH (by simp;omega),List.takeWhile_cons_of_neg];rw[aY,bk h] at hs;simpa using hs
    .rw[zt (by simp;omega)];simp
   .rw[zt (by simp;omega)];simp
 rw[h2,iH]
theorem Df (z:ay)(h:k<z.length):numOf (z.take (k+1))=10*numOf (z.take k)+((z.getD k 0).toNat-48):=by
 unfold numOf;rw[vQ,List.foldl_append,bk h,aY,bk h];rfl
theorem K9 (s:St)(z:ay)(hz:z.length<=100000):bO 194 [sv z] s [] (.tuple ⟨[iv (kG z).1,iv (kG z).2]⟩):=by
 refine aO f194 ?_;(repeat(first|refine' wU|refine' ar|fail))
 refine W.bH (λk l L=>∃(i n:Nat),Le [(0,sv z),(4,iv n),(5,iv i)] l/\cr [] L/\k=9-i/\i<=z.length/\i<=9/\(z.take i).all kF=true/\n=numOf (z.take i)/\n<10^ i)
  (λl L=>Le [(0,sv z),(4,iv (numOf (sT z))),(5,iv (sT z).length)] l/\cr [] L) 9 ⟨0,0,bd,aq,af,af,af,by simp,by simp[numOf],by simp⟩ ?_ ?_
 .rintro k l L ⟨i,n,hl,hL,rfl,h1,h2,h3,h4,h5⟩;refine W.le ?_ hl hL;clear hl hL;have h6:n<1000000000:=A9 h5 (Nat.pow_le_pow_right af h2);have h7:=(z.getD i 0).toNat_lt;(refine' cO)
  .have hd:kF (z.getD i 0)=true:=by simp only[kF,cv,cl];omega
   refine⟨_,?_,i+1,10*n+((z.getD i 0).toNat-48),?_,aq,rfl,af,af,?_,?_,?_⟩
   .omega
   .have:(((10*n+((z.getD i 0).toNat-48):Nat):Int))=10*(n:Int)+((z.getD i 0).toNat-48:Int):=by omega
    rw[this];exact bd
   .rw[De _ _ af,h3,hd];rfl
   .rw[Df _ af,h4]
   .rw[T8];omega
  all_goals
   have hs:i=9\/i=z.length\/kF (z.getD i 0)=false:=by
    simp only[kF,zr,lD,cl] at *;omega
   have hk:=aao z h2 h1 h3 hs;have N7:(sT z).length=i:=by rw[hk,dg];omega
   rw[N7,hk,<-h4];exact⟨bd,aq⟩
 .rintro l L ⟨hl,hL⟩;refine aj ?_;refine W.le ?_ hl hL;have h8:(sT z).length<=z.length:=by
   unfold sT;exact ku (List.takeWhile_sublist _).length_le (by simp;omega)
  have h9:∀n,1<n->n<=z.length->z.headD 0=z.getD 0 0:=λn _ _=>by cases z<;>rfl
  (refine' cO)<;>(refine' av)<;>simp only[gF,kG]
  .rw[if_pos ⟨af,by rw[h9 (sT z).length af af];rw[<-wu];show _=48;omega⟩];rfl
  .rw[if_neg];rintro⟨EB,YE⟩;rw[h9 _ EB af] at YE;rw[YE] at jU;exact jU rfl
  .rw[if_neg];omega
theorem Qh (z:ay):(sT z).length<=z.length/\(sT z).length<=9:=by
 unfold sT;have h:=(List.takeWhile_sublist kF (l:=z.take 9)).length_le;rw[dg] at h;omega
theorem aap (z:ay):(kG z).2<=9/\((kG z).2<=z.length):=by
 have:=Qh z;unfold kG;dsimp only;split<;>dsimp only<;>omega
def numT (z:ay):Value:=.tuple ⟨[iv (qu z),.bool (iu z).isSome]⟩
theorem zZ (s:St)(z:ay)(hz:z.length<=100000):bO 158 [sv z] s [] (numT z):=by
 refine aO f158 ?_;(repeat' (first|refine' aX|((with_reducible apply WO.bG);exact aD;(first|exact λs=>K9 s _ af);intro _ _ _ _)|refine' ar|fail))<;>(refine' av)<;>simp only[gF,numT,qu,iu]<;>first|(rw[if_pos af];rfl)|(rw[if_neg af];rfl)
end Go.Pl
namespace Go.Pl
open Go Go.Ev Go.Lg Go.Proofs
theorem N8 (z:ay){i:Nat}(h:i<z.length)(a b:Nat):Km (z.drop i) a b=Km (z.drop (i+1)) ((a+(z.getD i 0).toNat+1)% 9973) ((b+(a+(z.getD i 0).toNat+1)% 9973)% 9973):=by
 rw[xH h,aY,bk h];rfl
theorem La (s:St)(z:ay)(hz:z.length<=100000):bO 230 [sv z] s [] (iv (sumOf z:Nat)):=by
 refine aO f230 ?_;(repeat(first|refine' wU|refine' ar|fail))
 refine W.bH (λk l L=>∃(i a b:Nat),Le [(0,sv z),(3,iv a),(4,iv b),(5,iv i)] l/\cr [] L/\k=z.length-i/\i<=z.length/\a<9973/\b<9973/\Km (z.drop i) a b=sumOf z)
  (λl L=>∃(a b:Nat),Le [(3,iv a),(4,iv b)] l/\cr [] L/\a<9973/\b<9973/\a*9973+b=sumOf z) z.length ⟨0,1,0,bd,aq,af,af,af,af,by simp[sumOf]⟩ ?_ ?_
 .rintro k l L ⟨i,a,b,hl,hL,rfl,h1,h2,h3,h4⟩;refine W.le ?_ hl hL;clear hl hL;have h7:=(z.getD i 0).toNat_lt;have h8:((a:Int)+(z.getD i 0).toNat+1).tmod 9973=(((a+(z.getD i 0).toNat+1)% 9973:Nat):Int):=rfl;have h9:((a+(z.getD i 0).toNat+1)% 9973)<9973:=Q6 _ af;(refine' cO)
  .refine⟨_,?_,i+1,(a+(z.getD i 0).toNat+1)% 9973,(b+(a+(z.getD i 0).toNat+1)% 9973)% 9973,bd,aq,rfl,af,h9,Q6 _ af,?_⟩
   .omega
   .exact(N8 z af a b).symm.trans h4
  .have hi:i=z.length:=by omega
   subst hi;refine⟨a,b,bd,aq,h2,h3,?_⟩;rw[<-h4,ig];rfl
 .rintro l L ⟨a,b,hl,hL,h1,h2,h3⟩;refine aj ?_;refine W.le ?_ hl hL;(refine' cO)
  (refine' av)
  rw[<-h3];rfl
theorem gj (n:Nat):∀k,n<10^ (k+1)->(gM n).length<=k+1:=by
 induction n using Nat.strongRecOn with
 |ind n ih=>
  intro k hk;unfold gM;split
  .simp
  .cases k with
   |zero=>simp at hk;omega
   |succ k=>
    have:=ih (n/ 10) af k (by rw[T8] at hk;omega);simp;omega
theorem Qi (n:Nat)(h:n<10000000000):(gM n).length<=10:=gj n 9 h
theorem WB (s:St)(n:Nat)(hn:n<10000000000):bO 176 [iv (n:Int)] s [] (sv (gM n)):=by
 induction n using Nat.strongRecOn generalizing s with
 |ind n ih=>
  have h1:((n:Int).tdiv 10)=((n/ 10:Nat):Int):=rfl;have h2:((n:Int).tmod 10)=((n% 10:Nat):Int):=rfl;have hd:=Qi (n/ 10) af;refine aO f176 ?_;(repeat' (first|refine' aX|((with_reducible apply WO.bG);exact aD;(first|exact λs=>ih (n/ 10) af s af);intro _ _ _ _)|refine' ar|fail))
  ·(refine' av)
   rw[gM,dif_pos af,show((48:Int)+n).toNat=48+n by omega];rfl
  ·(refine' av)
   conv=>rhs;rw[gM,dif_neg af]
   simp only[gF];have:((48:Int)+((n:Int).tmod 10)).toNat=48+n% 10:=by rw[h2];omega
   rw[this]
  all_goals omega
theorem R5 (s:St)(n:Int)(hn:0<=n/\n<10000000000):bO 176 [iv n] s [] (sv (dec n)):=by
 obtain⟨m,rfl⟩:=xI hn.1;exact WB s m af
theorem nP (n:Int)(h:0<=n/\n<10000000000):(dec n).length<=10:=by
 obtain⟨m,rfl⟩:=xI h.1;exact Qi m af
theorem CT (s:St)(p:iL)(z:ay)(hz:z.length<=100000):bO 193 [pv p,sv z] s [] (.bool (fits p z)):=by
 refine aO f193 ?_;(repeat' (first|refine' aX|refine' R1|refine' Gt|((with_reducible apply WO.bG);exact aD;(first|exact λs=>La s _ af);intro _ _ _ _)|refine' ar|fail))<;>(refine' av)<;>simp_all [gF,fits]
theorem Lb {p:iL}(h:bw p=true):(0<=p.row/\p.row<=63)/\(0<=p.de/\p.de<=900)/\(0<=p.size/\p.size<=128)/\(0<=p.sum/\p.sum<=99460728)/\(0<=p.level/\p.level<=2):=by
 simp only[bw,aC,RH,fR,mC,cv,cl,bq] at h;rcases h with h|h
 .have h:=vM h;subst h;simp
 .omega
theorem Gu (s:St)(p:iL):bO 177 [pv p] s [] (sv (eH p)):=by
 by_cases hp:bw p=true
 .have hb:=Lb hp;have d1:=nP p.row af;have d2:=nP p.de af;have d3:=nP p.size af;have d4:=nP p.sum af;have d5:=nP p.level af;refine aO f177 ?_;(repeat' (first|refine' aX|refine' R1|refine' Gt|refine' Z1|refine' ar|fail))
  all_goals first|((refine' av);simp_all [gF,eH];done)|(exfalso;simp_all;done)
 .refine aO f177 ?_;(repeat' (first|refine' aX|refine' R1|refine' Gt|refine' ar|fail))
  all_goals first|((refine' av);simp_all [gF,eH];done)|(exfalso;simp_all;done)
end Go.Pl
namespace Go.Pl
open Go Go.Ev Go.Lg Go.Proofs
variable {i:Nat}{s:ay}
theorem tf {b:Bool}(h:b=true)(k:b=false):False:=by rw[h] at k;cases k
def tS (o:Option iL):Value:=.tuple ⟨[pv (o.getD bq),.bool o.isSome]⟩
theorem oA (s:St)(a b c:Int)(z:ay)(hz:z.length<=100000):bO 221 [iv a,iv b,iv c,sv z] s [] (tS (rU a b c z)):=by
 refine aO f221 ?_;(repeat' (first|refine' aX|((with_reducible apply WO.bG);exact aD;(first|exact λs=>N4 s _);intro _ _ _ _)|((with_reducible apply WO.bG);exact aD;(first|exact λs=>La s _ af);intro _ _ _ _)|refine' R1|refine' ar|fail))<;>(refine' av)<;>simp_all [gF,rU,tS]<;>rfl
theorem yE (c:UInt8)(z:ay):∀w∈cut c z,w.length<=z.length:=by
 induction z with
 |nil=>simp[cut]
 |cons x z ih=>
  intro w hw;unfold cut at hw;split at hw
  .rcases bV.1 hw with rfl|hw
   .simp
   .have:=ih w hw;simp;omega
  .split at hw
   .simp at hw;subst hw;simp
   .rename_i h;rw[h] at ih;rcases bV.1 hw with rfl|hw
    .have:=ih _ jr;simp;omega
    .have:=ih w (lE _ hw);simp;omega
theorem uE (c:UInt8)(z:ay):(cut c z).length<=z.length+1:=by
 induction z with
 |nil=>simp[cut]
 |cons x z ih=>
  unfold cut;split
  .simp;omega
  .split
   .simp
   .rename_i h;rw[h] at ih;simp at ih⊢;omega
theorem aF {α:Type}{l:List α}(h:i<l.length)(d:α):l.getD i d∈l:=by
 rw[aY,bk h];simp
def Bk (s:ay):Option Int:=(iu s).map λn=>(n:Int)
theorem Sq (h:(iu s).isSome=false):Bk s=none:=by
 unfold Bk;cases hn:iu s<;>simp_all
theorem Sr (h:(iu s).isSome=true):Bk s=some (qu s):=by
 unfold Bk qu;cases hn:iu s<;>simp_all
theorem Ss (z:ay):iX z=if z=[45] then some bq else if(cut 46 z).length≠5 then none else match(cut 46 z).mapM Bk with
  |none=>none
  |some q=>
   let p:iL:=⟨q.getD 0 0,q.getD 1 0,q.getD 2 0,q.getD 3 0,q.getD 4 0⟩
   if !bw p||aC p then none else some p:=by
 unfold iX;split
 .rfl
 .split
  .rename_i a b c d e h;rw[h];simp only[dh,mD,Bk,EK,List.mapM_nil];cases iu a<;>cases iu b<;>cases iu c<;>cases iu d<;>cases iu e<;>rfl
  .rename_i h;rw[if_pos];intro h5;rcases hw:cut 46 z with _|⟨a,_|⟨b,_|⟨c,_|⟨d,_|⟨e,_|⟨f,l⟩⟩⟩⟩⟩⟩<;>rw[hw] at h5<;>simp at h5
   exact h a b c d e hw
theorem vj {α β:Type}(f:α->Option β)(l:List α)(d:α)(h:i<l.length):(l.take (i+1)).mapM f=match(l.take i).mapM f with
  |none=>none
  |some q=>match f (l.getD i d) with
   |none=>none
   |some x=>some (q++[x]):=by
 rw[vQ,bk h,List.mapM_append,aY,bk h];simp only[Option.toList,EK,List.mapM_nil,Option.getD];cases (l.take i).mapM f<;>cases f l[i]<;>rfl
theorem mapM_none {α β:Type}(f:α->Option β)(l:List α)(d:α)(h:i<l.length)(hf:f (l.getD i d)=none):l.mapM f=none:=by
 conv=>lhs;rw[<-zq (i+1) l]
 rw[List.mapM_append,vj f l d h,hf];cases (l.take i).mapM f<;>rfl
theorem pZ {α β:Type}(f:α->Option β):∀(l:List α)(q:List β),l.mapM f=some q->q.length=l.length
 |[],q,h=>by simp at h;subst h;rfl
 |x::l,q,h=>by
  rw[EK] at h;cases hx:f x with
  |none=>rw[hx] at h;cases h
  |some y=>
   rw[hx] at h;cases hl:l.mapM f with
   |none=>rw[hl] at h;cases h
   |some r=>
    rw[hl] at h;cases h
    simp[pZ f l r hl]
theorem GL (s:St)(z:ay)(hz:z.length<=100000):bO 159 [sv z] s [] (tS (iX z)):=by
 have hm:=uE 46 z;have hlw:∀i,i<(cut 46 z).length->((cut 46 z).getD i []).length<=100000:=λi hi=>ku (yE 46 z _ (aF hi _)) hz
 rw[Ss];refine aO f159 ?_;(repeat' (first|refine' aX|refine' VO|refine' R1|refine' Gt|refine' ar|fail))
 ·(refine' av);simp[jU,gF,tS];rfl
 ·(refine' av);rw[if_neg (by assumption),if_pos af];rfl
 generalize hw:cut 46 z=w at *
 have hw5:w.length=5:=by omega
 refine W.bH (λk l L=>∃(i:Nat)(q:List Int)(a:aH)(c:Nat),Le [(2,aP ba),(4,.slice ve w.length vg),(5,.slice a q.length c),(6,iv i)] l/\cr [.box ba (rk bq) 60 false,.aJ (.slice ve w.length vg) 9 1 (ah w),.aJ (.slice a q.length c) 3 1 (ah q)] L/\k=5-i/\i<=5/\(w.take i).mapM Bk=some q)
  (λl L=>∃(q:List Int)(a:aH)(c:Nat),Le [(2,aP ba),(5,.slice a q.length c)] l/\cr [.box ba (rk bq) 60 false,.aJ (.slice a q.length c) 3 1 (ah q)] L/\w.mapM Bk=some q) 5 ⟨0,[],_,_,bd,aq,af,af,by simp⟩ ?_ ?_
 .rintro k l L ⟨i,q,a,c,hl,hL,rfl,h1,h2⟩;refine W.le ?_ hl hL;clear hl hL;have hq:=pZ _ _ _ h2;rw[dg] at hq;have dA:i<w.length->(w.getD i c9.lW).length<=100000:=hlw i;(repeat' (first|refine' aX|((with_reducible apply WO.bG);exact aD;(first|exact λs=>zZ s _ af);intro _ _ _ _)|refine' ar|fail))
  ·(refine' av)
   have hn:Bk (w.getD i [])=none:=Sq jU;rw[if_neg (by assumption),if_neg af,mapM_none Bk w [] af hn];rfl
  .have hs:=vj Bk w [] (show i<w.length by omega);have hn:Bk (w.getD i [])=some (qu (w.getD i [])):=Sr jU;rw[h2,hn] at hs;exact⟨_,af,i+1,q++[qu (w.getD i [])],_,_,bd,aq,rfl,af,hs⟩
  .have hi:i=5:=by omega
   subst hi;rw[q9 af] at h2;exact⟨q,_,_,bd,aq,h2⟩
 .rintro l L ⟨q,a,c,hl,hL,h1⟩;refine aj ?_;refine W.le ?_ hl hL;clear hl hL;have hq:=pZ _ _ _ h1;(repeat' (first|refine' aX|refine' R1|refine' Gt|refine' ar|fail))
  all_goals
   (refine' av)
   rw[if_neg (by assumption),if_neg af,h1];first
                                             |exact Eq.trans (b:=tS none) rfl (gb tS (if_pos (Fz.2 (.inl hg))).symm)
                                             |exact Eq.trans (b:=tS none) rfl (gb tS (if_pos (Fz.2 (.inr hc))).symm)
                                             |exact Eq.trans (b:=tS (some _)) rfl (gb tS (if_neg (λh=>(Fz.1 h).elim (λh=>tf h hg) (λh=>tf h hc))).symm)
end Go.Pl
namespace Go.Pl
open Go Go.Ev Go.Lg Go.Proofs
variable {i:Nat}
def aaq (o:Option ay):Value:=.tuple ⟨[sv (o.getD []),.bool o.isSome]⟩
theorem jA (p:iL):(eH p).length<=54:=by
 unfold eH;split
 .simp
 .split
  .simp
  .rename_i h _;have hb:=Lb (by simpa using h);have d1:=nP p.row af;have d2:=nP p.de af;have d3:=nP p.size af;have d4:=nP p.sum af;have d5:=nP p.level af;simp;omega
theorem Dg (c:UInt8):∀(l:List ay)(w:ay),l≠[]->il c (l++[w])=il c l++c::w
 |[],_,h=>absurd rfl h
 |[a],w,_=>by simp[il]
 |a::b::l,w,_=>by
  have:=Dg c (b::l) w (by simp);simp only[xB] at this⊢;simp[il,this]
theorem fC {α:Type}(l:List α)(d:α)(h:i<l.length):l.take (i+1)=l.take i++[l.getD i d]:=by
 rw[vQ,bk h,aY,bk h];rfl
theorem GM (c:UInt8)(m:Nat):∀(l:List ay),(∀w∈l,w.length<=m)->(il c l).length<=l.length*(m+1)
 |[],_=>by simp[il]
 |[a],h=>by have:=h a (by simp);simp[il];omega
 |a::b::l,h=>by
  have h1:=h a (by simp);have h2:=GM c m (b::l) λw hw=>h w (lE _ hw)
  simp only[il,bR,dh] at h2⊢;rw[mq (l.length+1) 1];omega
theorem Sj (s:St)(a:aH)(c:Nat)(p:cV)(hp:p.length<=100000)(hr:bM s a p.length 5 (ah p)):bO 246 [.slice a p.length c] s (ai a) (aaq (j8 p)):=by
 have hd:=Rd.of hr (A:=ai a) λb hb=>hb
 refine aO f246 ?_;(refine' cO)
 ·(refine' av)
  unfold j8;rw[if_pos af];rfl
 have h4:p.length=4:=by omega
 refine W.bH (λk l L=>∃(i:Nat),Le [(0,.slice a p.length c),(4,sv (il 44 ((p.take i).map eH))),(5,.bool !((p.take i).all aC)),(6,iv i)] l/\cr [] L/\k=4-i/\i<=4/\(p.take i).any (λp=>!bw p)=false)
  (λl L=>Le [(4,sv (il 44 (p.map eH))),(5,.bool !(p.all aC))] l/\cr [] L/\p.any (λp=>!bw p)=false) 4 ⟨0,bd,aq,af,af,by simp⟩ ?_ ?_
 .rintro k l L ⟨i,hl,hL,rfl,h1,h2⟩;refine W.le ?_ hl hL;clear hl hL;have hj:(il 44 ((p.take i).map eH)).length<=1000:=by
   refine ku (GM 44 54 _ λw hw=>?_) ?_
   .obtain⟨q,_,rfl⟩:=n9.1 hw;exact jA q
   .rw[vL,dg];omega
  have Nv:=jA (p.getD i c9.lW);have e:i<4->p.take (i+1)=p.take i++[p.getD i bq]:=λh=>fC p bq af
  have e4a:i<4->0<i->il 44 ((p.take (i+1)).map eH)=(il 44 ((p.take i).map eH)++[44])++eH (p.getD i bq):=λh h'=>by
   rw[e h,Jw,xC,FA,Dg _ _ _ (λh0=>by
    have:=gb List.length h0;rw[vL,dg,mD] at this;omega),kA];rfl
  have e4b:i=0->il 44 ((p.take (i+1)).map eH)=il 44 ((p.take i).map eH)++eH (p.getD i bq):=λh=>by
   subst h;rw[e af];rfl
  have e5a:i<4->(p.take i).all aC=true->(!(p.take (i+1)).all aC)= !aC (p.getD i bq):=λh h'=>by
   rw[e h,Fx,h'];simp
  have e5b:i<4->(p.take i).all aC=false->(!(p.take (i+1)).all aC)=true:=λh h'=>by
   rw[e h,Fx,h'];simp
  have e2:i<4->bw (p.getD i bq)=true->(p.take (i+1)).any (λp=>!bw p)=false:=λh h'=>by
   rw[e h,List.any_append,h2];simpa using h'
  (repeat' (first|refine' aX|refine' R1|refine' Gt|refine' zc15|refine' ar|fail))
  ·(refine' av)
   unfold j8;rw[if_neg af,if_pos];rfl;rw[FB];exact⟨p.getD i bq,aF af bq,hc⟩
  rotate_right 1
  .have hi:i=4:=by omega
   subst hi;have ht:p.take 4=p:=q9 af;rw[ht] at h2⊢;exact⟨bd,aq,h2⟩
  all_goals
   have Js:i<4:=by omega
   refine⟨_,af,i+1,?_,aq,rfl,af,e2 Js (by assumption)⟩;first
                                                             |(rw[e4a Js af,e5a Js (by assumption)];exact bd;done)
                                                             |(rw[e4b af,e5a Js (by assumption)];exact bd;done)
                                                             |(rw[e4a Js af,e5b Js (by assumption)];exact bd;done)
                                                             |(rw[e4b af,e5b Js (by assumption)];exact bd;done)
 .rintro l L ⟨hl,hL,h1⟩;refine aj ?_;refine W.le ?_ hl hL;clear hl hL;(refine' cO)
  all_goals
   (refine' av)
   unfold j8;rw[if_neg af,if_neg (by rw[h1];simp)];first|(rw[if_pos (by simpa using hc)];rfl)|(rw[if_neg (by simpa using hc)];rfl)
theorem N9 {z:ay}(c:UInt8)(h:i<(cut c z).length):((cut c z).getD i []).length<=z.length:=yE c z _ (aF h _)
theorem WC {α:Type}(p:α->Bool)(q:List α)(x:α):(q++[x]).all p=(q.all p&&p x):=by simp
theorem Lc {α:Type}{o:Option α}{d:α}(h:o.isSome=true):o=some (o.getD d):=by cases o<;>simp_all
theorem Su (s:St)(z:ay)(hz:z.length<=100000):ke aU aW 247 [sv z] s [] 60 ((j9 z).getD []) (j9 z).isSome:=by
 have hm:=uE 44 z;have hlw:∀i,i<(cut 44 z).length->((cut 44 z).getD i c9.lW).length<=100000:=λi hi=>ku (N9 44 hi) hz
 unfold j9;refine aO f247 ?_;(repeat' (first|refine' aX|refine' VO|refine' ar|fail))
 generalize hw:cut 44 z=w at *
 refine W.bH (λk l L=>∃(i:Nat)(q:cV)(a:aH)(c:Nat),Le [(4,.slice ve w.length vg),(5,.slice a q.length c),(6,.bool !(q.all aC)),(7,iv i)] l/\cr [.aJ (.slice ve w.length vg) 9 1 (ah w),.aJ (.slice a q.length c) 60 5 (ah q)] L/\k=w.length-i/\i<=w.length/\(w.take i).mapM iX=some q)
  (λl L=>∃(q:cV)(a:aH)(c:Nat),Le [(5,.slice a q.length c),(6,.bool !(q.all aC))] l/\cr [.aJ (.slice a q.length c) 60 5 (ah q)] L/\w.mapM iX=some q) w.length ⟨0,[],_,_,bd,aq,af,af,by simp⟩ ?_ ?_
 .rintro k l L ⟨i,q,a,c,hl,hL,rfl,h1,h2⟩;refine W.le ?_ hl hL;clear hl hL;have hq:=pZ _ _ _ h2;rw[dg] at hq;have dA:=hlw i;(repeat' (first|refine' aX|((with_reducible apply WO.bG);exact aD;(first|exact λs=>GL s _ af);intro _ _ _ _)|refine' Gt|refine' ar|fail))
  .have hn:iX (w.getD i [])=none:=by
    have:=jU;exact Option.isSome_eq_false_iff.1 this|> Option.isNone_iff_eq_none.1
   rw[mapM_none iX w [] af hn];(refine' fq)<;>rfl
  rotate_right 1
  .have hi:i=w.length:=by omega
   subst hi;rw[gS] at h2;exact⟨q,_,_,bd,aq,h2⟩
  all_goals
   have hs:=vj iX w [] (show i<w.length by omega);have hn:iX (w.getD i [])=some ((iX (w.getD i [])).getD bq):=Lc (by assumption);rw[h2,hn] at hs;refine⟨_,af,i+1,q++[(iX (w.getD i [])).getD bq],_,_,?_,aq,rfl,af,hs⟩;rw[WC];first|(rw[show q.all aC=true from by simpa using tR];exact bd;done)|(rw[show q.all aC=false from by simpa using tR];exact bd;done)
 .rintro l L ⟨q,a,c,hl,hL,h1⟩;refine aj ?_;refine W.le ?_ hl hL;clear hl hL;have hq:=pZ _ _ _ h1;rw[h1];(refine' cO)
  all_goals
   (refine' fq)<;>dsimp only<;>first
     |(rw[if_pos (.inl af)];rfl)
     |(rw[if_pos (.inr (by simpa using jU))];rfl)
     |(rw[if_neg (λh=>h.elim (λh=>h af) (λh=>tf h (by simpa using jU)))];rfl)
theorem Dh:∀(l:List ay)(x:ay)(out:ay),kH (l++[x]) out=match kH l out with
  |none=>none
  |some o=>if 2048<x.length then none else if 2048<(o++(gM x.length++58::x)).length then none else some (o++(gM x.length++58::x))
 |[],x,out=>by simp[kH]
 |y::l,x,out=>by
  simp only[xB,kH];split
  .rfl
  .split
   .rfl
   .exact Dh l x _
theorem Di:∀(l m:List ay)(out:ay),kH l out=none->kH (l++m) out=none
 |[],m,out,h=>by simp[kH] at h
 |y::l,m,out,h=>by
  simp only[xB,kH] at h⊢;split
  .rfl
  .rename_i h1;rw[if_neg h1] at h;split
   .rfl
   .rename_i h2;rw[if_neg h2] at h;exact Di l m _ h
theorem WE (l:List ay)(out:ay)(h:i<l.length)(hn:kH (l.take (i+1)) out=none):kH l out=none:=by
 rw[<-zq (i+1) l];exact Di _ _ _ hn
theorem GN:∀(l:List ay)(out:ay)(o:ay),out.length<=2048->kH l out=some o->o.length<=2048
 |[],out,o,h,k=>by simp[kH] at k;subst k;exact h
 |y::l,out,o,h,k=>by
  simp only[kH] at k;split at k
  .cases k
  .split at k
   .cases k
   .rename_i h2;exact GN l _ o af k
theorem yF (s:St)(a:aH)(c:Nat)(p:List ay)(hp:p.length<=100000)(hr:bM s a p.length 1 (ah p)):bO 175 [.slice a p.length c] s (ai a) (aaq (iW p)):=by
 have hd:=Rd.of hr (A:=ai a) λb hb=>hb
 refine aO f175 ?_;(repeat(first|refine' wU|refine' ar|fail))
 refine W.bH (λk l L=>∃(i:Nat)(o:ay),Le [(0,.slice a p.length c),(4,sv o),(5,iv i)] l/\cr [] L/\k=p.length-i/\i<=p.length/\(i=0\/p.length<=60)/\kH (p.take i) []=some o)
  (λl L=>∃(o:ay),Le [(0,.slice a p.length c),(4,sv o)] l/\cr [] L/\((p.length<=60/\kH p []=some o)\/(60<p.length/\o=[]))) p.length ⟨0,[],bd,aq,af,af,.inl rfl,by simp[kH]⟩ ?_ ?_
 .rintro k l L ⟨i,o,hl,hL,rfl,h1,h2,h3⟩;refine W.le ?_ hl hL;clear hl hL;have ho:=GN _ _ _ (by simp) h3;have hx:(p.getD i c9.lW).length<10000000000->(dec ((p.getD i c9.lW).length:Int)).length<=10:=λh=>nP _ af
  have e:=λh:i<p.length=>Dh (p.take i) (p.getD i c9.lW) []
  have e':=λh:i<p.length=>fC p c9.lW h
  rw[h3] at e;have hf:p.length<=60->i<p.length->kH (p.take (i+1)) []=none->iW p=none:=λh h' h''=>by
   unfold iW;rw[if_neg af];exact WE p [] h' h''
  have ea:∀w:ay,o++dec (w.length:Int)++[58]++w=o++(gM w.length++58::w):=λw=>by simp[dec]
  (repeat' (first|refine' aX|refine' Z1|refine' ar|fail))
  ·(refine' av)
   rw[hf af af (by rw[e' af,e af];exact if_pos (by have:=jU;omega))];rfl
  ·(refine' av)
   rw[hf af af (by
    rw[e' af,e af];refine(if_neg af).trans (if_pos ?_);have:=jU;rw[ea] at this;exact Int.ofNat_lt.1 this)];rfl
  .have h9:=jU;rw[ea] at h9;refine⟨_,af,i+1,o++(gM (p.getD i c9.lW).length++58::p.getD i c9.lW),?_,aq,rfl,af,.inr af,?_⟩
   .have:=ea (p.getD i c9.lW);rw[<-this];exact bd
   .rw[e' af,e af];refine(if_neg af).trans (if_neg ?_);intro EB;have:(o++(gM (p.getD i c9.lW).length++58::p.getD i c9.lW)).length<=2048:=Int.ofNat_le.1 h9;omega
  all_goals
   rcases kU 60 p.length with h|h
   .have:i=0:=by omega
    subst this;simp[kH] at h3;exact⟨o,bd,aq,.inr ⟨h,h3⟩⟩
   .have hi:i=p.length:=by omega
    subst hi;rw[gS] at h3;exact⟨o,bd,aq,.inl ⟨af,h3⟩⟩
 .rintro l L ⟨o,hl,hL,h1⟩;refine aj ?_;refine W.le ?_ hl hL;clear hl hL;(refine' cO)
  (refine' av)
  unfold iW;rcases h1 with⟨h1,h2⟩|⟨h1,rfl⟩
  .rw[if_neg af,h2];simp[gF,aaq];omega
  .rw[if_pos h1];simp[gF,aaq];omega
end Go.Pl
namespace Go.Pl
open Go Go.Ev Go.Lg Go.Proofs
theorem Sv (z:ay)(c:UInt8):nk (z++[c])=if c=0 then nk z else z++[c]:=by
 unfold nk;rw[List.reverse_append,List.reverse_singleton,tw,List.dropWhile_cons];split
 .rename_i h;rw[if_pos (by simpa using h)]
 .rename_i h;rw[if_neg (by simpa using h)];simp
theorem GO (z:ay)(h:0<z.length):z=z.take (z.length-1)++[z.getD (z.length-1) 0]:=by
 have:=fC z 0 (i:=z.length-1) af;rw[show z.length-1+1=z.length by omega,gS] at this;exact this
theorem GD (s:St)(z:ay)(hz:z.length<=100000):bO 154 [sv z] s [] (sv (nk z)):=by
 refine aO f154 ?_;(repeat(first|refine' wU|refine' ar|fail))
 refine W.bH (λk l L=>∃(w:ay),Le [(0,sv w)] l/\cr [] L/\k=w.length/\w.length<=z.length/\nk w=nk z)
  (λl L=>Le [(0,sv (nk z))] l/\cr [] L) z.length ⟨z,bd,aq,rfl,af,rfl⟩ ?_ ?_
 .rintro k l L ⟨w,hl,hL,rfl,h1,h2⟩;refine W.le ?_ hl hL;clear hl hL;have hb:∀x:UInt8,(x.toNat:Int)=0↔x=0:=λx=>by
   constructor
   .intro h;rw[<-wu];show x.toNat=0;omega
   .rintro rfl;rfl
  have e:0<w.length->nk w=if w.getD (w.length-1) 0=0 then nk (w.take (w.length-1)) else w:=λh=>by
   conv=>lhs;rw[GO w h]
   rw[Sv,<-GO w h]
  have hi:0<w.length->((w.length:Int)-1)=((w.length-1:Nat):Int):=λh=>by omega
  have hj:0<w.length->((w.length:Int)-1).toNat=w.length-1:=λh=>by omega
  (refine' cO)
  .have h0:0<w.length:=by omega
   rw[hj h0,hb] at jU;have e:=e h0;rw[if_pos jU] at e;refine⟨_,?_,w.take (w.length-1),by rw[<-hj h0];exact bd,aq,rfl,by rw[dg];omega,by rw[<-e];exact h2⟩;rw[dg];omega
  .have h0:0<w.length:=by omega
   rw[hj h0,hb] at jU;have e:=e h0;rw[if_neg jU] at e;exact⟨by rw[<-h2,e];exact bd,aq⟩
  .have h0:w=[]:=mG af;subst h0;exact⟨by rw[<-h2];exact bd,aq⟩
 .rintro l L ⟨hl,hL⟩;refine aj ?_;refine W.le ?_ hl hL;(refine' cO)
  (refine' av);rfl
theorem KR (s:St)(n:Int)(hn:n<=100000):bO 88 [iv n] s [] (sv (hZ n)):=by
 refine aO f88 ?_;(repeat(first|refine' wU|refine' ar|fail))
 (refine' av)
 simp only[gF,hZ];rw[show(max 0 n).toNat=n.toNat by omega]
theorem IG (l:List aT)(d:aT){i:Nat}(h:i<l.length):a8 (l.take (i+1))=a8 (l.take i)++((l.getD i d).name++61::(dec (l.getD i d).id++[59])):=by
 rw[fC l d h];simp[a8]
theorem R7 (s:St)(a:aH)(c:Nat)(p:List aT)(hp:p.length<=3000)(hn:∀e∈p,e.name.length<=3000/\0<=e.id/\e.id<=1000000000)(hr:bM s a p.length 2 (ah p)):bO 178 [.slice a p.length c] s (ai a) (sv (a8 p)):=by
 have hd:=Rd.of hr (A:=ai a) λb hb=>hb
 refine aO f178 ?_;(repeat(first|refine' wU|refine' ar|fail))
 refine W.bH (λk l L=>∃(i:Nat),Le [(0,.slice a p.length c),(3,sv (a8 (p.take i))),(4,iv i)] l/\cr [] L/\k=p.length-i/\i<=p.length/\(a8 (p.take i)).length<=i*3012)
  (λl L=>Le [(3,sv (a8 p))] l/\cr [] L) p.length ⟨0,bd,aq,af,af,by simp[a8]⟩ ?_ ?_
 .rintro k l L ⟨i,hl,hL,rfl,h1,h2⟩;refine W.le ?_ hl hL;clear hl hL;have hb:=λh:i<p.length=>hn _ (aF h c9.lW)
  have hd':=λh:i<p.length=>nP (p.getD i c9.lW).id (by have:=hb h;omega)
  have e:=λh:i<p.length=>IG p c9.lW h
  by_cases hi:i<p.length
  .have hb:=hb hi;have hd':=hd' hi;have e:=e hi;(repeat' (first|refine' aX|refine' Z1|refine' ar|fail))
   .refine⟨_,?_,i+1,?_,aq,rfl,af,?_⟩
    .omega
    .rw[e,show ∀a b c d:ay,a++(b++61::(c++d))=a++b++[61]++c++d from λa b c d=>by simp];exact bd
    .rw[e];simp only[bR,dh,mD] at *;omega
   all_goals omega
  ·(refine' cO)
   .omega
   .have hi:i=p.length:=by omega
    subst hi;rw[gS];exact⟨bd,aq⟩
 .rintro l L ⟨hl,hL⟩;refine aj ?_;refine W.le ?_ hl hL;(refine' cO)
  (refine' av);rfl
end Go.Pl
namespace Go.Pl
open Go Go.Ev Go.Lg Go.Proofs
variable {z:ay}
theorem pj {α:Type}{l:List α}{i:Nat}(d:α)(h:i<l.length):l.getD i d=l[i]:=by simp[aY,bk h]
theorem gC:∀p q:ay,Op.bytesLess p q=bK p q
 |[],[]=>rfl
 |[],_::_=>rfl
 |_::_,[]=>rfl
 |a::p,b::q=>by
  show(decide (a<b)||(a== b&&Op.bytesLess p q))=if a.toNat<b.toNat then true else if b.toNat<a.toNat then false else bK p q
  rw[gC p q];by_cases h:a=b
  .subst h;have:¬(a<a):=by rw[px];omega
   simp[this]
  .have gx:a.toNat≠b.toNat:=λe=>h (wu.1 e)
   have h1:(a== b)=false:=by simpa using h
   by_cases h3:a.toNat<b.toNat
   .have:a<b:=by rw[px];exact h3
    simp[h3,this]
   .have:¬a<b:=by rw[px];exact h3
    have h4:b.toNat<a.toNat:=by omega
    simp[h1,h3,h4,this]
def WG (l:List aT)(name:ay):Int:=((ey l name).map Int.ofNat).getD (-1)
theorem at_hit {p:List aT}{i:Nat}(hi:i<p.length)(h:∀j,j<i->(p.getD j c9.lW).name≠z)(he:(p.getD i c9.lW).name=z):WG p z=i:=by
 have:ey p z=some i:=by
  unfold ey;rw[nq];refine⟨hi,by rw[pj _ hi] at he;simpa using he,λj hj=>?_⟩;have:=h j hj;rw[pj _ af] at this;simpa using this
 unfold WG;rw[this];rfl
theorem aar {p:List aT}(h:∀j,j<p.length->(p.getD j c9.lW).name≠z):WG p z= -1:=by
 have:ey p z=none:=by
  unfold ey;rw[Ap];intro x hx;obtain⟨j,hj,rfl⟩:=l5 hx;have:=h j hj;rw[pj _ hj] at this;simpa using this
 unfold WG;rw[this];rfl
theorem C5 (s:St)(a:aH)(c:Nat)(p:List aT)(z:ay)(hp:p.length<=3000)(hr:bM s a p.length 2 (ah p)):bO 146 [.slice a p.length c,sv z] s (ai a) (iv (WG p z)):=by
 have hd:=Rd.of hr (A:=ai a) λb hb=>hb
 refine aO f146 ?_;(repeat(first|refine' wU|refine' ar|fail))
 refine W.bH (λk l L=>∃(i:Nat),Le [(0,.slice a p.length c),(1,sv z),(5,iv i)] l/\cr [] L/\k=p.length-i/\i<=p.length/\∀j,j<i->(p.getD j c9.lW).name≠z)
  (λl L=>(∀j,j<p.length->(p.getD j c9.lW).name≠z)) p.length ⟨0,bd,aq,af,af,λj hj=>by omega⟩ ?_ ?_
 .rintro k l L ⟨i,hl,hL,rfl,h1,h2⟩;refine W.le ?_ hl hL;clear hl hL;(refine' cO)
  ·(refine' av)
   rw[at_hit af h2 jU];rfl
  .refine⟨_,?_,i+1,bd,aq,rfl,af,λj hj=>?_⟩
   .omega
   .rcases kU j i with h|h
    .exact h2 j h
    .have:j=i:=by omega
     subst this;exact jU
  .intro j hj;exact h2 j af
 .rintro l L h;refine aj ?_;(refine' cO)
  (refine' av)
  rw[aar h];rfl
theorem Dj (s:St)(a:aH)(c:Nat)(p:List aT)(i:Nat)(hp:p.length<=3000)(hi:i<p.length)(hr:bM s a p.length 2 (ah p))(hv:E0 s a p.length c 186 2):fa aU aW 145 [.slice a p.length c,iv i] s (ai a) 186 (er p i):=by
 have hd:=Rd.of hr (A:=ai a) λb hb=>hb
 refine aO f145 ?_;(refine' cO)
 (refine' lB)
 show er p i=[]++p.take i++p.drop (i+1);simp[er]
theorem Ld:∀(l:List aT)(x:aT),mr (l++[x])=(mr l&&match l.getLast? with|none=>true|some y=>bK y.name x.name)
 |[],x=>by simp[mr]
 |[a],x=>by simp[mr]
 |a::b::l,x=>by
  have ih:=Ld (b::l) x;show(bK a.name b.name&&mr ((b::l)++[x]))=_;rw[ih];have:(a::b::l).getLast?=(b::l).getLast?:=by simp
  rw[this];show _=((bK a.name b.name&&mr (b::l))&&_);rw[Bool.and_assoc]
theorem WH {p:List aT}(h:mr p=true):∀k,mr (p.take k)=true:=by
 intro k;induction p generalizing k with
 |nil=>simp[mr]
 |cons a p ih=>
  cases k with
  |zero=>rfl
  |succ k=>
   cases p with
   |nil=>simp[mr]
   |cons b p=>
    have h':(bK a.name b.name&&mr (b::p))=true:=h;simp only[cv] at h';cases k with
    |zero=>rfl
    |succ k=>
     show(bK a.name b.name&&mr ((b::p).take (k+1)))=true;rw[h'.1,ih h'.2];rfl
theorem WI {p:List aT}(d:aT){i:Nat}(hi:i<p.length):mr (p.take (i+1))=(mr (p.take i)&&(decide (i=0)||bK (p.getD (i-1) d).name (p.getD i d).name)):=by
 rw[fC p d hi,Ld]
 congr 1
 cases i with
 |zero=>rfl
 |succ i=>
  rw[fC p d af];simp
def vJ (e:aT):Bool:=bT e.name&&fR e.id 1 15
theorem aas {p:List aT}(d:aT){i:Nat}(hi:i<p.length):(p.take (i+1)).all vJ=((p.take i).all vJ&&vJ (p.getD i d)):=by
 rw[fC p d hi,Fx];simp
theorem Qj {p:List aT}(d:aT){i:Nat}(hi:i<p.length)(h:vJ (p.getD i d)=false):bz p=false:=by
 have:p.all vJ=false:=by
  rw[Fy];exact⟨_,aF hi d,by rw[h];simp⟩
 show(p.all vJ&&mr p&&decide (p.length<=12))=false;rw[this];rfl
theorem WJ {p:List aT}{i:Nat}(h:mr (p.take i)=false):bz p=false:=by
 have:mr p=false:=by
  cases hp:mr p with
  |false=>rfl
  |true=>rw[WH hp i] at h;cases h
 show(p.all vJ&&mr p&&decide (p.length<=12))=false;rw[this];simp
theorem IA (s:St)(a:aH)(c:Nat)(p:List aT)(hp:p.length<=3000)(hn:∀e∈p,e.name.length<=3000)(hr:bM s a p.length 2 (ah p)):bO 228 [.slice a p.length c] s (ai a) (.bool (bz p)):=by
 have hd:=Rd.of hr (A:=ai a) λb hb=>hb
 refine aO f228 ?_;(repeat(first|refine' wU|refine' ar|fail))
 refine W.bH (λk l L=>∃(i:Nat),Le [(0,.slice a p.length c),(3,iv i)] l/\cr [] L/\k=p.length-i/\i<=p.length/\(p.take i).all vJ=true/\mr (p.take i)=true)
  (λl L=>Le [(0,.slice a p.length c)] l/\cr [] L/\p.all vJ=true/\mr p=true) p.length ⟨0,bd,aq,af,af,rfl,rfl⟩ ?_ ?_
 .rintro k l L ⟨i,hl,hL,rfl,h1,h2,h3⟩;refine W.le ?_ hl hL;clear hl hL;have hb:=λh:i<p.length=>hn _ (aF h c9.lW)
  have e1:=λh:i<p.length=>aas c9.lW h
  have e2:=λh:i<p.length=>WI c9.lW h
  by_cases hi:i<p.length
  .have hb:=hb hi;have e1:=e1 hi;have e2:=e2 hi;(repeat' (first|refine' aX|refine' Z2|refine' M1|refine' ar|fail))
   .have hj:((i:Int)-1).toNat=i-1:=by omega
    rw[gC,hj] at jU;(refine' av)
    rw[WJ (i:=i+1) (p:=p) (by rw[e2,h3,jU];simp;omega)];rfl
   .have hj:((i:Int)-1).toNat=i-1:=by omega
    rw[gC,hj] at jU;refine⟨_,?_,i+1,bd,aq,rfl,af,?_,?_⟩
    .omega
    .rw[e1,h2];unfold vJ;simp_all
    .rw[e2,h3,jU];simp
   .refine⟨_,?_,i+1,bd,aq,rfl,af,?_,?_⟩
    .omega
    .rw[e1,h2];unfold vJ;simp_all
    .rw[e2,h3];simp;omega
   ·(refine' av)
    rw[Qj c9.lW hi (by unfold vJ;simp_all)];rfl
   ·(refine' av)
    rw[Qj c9.lW hi (by unfold vJ;simp_all)];rfl
   all_goals(exfalso;omega)
  ·(refine' cO)
   .omega
   .have hi:i=p.length:=by omega
    subst hi;rw[gS] at h2 h3;exact⟨bd,aq,h2,h3⟩
 .rintro l L ⟨hl,hL,h1,h2⟩;refine aj ?_;refine W.le ?_ hl hL;(refine' cO)
  (refine' av)
  show Value.bool (decide _)=Value.bool (p.all vJ&&mr p&&decide _);rw[h1,h2];simp;omega
end Go.Pl
namespace Go.Pl
open Go Go.Ev Go.Lg Go.Proofs
def ev (e:aT):Value:=.agg ⟨CQ e⟩
theorem vk (s:St)(a:aH)(c:Nat)(p:List aT)(e:aT)(hp:p.length<=3000)(hr:bM s a p.length 2 (ah p)):fa aU aW 140 [.slice a p.length c,ev e] s (ai a) 186 (gu p e):=by
 have hd:=Rd.of hr (A:=ai a) λb hb=>hb
 refine aO f140 ?_;(repeat(first|refine' wU|refine' ar|fail))
 refine W.bH (λk l L=>∃(i:Nat)(d:Bool)(q:List aT)(a':aH)(c':Nat),Le [(0,.slice a p.length c),(3,aP bx),(5,.slice a' q.length c'),(6,.bool d),(7,iv i)] l/\cr [.aJ (.slice a' q.length c') 186 2 (ah q),.box bx (CQ e) 186 false] L/\k=p.length-i/\i<=p.length/\q.length<=i+1/\(d=true->q++p.drop i=gu p e)/\(d=false->q=p.take i/\gu p e=p.take i++gu (p.drop i) e))
  (λl L=>∃(d:Bool)(q:List aT)(a':aH)(c':Nat),Le [(3,aP bx),(5,.slice a' q.length c'),(6,.bool d)] l/\cr [.aJ (.slice a' q.length c') 186 2 (ah q),.box bx (CQ e) 186 false] L/\q.length<=3001/\gu p e=if d=true then q else q++[e]) p.length ⟨0,false,[],_,_,bd,aq,af,af,by simp,by simp,by simp⟩ ?_ ?_
 .rintro k l L ⟨i,d,q,a',c',hl,hL,rfl,h1,h2,h3,h4⟩;refine W.le ?_ hl hL;clear hl hL;have ed:i<p.length->p.drop i=p.getD i c9.lW::p.drop (i+1):=λh=>by
   rw[pj _ h];exact xH h
  have et:i<p.length->p.take (i+1)=p.take i++[p.getD i c9.lW]:=λh=>fC p _ h
  (refine' cO)
  .have h0:i<p.length:=by omega
   obtain⟨h5,h6⟩:=h4 tR;rw[gC] at hc;refine⟨_,?_,i+1,true,_,_,_,bd,aq,rfl,af,?_,λ_=>?_,λh=>by cases h⟩
   .omega
   .have:=List.length_take_le i p;rw[<-h5] at this;simp only[bR,dh,mD];omega
   .rw[h6,h5,ed h0,gu,if_pos hc];simp
  .have h0:i<p.length:=by omega
   obtain⟨h5,h6⟩:=h4 tR;rw[gC] at hc;refine⟨_,?_,i+1,d,_,_,_,bd,aq,rfl,af,?_,λh=>?_,λ_=>?_⟩
   .omega
   .simp only[bR,dh,mD];omega
   .rw[tR] at h;cases h
   .refine⟨by rw[et h0,<-h5],?_⟩;rw[h6,ed h0,gu,if_neg (by rw[hc];simp),et h0];simp
  .have h0:i<p.length:=by omega
   refine⟨_,?_,i+1,d,_,_,_,bd,aq,rfl,af,?_,λh=>?_,λh=>?_⟩
   .omega
   .simp only[bR,dh,mD];omega
   .rw[<-h3 h,ed h0];simp
   .rw[tR] at h;cases h
  .have h0:i=p.length:=by omega
   subst h0;refine⟨d,_,_,_,bd,aq,af,?_⟩;cases d with
   |true=>have:=h3 rfl;rw[if_pos rfl,<-this];simp
   |false=>obtain⟨h5,h6⟩:=h4 rfl;rw[if_neg (by simp),h6,<-h5];simp[gu]
 .rintro l L ⟨d,q,a',c',hl,hL,h1,h2⟩;refine aj ?_;refine W.le ?_ hl hL;(refine' cO)
  ·(refine' lB)
   rw[h2,if_neg (by simp_all)]
  ·(refine' lB)
   rw[h2,if_pos (by simp_all)]
theorem Oa (s:ay):lM s=if(cut 61 s).length≠2 then none else some ⟨(cut 61 s).getD 0 [],qu ((cut 61 s).getD 1 [])⟩:=by
 unfold lM;rcases cut 61 s with _|⟨a,_|⟨b,_|⟨c,l⟩⟩⟩<;>simp
theorem ent_ok {l:List aT}(h:bz l=true):∀e∈l,e.name.length<=4/\1<=e.id/\e.id<=15:=by
 intro e he;have h':(l.all vJ&&mr l&&decide (l.length<=12))=true:=h;simp only[cv,iM] at h';have:=h'.1.1 e he;unfold vJ bT fR at this;simp only[cv,cl] at this;exact⟨this.1.2,this.2.1,this.2.2⟩
theorem Fa (s:St)(z:ay)(hz:z.length<=2500):ke aU aW 190 [sv z] s [] 186 ((iw z).getD []) (iw z).isSome:=by
 have hm:=uE 59 z;have hlw:∀i,i<(cut 59 z).length->((cut 59 z).getD i c9.lW).length<=2500:=λi hi=>ku (yE 59 z _ (aF hi _)) hz
 unfold iw;refine aO f190 ?_;(repeat' (first|refine' aX|refine' VO|refine' ar|fail))
 generalize hw:cut 59 z=w at *
 refine W.bH (λk l L=>∃(i:Nat)(q:List aT)(a:aH)(c:Nat),Le [(0,sv z),(4,.slice a q.length c),(5,.slice ve w.length vg),(6,iv i)] l/\cr [.aJ (.slice ve w.length vg) 9 1 (ah w),.aJ (.slice a q.length c) 186 2 (ah q)] L/\k=w.length-i/\i<=w.dropLast.length/\(w.dropLast.take i).mapM lM=some q/\∀e∈q,e.name.length<=2500)
  (λl L=>∃(q:List aT)(a:aH)(c:Nat),Le [(0,sv z),(4,.slice a q.length c)] l/\cr [.aJ (.slice a q.length c) 186 2 (ah q)] L/\w.dropLast.mapM lM=some q/\∀e∈q,e.name.length<=2500) w.length ⟨0,[],_,_,bd,aq,af,af,by simp,by simp⟩ ?_ ?_
 .rintro k l L ⟨i,q,a,c,hl,hL,rfl,h1,h2,h3⟩;refine W.le ?_ hl hL;clear hl hL;have hq:=pZ _ _ _ h2;rw[dg,Ba h1] at hq;have tT:w.dropLast.length=w.length-1:=List.length_dropLast;have dA:=hlw i;have H5:i<w.dropLast.length->w.dropLast.getD i []=w.getD i []:=λh=>by
   rw[pj _ h,pj _ af,List.getElem_dropLast]
  have he:=Oa (w.getD i c9.lW);have hm2:=uE 61 (w.getD i c9.lW);have tF:∀j,j<(cut 61 (w.getD i c9.lW)).length->((cut 61 (w.getD i c9.lW)).getD j c9.lW).length<=(w.getD i c9.lW).length:=λj hj=>yE 61 _ _ (aF hj _)
  have hl20:=tF 0;have hl21:=tF 1;(repeat' (first|refine' aX|refine' VO|((with_reducible apply WO.bG);exact aD;(first|exact λs=>zZ s _ af);intro _ _ _ _)|refine' ar|fail))
  .have hn:lM (w.dropLast.getD i [])=none:=by
    rw[H5 af];refine he.trans (if_pos ?_);omega
   rw[mapM_none lM w.dropLast [] af hn];(refine' fq)<;>rfl
  .have hs:=vj lM w.dropLast [] (show i<w.dropLast.length by omega);have hn:lM (w.dropLast.getD i [])=some ⟨(cut 61 (w.getD i c9.lW)).getD 0 [],qu ((cut 61 (w.getD i c9.lW)).getD 1 [])⟩:=by
    rw[H5 af];refine he.trans (if_neg ?_);omega
   rw[h2,hn] at hs;refine⟨_,?_,i+1,q++[⟨(cut 61 (w.getD i c9.lW)).getD 0 [],qu ((cut 61 (w.getD i c9.lW)).getD 1 [])⟩],_,_,bd,aq,rfl,af,hs,λe he=>?_⟩
   .omega
   .rcases fJ.1 he with he|he
    .exact h3 e he
    .rw[iN.1 he];have:=hl20 af;have h5:=dA af;exact ku this h5
  .have hi:i=w.dropLast.length:=by omega
   subst hi;rw[gS] at h2;exact⟨q,_,_,bd,aq,h2,h3⟩
 .rintro l L ⟨q,a,c,hl,hL,h1,h2⟩;refine aj ?_;refine W.le ?_ hl hL;clear hl hL;have hq:=pZ _ _ _ h1;have tT:w.dropLast.length=w.length-1:=List.length_dropLast;have MZ:∀e∈q,e.name.length<=3000:=λe he=>by have:=h2 e he;omega
  rw[h1];by_cases fZ:bz q=true
  .have RW:∀e∈q,e.name.length<=3000/\0<=e.id/\e.id<=1000000000:=λe he=>by have:=ent_ok fZ e he;omega
   (repeat' (first|refine' aX|refine' zc18|refine' zc19|refine' ar|fail))
   .simp only[fZ,jU];(refine' fq)<;>simp[jU]
   .simp only[fZ,jU];(refine' fq)<;>simp[jU]
   all_goals(exfalso;simp_all;done)
  ·(repeat' (first|refine' aX|refine' zc18|refine' ar|fail))
   all_goals first|(exfalso;simp_all;done)|skip
   .simp only[fZ];(refine' fq)<;>simp[fZ]
theorem Ob {z:ay}(h:0<z.length)(h0:z.getD 0 0=47):cut 47 z=[]::cut 47 z.tail:=by
 cases z with
 |nil=>simp at h
 |cons x z=>
  have:x=47:=h0;subst this;simp[cut]
theorem KI (s:St)(z:ay)(hz:z.length<=100000)(h:0<z.length)(h0:z.getD 0 0=47):CallU aU aW 83 [sv z] s [] 9 (aB z):=by
 have oS:=Ob h h0;have hl:0<(cut 47 z).length:=by rw[oS];simp
 refine aO f83 ?_;(repeat' (first|refine' aX|refine' VO|refine' ar|fail))
 ·(refine' qretu)
  unfold aB;rw[if_pos (by assumption)]
 ·(refine' qretu)
  unfold aB;rw[if_neg (by assumption),oS];rfl
def pk (l:List ay):ay:=(l.map λs=>47::s).flatten
theorem IH (l:List ay)(d:ay){i:Nat}(h:i<l.length):pk (l.take (i+1))=pk (l.take i)++47::l.getD i d:=by
 rw[fC l d h];simp[pk]
theorem Lf (s:St)(a:aH)(c:Nat)(p:List ay)(hp:p.length<=100000)(hn:∀e∈p,e.length<=3000)(hr:bM s a p.length 1 (ah p)):bO 127 [.slice a p.length c] s (ai a) (sv (pathOf p)):=by
 have hd:=Rd.of hr (A:=ai a) λb hb=>hb
 refine aO f127 ?_;(repeat(first|refine' wU|refine' ar|fail))
 refine W.bH (λk l L=>∃(i:Nat),Le [(0,.slice a p.length c),(3,sv (pk (p.take i))),(4,iv i)] l/\cr [] L/\k=p.length-i/\i<=p.length/\(pk (p.take i)).length<=i*3001)
  (λl L=>Le [(3,sv (pk p))] l/\cr [] L) p.length ⟨0,bd,aq,af,af,by simp[pk]⟩ ?_ ?_
 .rintro k l L ⟨i,hl,hL,rfl,h1,h2⟩;refine W.le ?_ hl hL;clear hl hL;have hb:=λh:i<p.length=>hn _ (aF h c9.lW)
  have e:=λh:i<p.length=>IH p c9.lW h
  by_cases hi:i<p.length
  .have hb:=hb hi;have e:=e hi;(refine' cO)
   .refine⟨_,?_,i+1,?_,aq,rfl,af,?_⟩
    .omega
    .rw[e,show ∀a b:ay,a++47::b=a++[47]++b from λa b=>by simp];exact bd
    .rw[e,bR,dh];omega
   all_goals(exfalso;omega)
  ·(refine' cO)
   .omega
   .have hi:i=p.length:=by omega
    subst hi;rw[gS];exact⟨bd,aq⟩
 .rintro l L ⟨hl,hL⟩;refine aj ?_;refine W.le ?_ hl hL;have e:pk p=[]↔p=[]:=by
   cases p<;>simp[pk]
  (refine' cO)
  ·(refine' av)
   unfold pathOf;rw[if_pos (e.1 (by assumption))];rfl
  ·(refine' av)
   unfold pathOf;rw[if_neg (λh=>(by assumption:¬_) (e.2 h))];rfl
theorem GP {z:ay}:∀w∈aB z,w.length<=z.length:=by
 intro w hw;unfold aB at hw;split at hw
 .cases hw
 .exact yE 47 z w (List.mem_of_mem_tail hw)
theorem wY {z:ay}:(aB z).length<=z.length+1:=by
 unfold aB;split
 .simp
 .have:=uE 47 z;rw[List.length_tail];omega
theorem R9 (s:St)(z:ay)(hz:z.length<=90000):bO 44 [sv z] s [] (.bool (bf z)):=by
 have hm:=wY (z:=z);have hlw:∀i,i<(aB z).length->((aB z).getD i c9.lW).length<=z.length:=λi hi=>GP _ (aF hi _)
 by_cases FZ:z=[]
 .subst FZ;refine aO f44 ?_;(refine' cO)
  all_goals first|(exfalso;simp_all;done)|skip
  (refine' av);rfl
 have cX:0<z.length:=oX.2 FZ;have hh:z.headD 0=z.getD 0 0:=by cases z<;>rfl
 unfold bf;rw[hh];refine aO f44 ?_;have hb:((z.getD 0 0).toNat:Int)=47↔z.getD 0 0=47:=by
  constructor
  .intro h;rw[<-wu];show(z.getD 0 0).toNat=47;omega
  .intro h;rw[h];rfl
 by_cases Oc:z.getD 0 0=47
 .have kX:=hb.2 Oc;(repeat' (first|refine' aX|refine' R8|refine' ar|fail))
  ·(refine' av);rw[if_pos (by assumption)];rfl
  .exfalso;exact jU kX
  rotate_left 1
  .exact absurd (by assumption) FZ
  rw[if_neg (by assumption),if_neg (by rw[Oc];simp[FZ])];generalize hw:aB z=w at *
  refine W.bH (λk l L=>∃(i:Nat),Le [(3,.slice CR w.length CS),(4,iv i)] l/\cr [.aJ (.slice KJ AK.length KK) 9 1 (ah AK)] L/\k=w.length-i/\i<=w.length/\(w.take i).all bT=true)
   (λl L=>Le [(3,.slice CR w.length CS)] l/\cr [] L/\w.all bT=true) w.length ⟨0,bd,aq,af,af,rfl⟩ ?_ ?_
  .rintro k l L ⟨i,hl,hL,rfl,h1,h2⟩;refine W.le ?_ hl hL;clear hl hL;have dA:=hlw i;have e:=λh:i<w.length=>fC w c9.lW h
   (repeat' (first|refine' aX|refine' Z2|refine' ar|fail))
   ·(refine' av)
    have:w.all bT=false:=by
     rw[Fy];exact⟨_,aF (show i<w.length by omega) c9.lW,by simp_all⟩
    rw[this];rfl
   .refine⟨_,?_,i+1,bd,aq,rfl,af,?_⟩
    .omega
    .rw[e af,Fx,h2];simp_all
   .have hi:i=w.length:=by omega
    subst hi;rw[gS] at h2;exact⟨bd,aq,h2⟩
  .rintro l L ⟨hl,hL,h1⟩;refine aj ?_;refine W.le ?_ hl hL;(refine' cO)
   (refine' av)
   rw[h1];simp[gF];omega
 .have kX:=λh=>Oc (hb.1 h)
  (refine' cO)
  ·(refine' av);rw[if_pos (by assumption)];rfl
  ·(refine' av);rw[if_neg (by assumption),if_pos (by rw[mC];exact .inr (dO Oc))];rfl
  all_goals first|(exfalso;exact kX (by assumption))|(exact absurd (by assumption) FZ)
def ic (z:ay):List ay:=if bf z=true then aB z else []
theorem BJ {z:ay}(h:bf z=true):0<z.length/\z.getD 0 0=47:=by
 unfold bf at h;split at h
 .rename_i h0;subst h0;exact⟨by simp,rfl⟩
 .split at h
  .cases h
  .rename_i h1;cases z with
   |nil=>simp at h1
   |cons x z=>simp at h1;exact⟨by simp,h1⟩
theorem II (s:St)(z:ay)(hz:z.length<=90000):ke aU aW 126 [sv z] s [] 9 (ic z) (bf z):=by
 have hm:=wY (z:=z);refine aO f126 ?_;by_cases h:bf z=true
 .obtain⟨h1,h2⟩:=BJ h;(repeat' (first|refine' aX|refine' zc21|refine' R8|refine' ar|fail))
  .exfalso;simp_all
  ·(refine' fq)
   .unfold ic;rw[if_pos h];rfl
   .exact h
 ·(repeat' (first|refine' aX|refine' zc21|refine' ar|fail))
  ·(refine' fq)
   .unfold ic;rw[if_neg h]
   .simpa using h
  all_goals(exfalso;simp_all;done)
theorem yG (s:St)(z t:ay)(hz:z.length<=3000)(ht:t.length<=3000):bO 87 [sv z,sv t] s [] (.bool (under z t)):=by
 have hp:∀{z:ay},z.length<=3000->(ic z).length<=3001/\∀e∈ic z,e.length<=3000:=λ{z} hz=>by
  unfold ic;split
  .exact⟨by have:=wY (z:=z);omega,λe he=>by have:=GP e he;omega⟩
  .simp
 obtain⟨h1,h2⟩:=hp hz;obtain⟨h3,h4⟩:=hp ht;have h5:∀e∈(ic z).take ((ic t).length:Int).toNat,e.length<=3000:=λe he=>h2 e (M6 he)
 refine aO f87 ?_;(repeat' (first|refine' aX|((with_reducible apply WO.ym);exact aD;(first|exact λs=>II s _ af);intro _ _ a_PathNames c_PathNames _ _)|((with_reducible apply WO.lN);exact aD;(first|exact λs hr=>Lf s _ _ _ af (by assumption) hr|exact λs hr=>Lf s _ _ _ (by first|omega|(rw[dg];omega)) (by assumption) hr);exact cu;intro _ _ _ _)|refine' ar|fail))
 all_goals(refine' av)
 all_goals(simp only[gF];refine gb Value.bool ?_;unfold under)
 .have e1:ic z=aB z:=if_pos (by assumption);have e2:ic t=aB t:=if_pos (by assumption);rw[e1,e2] at jU;simp_all;omega
 .have e1:ic z=aB z:=if_pos (by assumption);have e2:ic t=aB t:=if_pos (by assumption);rw[e1,e2] at jU;rw[e1,e2];simp_all
 .simp_all
 .simp_all
end Go.Pl
namespace Go.Pg
open Go.Pl
variable {n:Nat}{l:List ay}
theorem yH (h:n<10):gM n=[UInt8.ofNat (48+n)]:=by rw[gM,dif_pos h]
theorem BK (h:¬n<10):gM n=gM (n/ 10)++[UInt8.ofNat (48+n% 10)]:=by rw[gM,dif_neg h]
theorem WK (h:n<10):(UInt8.ofNat (48+n)).toNat=48+n:=by
 rw[UInt8.toNat_ofNat_of_lt' (by show _<256;omega)]
theorem uF (n:Nat):1<=(gM n).length:=by
 rw[gM];split<;>simp
theorem Lh (n:Nat):∀c∈gM n,kF c=true:=by
 induction n using Nat.strongRecOn with
 |_ n ih=>
  intro c hc;by_cases h:n<10
  .rw[yH h] at hc;simp only[iN] at hc;subst hc;simp only[kF,WK h,cv,cl];omega
  .rw[BK h] at hc;rcases fJ.1 hc with hc|hc
   .exact ih (n/ 10) af c hc
   .simp only[iN] at hc;subst hc;simp only[kF,WK (Q6 n af),cv,cl];omega
theorem gj (n:Nat):∀k,1<=k->n<10^ k->(gM n).length<=k:=by
 induction n using Nat.strongRecOn with
 |_ n ih=>
  intro k hk hn;by_cases h:n<10
  .rw[yH h];exact hk
  .rw[BK h,bR];obtain⟨k,rfl⟩:∃j,k=j+1:=⟨k-1,af⟩;have h1:1<=k:=by
    rcases k with _|k
    .simp at hn;omega
    .omega
   have:=ih (n/ 10) af k h1 (by rw[T8] at hn;omega);simp only[dh,mD];omega
theorem Sw (s:ay)(c:UInt8):numOf (s++[c])=10*numOf s+(c.toNat-48):=by
 unfold numOf;rw[List.foldl_append];rfl
theorem Od (n:Nat):numOf (gM n)=n:=by
 induction n using Nat.strongRecOn with
 |_ n ih=>
  by_cases h:n<10
  .rw[yH h];show 10*0+((UInt8.ofNat (48+n)).toNat-48)=n;rw[WK h];omega
  .rw[BK h,Sw,ih (n/ 10) af,WK (Q6 n af)];omega
theorem Sx (n:Nat):(gM n).headD 0=48->n=0:=by
 induction n using Nat.strongRecOn with
 |_ n ih=>
  intro h;by_cases hn:n<10
  .rw[yH hn] at h;have:(UInt8.ofNat (48+n)).toNat=(48:UInt8).toNat:=by rw[show UInt8.ofNat (48+n)=48 from h]
   rw[WK hn] at this;have h2:(48:UInt8).toNat=48:=rfl;omega
  .rw[BK hn] at h;have h1:(gM (n/ 10)++[UInt8.ofNat (48+n% 10)]).headD 0=(gM (n/ 10)).headD 0:=by
    have:=uF (n/ 10);cases hh:gM (n/ 10) with
    |nil=>rw[hh] at this;simp at this
    |cons a l=>rfl
   rw[h1] at h;have:=ih (n/ 10) af h;omega
theorem wg {p:UInt8->Bool}:∀(a b:ay),(∀c∈a,p c=true)->(b.head?.all λc=>!p c)=true->(a++b).takeWhile p=a
 |[],[],_,_=>rfl
 |[],c::b,_,h=>by
  have:p c=false:=by simpa using h
  simp[this]
 |x::a,b,h,h2=>by
  rw[xB,List.takeWhile_cons,h x (by simp)];simp only[if_true];rw[wg a b (λc hc=>h c (by simp[hc])) h2]
theorem Sy (hn:n<1000000000)(b:ay)(hb:(b.head?.all λc=>!kF c)=true):sT (gM n++b)=gM n:=by
 have h9:(gM n).length<=9:=gj n 9 af af;unfold sT;rw[B2,q9 h9];apply wg
 .exact Lh n
 .cases b with
  |nil=>simp
  |cons c b=>
   cases h:9-(gM n).length with
   |zero=>simp
   |succ k=>simpa using hb
theorem GQ (hn:n<1000000000)(b:ay)(hb:(b.head?.all λc=>!kF c)=true):kG (gM n++b)=(n,(gM n).length):=by
 unfold kG;simp only[Sy hn b hb];rw[if_neg,Od];rintro⟨h1,h2⟩;have h3:(gM n++b).headD 0=(gM n).headD 0:=by
  have:=uF n;cases hh:gM n with
  |nil=>rw[hh] at this;simp at this
  |cons a l=>rfl
 rw[h3] at h2;have:=Sx n h2;subst this;rw[yH af] at h1;simp at h1
theorem Li (hn:n<1000000000):iu (gM n)=some n:=by
 unfold iu;have h:=GQ hn [] rfl;rw[iH] at h;simp only[h];rw[if_neg];have:=uF n;omega
theorem mS {n:Int}(h:0<=n):dec n=gM n.toNat:=by
 obtain⟨k,rfl⟩:=xI h;rfl
theorem nQ {n:Int}(h0:0<=n)(h:n<1000000000):iu (dec n)=some n.toNat:=by rw[mS h0,Li af]
theorem sc {n:Int}(h0:0<=n)(h:n<1000000000):qu (dec n)=n:=by
 unfold qu;rw[nQ h0 h];simp;omega
theorem aat {n:Int}(h0:0<=n)(h:n<1000000000):(dec n).length<=9:=by rw[mS h0];exact gj _ 9 af af
theorem BL {n:Int}(h0:0<=n):∀c∈dec n,kF c=true:=by rw[mS h0];exact Lh _
theorem uD (c:UInt8):∀s:ay,(∀x∈s,x≠c)->cut c s=[s]
 |[],_=>rfl
 |x::s,h=>by
  rw[cut,if_neg (h x (by simp)),uD c s (λy hy=>h y (by simp[hy]))]
theorem BM (c:UInt8):∀(s b:ay),(∀x∈s,x≠c)->cut c (s++c::b)=s::cut c b
 |[],b,_=>by rw[oa,cut,if_pos rfl]
 |x::s,b,h=>by
  rw[xB,cut,if_neg (h x (by simp)),BM c s b (λy hy=>h y (by simp[hy]))]
theorem Dk (c:UInt8):∀l:List ay,l≠[]->(∀s∈l,∀x∈s,x≠c)->cut c (il c l)=l
 |[],h,_=>absurd rfl h
 |[s],_,h=>uD c s (h s (by simp))
 |s::t::l,_,h=>by
  rw[il,BM c s _ (h s (by simp)),Dk c (t::l) (by simp) (λu hu=>h u (by simp[hu]))];simp
theorem eK (s:ay)(l:List ay):fieldsOf (s::l)=gM s.length++58::s++fieldsOf l:=by simp[fieldsOf]
theorem Lj:∀(l:List ay)(out:ay),(out++fieldsOf l).length<=2048->kH l out=some (out++fieldsOf l)
 |[],out,_=>by simp[kH,fieldsOf]
 |s::l,out,h=>by
  rw[eK] at h;simp only[bR,dh] at h;rw[kH,if_neg af];dsimp only;rw[if_neg (by simp only[bR,dh];omega),Lj l _ (by simp only[bR,dh];omega),eK];simp
theorem yI (h:l.length<=60)(hl:(fieldsOf l).length<=2048):iW l=some (fieldsOf l):=by
 unfold iW;rw[if_neg af,Lj l [] (by simpa using hl)];simp
theorem Lk:∀(l:List ay)(f:Nat)(out:List ay),l.length<f->(fieldsOf l).length<=2048->rT f (fieldsOf l) out=some (out++l)
 |[],f,out,h,_=>by
  obtain⟨f,rfl⟩:∃g,f=g+1:=⟨f-1,af⟩;simp[rT,fieldsOf]
 |s::l,f,out,h,hl=>by
  obtain⟨f,rfl⟩:∃g,f=g+1:=⟨f-1,af⟩;have ju:=hl;rw[eK] at hl;simp only[bR,dh] at hl;have gx:fieldsOf (s::l)≠[]:=by rw[eK];simp
  obtain⟨c,z,hz⟩:∃c z,fieldsOf (s::l)=c::z:=by
   cases hh:fieldsOf (s::l) with
   |nil=>exact absurd hh gx
   |cons c z=>exact⟨c,z,rfl⟩
  have hn:kG (fieldsOf (s::l))=(s.length,(gM s.length).length):=by
   rw[eK,kA];exact GQ af _ (by simp[kF])
  rw[hz,rT]
  .rw[<-hz,hn];have hp:=uF s.length;have cX:(fieldsOf (s::l)).length=(gM s.length).length+1+s.length+(fieldsOf l).length:=by rw[eK];simp only[bR,dh];omega
   have e1:(fieldsOf (s::l)).getD (gM s.length).length 0=58:=by
    rw[eK,kA,aY,zu (cy _),B0];rfl
   have e2:(fieldsOf (s::l)).drop ((gM s.length).length+1)=s++fieldsOf l:=by
    rw[eK,kA,<-lZ,List.drop_left];rfl
   have e3:(fieldsOf (s::l)).drop ((gM s.length).length+1+s.length)=fieldsOf l:=by
    rw[<-lZ,e2,List.drop_left]
   dsimp only;have BG:l.length<f:=by rw[dh] at h;omega
   rw[if_neg (by rw[e1,cX];rintro(h|h|h|h)<;>first|omega|exact h rfl),e3,e2,List.take_left,Lk l f _ BG af];simp
  .simp
theorem AQ:∀l:List ay,2*l.length<=(fieldsOf l).length
 |[]=>by simp[fieldsOf]
 |s::l=>by
  have:=AQ l;have:=uF s.length;rw[eK];simp only[bR,dh];omega
theorem Fb (h:l.length<=60)(hl:(fieldsOf l).length<=2048):eR (fieldsOf l)=some l:=by
 unfold eR;rw[if_neg af,Lk l _ [] (by have:=AQ l;omega) hl];simp only[oa];rw[yI h hl];simp
end Go.Pg
namespace Go.Pg
open Go.Pl
variable {s:ay}{c:UInt8}{l:cV}{n:Nde}
theorem Oe (h:∀x∈s,kF x=true)(hc:kF c=false):∀x∈s,x≠c:=by
 rintro x hx rfl;rw[h x hx] at hc;cases hc
theorem vl {p:iL}(h:aC p=false):bw p=true↔(8<=p.row/\p.row<=63)/\(1<=p.de/\p.de<=900)/\(1<=p.size/\p.size<=128)/\(0<=p.sum/\p.sum<=99460728)/\0<=p.level/\p.level<=2:=by
 simp[bw,h,RH,fR,and_assoc]
theorem p9 {p:iL}:aC p=true↔p=bq:=by simp[aC]
theorem lh:aC bq=true:=by simp[aC]
theorem z6 {p:iL}(h:aC p=false)(ho:bw p=true):eH p=il 46 [dec p.row,dec p.de,dec p.size,dec p.sum,dec p.level]:=by
 simp[eH,h,ho,il]
theorem uG:eH bq=[45]:=by decide
theorem IJ {p:iL}(ho:bw p=true):∀x∈eH p,kF x=true\/x=46\/x=45:=by
 cases h:aC p with
 |true=>rw[p9.1 h,uG];simp
 |false=>
  have hk:=(vl h).1 ho;rw[z6 h ho];intro x hx;simp only[il,fJ,bV] at hx;have hd:=λ{n:Int} (h0:0<=n) (hx:x∈dec n)=>BL h0 x hx
  rcases hx with hx|hx|hx|hx|hx|hx|hx|hx|hx
  .exact .inl (hd af hx)
  .exact .inr (.inl hx)
  .exact .inl (hd af hx)
  .exact .inr (.inl hx)
  .exact .inl (hd af hx)
  .exact .inr (.inl hx)
  .exact .inl (hd af hx)
  .exact .inr (.inl hx)
  .exact .inl (hd af hx)
theorem jA {p:iL}:(eH p).length<=24:=by
 cases ho:bw p with
 |false=>simp[eH,ho]
 |true=>
 cases h:aC p with
 |true=>rw[p9.1 h,uG];simp
 |false=>
  have hk:=(vl h).1 ho;rw[z6 h ho];have h1:(dec p.row).length<=2:=by rw[mS af];exact gj _ 2 af af
  have h2:(dec p.de).length<=3:=by rw[mS af];exact gj _ 3 af af
  have h3:(dec p.size).length<=3:=by rw[mS af];exact gj _ 3 af af
  have h4:(dec p.sum).length<=9:=by rw[mS af];exact gj _ 9 af af
  have h5:(dec p.level).length<=1:=by rw[mS af];exact gj _ 1 af af
  simp only[il,bR,dh];omega
theorem Dl {p:iL}(ho:bw p=true):iX (eH p)=some p:=by
 cases h:aC p with
 |true=>rw[p9.1 h,uG];rfl
 |false=>
  have hk:=(vl h).1 ho;have hc:cut 46 (eH p)=[dec p.row,dec p.de,dec p.size,dec p.sum,dec p.level]:=by
   rw[z6 h ho];apply Dk _ _ (by simp);intro s hs;simp only[bV,iC,iP] at hs;rcases hs with rfl|rfl|rfl|rfl|rfl<;>exact Oe (BL af) (by decide)
  have gx:eH p≠[45]:=by
   intro he;have:=gb List.length hc;rw[he] at this;simp[cut] at this
  unfold iX;rw[if_neg gx,hc];simp only[nQ (show 0<=p.row by omega) af,nQ (show 0<=p.de by omega) af,nQ (show 0<=p.size by omega) af,nQ (show 0<=p.sum by omega) af,nQ (show 0<=p.level by omega) af];have e:(⟨(p.row.toNat:Int),(p.de.toNat:Int),(p.size.toNat:Int),(p.sum.toNat:Int),(p.level.toNat:Int)⟩:iL)=p:=by
   obtain⟨a,b,c,d,e⟩:=p;simp only at hk;simp;omega
  rw[e];simp[ho,h]
theorem Sz {p:iL}(h:iX s=some p):bw p=true:=by
 unfold iX at h;split at h
 .cases h;decide
 .split at h
  .split at h
   .simp only at h;split at h
    .cases h
    .rename_i hh;cases h
     simp at hh;exact hh.1
   .cases h
  .cases h
theorem mapM_some {α β:Type}(f:α->Option β):∀{l:List α}{r:List β},l.mapM f=some r->r.length=l.length/\∀y∈r,∃x∈l,f x=some y
 |[],r,h=>by simp at h;subst h;simp
 |x::l,r,h=>by
  rw[EK] at h;cases hx:f x with
  |none=>rw[hx] at h;simp at h
  |some y=>
   cases hl:l.mapM f with
   |none=>rw[hx,hl] at h;simp at h
   |some r'=>
    rw[hx,hl] at h;simp at h;subst h;obtain⟨h1,h2⟩:=mapM_some f hl;refine⟨by simp[h1],λz hz=>?_⟩;rcases bV.1 hz with rfl|hz
    .exact⟨x,by simp,hx⟩
    .obtain⟨w,hw,Rn⟩:=h2 z hz;exact⟨w,by simp[hw],Rn⟩
theorem Dm {α β:Type}(f:α->Option β)(g:β->α):∀l:List β,(∀x∈l,f (g x)=some x)->(l.map g).mapM f=some l
 |[],_=>rfl
 |x::l,h=>by
  rw[xC,EK,h x (by simp),Dm f g l (λy hy=>h y (by simp[hy]))];rfl
theorem Of (h4:l.length=4)(ho:∀p∈l,bw p=true)(hh:l.all aC=false):j9 (il 44 (l.map eH))=some l:=by
 unfold j9;rw[Dk _ _ (by intro h;rw[List.map_eq_nil_iff] at h;subst h;simp at h4)]
 .rw[Dm iX eH l (λp hp=>Dl (ho p hp))];simp[h4,hh]
 .intro s hs x hx;obtain⟨p,hp,rfl⟩:=n9.1 hs;rcases IJ (ho p hp) x hx with h|rfl|rfl
  .rintro rfl;exact absurd h (by decide)
  .decide
  .decide
theorem AR (h:j9 s=some l):l.length=4/\(∀p∈l,bw p=true)/\l.all aC=false:=by
 unfold j9 at h;split at h
 .cases h
 .rename_i r hr;split at h
  .cases h
  .rename_i hh;cases h
   refine⟨af,λp hp=>?_,by simpa using λh=>hh (.inr h)⟩;obtain⟨x,_,hx⟩:=(mapM_some iX hr).2 p hp;exact Sz hx
theorem Ll (h:j8 l=some s):l.length=4/\(∀p∈l,bw p=true)/\l.all aC=false/\s=il 44 (l.map eH):=by
 unfold j8 at h;split at h
 .cases h
 .split at h
  .cases h
  .split at h
   .cases h
   .rename_i h1 h2 h3;cases h
    refine⟨af,λp hp=>?_,by simpa using h3,rfl⟩;simp only[FB,not_exists,not_and] at h2;have:=h2 p hp;simpa using this
theorem SB (h4:l.length=4)(ho:∀p∈l,bw p=true)(hh:l.all aC=false):j8 l=some (il 44 (l.map eH)):=by
 unfold j8;rw[if_neg af,if_neg,if_neg (by simp[hh])];simp only[FB,not_exists,not_and];intro p hp;simp[ho p hp]
theorem aau (h4:l.length=4):(il 44 (l.map eH)).length<=128/\1<=(il 44 (l.map eH)).length:=by
 match l,h4 with
 |[a,b,c,d],_=>
  have:=jA (p:=a);have:=jA (p:=b);have:=jA (p:=c);have:=jA (p:=d);simp only[xC,FA,il,bR,dh];omega
theorem SC (k:Int):0<=fh k/\fh k<=128:=by
 unfold fh;split
 .omega
 .split<;>omega
theorem kO (h:ew n=true):(n.kind=1\/n.kind=2)/\(0<=n.size/\n.size<=2048)/\n.aN.many=fj n.kind n.size/\(0<=n.aN.many/\n.aN.many<=16)/\n.aN.depth=cH n.aN.many/\bw n.aN.cC=true/\(1<=n.bE/\n.bE<=9)/\(n.kind=2->n.bE=1):=by
 simp only[ew,cv,pG,B6,lD,B5,fR,cl] at h;obtain⟨⟨⟨⟨h1,h2⟩,h3⟩,h4⟩,h5,h6⟩:=h;have hk:n.kind=1\/n.kind=2:=by
  by_cases k1:n.kind=1
  .exact .inl k1
  .by_cases k2:n.kind=2
   .exact .inr k2
   .exfalso;apply h1;simp[fj,fh,k1,k2]
 have hs:0<=n.size/\n.size<=16*fh n.kind:=by
  unfold fj at h1;split at h1
  .exact absurd af h1
  .rename_i hh;simp[fR] at hh;omega
 have he:=SC n.kind;have hm:n.aN.many=fj n.kind n.size:=by omega
 have hp:fj n.kind n.size<=16:=by
  unfold fj dr;split
  .omega
  .rcases hk with hk|hk
   .rw[hk] at hs⊢;simp[fh] at hs⊢;omega
   .rw[hk] at hs⊢;simp[fh] at hs⊢;omega
 refine⟨hk,⟨hs.1,af⟩,hm,af,by rw[hm];omega,h4,?_,?_⟩
 .split at h5<;>omega
 .intro hk;rw[if_pos hk] at h5;omega
theorem fu (m:Int):0<=cH m/\cH m<=2:=by
 unfold cH;split
 .omega
 .split<;>omega
theorem qa:∀l:List ay,(∀s∈l,s.length<=24)->(fieldsOf l).length<=l.length*34
 |[],_=>by simp[fieldsOf]
 |s::l,h=>by
  have:=qa l (λx hx=>h x (by simp[hx]));have h1:=h s (by simp);have:(gM s.length).length<=9:=gj _ 9 af af;rw[eK];simp only[bR,dh];omega
theorem yJ (h:ew n=true):∀s∈jQ n,s.length<=24:=by
 obtain⟨hk,hs,_,hm,hd,hr,hl,_⟩:=kO h;have:=fu n.aN.many;intro s hs;simp only[jQ,bV,iC,iP] at hs;have hh:=λ{n:Int} (h0:0<=n) (h:n<1000000000)=>ku (aat h0 h) (show 9<=24 by omega)
 rcases hs with rfl|rfl|rfl|rfl|rfl|rfl|rfl
 .exact hh af af
 .exact hh af af
 .exact hh af af
 .exact jA
 .exact hh af af
 .exact hh af af
 .simp
theorem Dn (h:ew n=true):gf n=fieldsOf (jQ n):=by
 unfold gf;rw[h,yI (by simp[jQ]) (by have:=qa _ (yJ h);simp[jQ] at this⊢;omega)];rfl
theorem qT (h:ew n=true):1<=(gf n).length/\(gf n).length<=128:=by
 rw[Dn h];obtain⟨hk,hs,_,hm,hd,hr,hl,_⟩:=kO h;have hd':=fu n.aN.many;have h1:(dec n.kind).length<=1:=by rw[mS af];exact gj _ 1 af af
 have h2:(dec n.bE).length<=1:=by rw[mS af];exact gj _ 1 af af
 have h3:(dec n.size).length<=4:=by rw[mS af];exact gj _ 4 af af
 have h4:(dec n.aN.depth).length<=1:=by rw[mS af];exact gj _ 1 af af
 have h5:(dec n.aN.many).length<=2:=by rw[mS af];exact gj _ 2 af af
 have h6:=jA (p:=n.aN.cC);have RF:∀k:Nat,k<=24->(gM k).length<=2:=λk hk=>gj _ 2 af af
 simp only[jQ,eK,bR,dh];have:=RF (dec n.kind).length af;have:=RF (dec n.bE).length af;have:=RF (dec n.size).length af;have:=RF (dec n.aN.depth).length af;have:=RF (dec n.aN.many).length af;have:=RF (eH n.aN.cC).length af;have:=RF 3 af;have:(fieldsOf []).length=0:=rfl;simp only[mD];simp only[ni,Nat.reduceAdd];omega
theorem Ln (h:ew n=true):eO (gf n)=some n:=by
 have hg:eR (gf n)=some (jQ n):=by
  rw[Dn h];exact Fb (by simp[jQ]) (by have:=qa _ (yJ h);simp[jQ] at this⊢;omega)
 obtain⟨hk,hs,_,hm,hd,hr,hl,_⟩:=kO h;have hd':=fu n.aN.many;unfold eO;rw[hg];simp only[jQ];rw[sc (show 0<=n.kind by omega) af,sc (show 0<=n.bE by omega) af,sc (show 0<=n.size by omega) af,sc (show 0<=n.aN.depth by omega) af,sc (show 0<=n.aN.many by omega) af,Dl hr];simp[h]
theorem wZ (h:eO s=some n):ew n=true/\gf n=s:=by
 unfold eO at h;split at h
 .simp only at h;split at h
  .cases h
  .rename_i hh;cases h
   simpa using hh
 .cases h
theorem uH:eO []=none:=by
 cases h:eO [] with
 |none=>rfl
 |some n=>
  obtain⟨h1,h2⟩:=wZ h;have:=(qT h1).1;rw[h2] at this;simp at this
theorem qU (h:bT s=true):(∀c∈s,97<=c.toNat/\c.toNat<=122)/\1<=s.length/\s.length<=4:=by
 simp only[bT,cv,cl,iM] at h;exact⟨λc hc=>h.1.1 c hc,h.1.2,h.2⟩
theorem Qk (h:bT s=true)(hc:c.toNat<97):∀x∈s,x≠c:=by
 rintro x hx rfl;have:=(qU h).1 x hx;omega
theorem uI (e:aT)(l:List aT):a8 (e::l)=(e.name++61::dec e.id)++59::a8 l:=by
 simp[a8]
theorem cut59:∀l:List aT,(∀e∈l,bT e.name=true/\0<=e.id)->(cut 59 (a8 l)).dropLast=l.map λe=>e.name++61::dec e.id
 |[],_=>rfl
 |e::l,h=>by
  have he:=h e (by simp);rw[uI,BM]
  .have gx:cut 59 (a8 l)≠[]:=by
    cases hh:a8 l with
    |nil=>simp[cut]
    |cons x z=>
     rw[cut];split
     .simp
     .split<;>simp
   rw[List.dropLast_cons_of_ne_nil gx,cut59 l (λx hx=>h x (by simp[hx]))];rfl
  .intro x hx;rcases fJ.1 hx with hx|hx
   .exact Qk he.1 (by decide) x hx
   .rcases bV.1 hx with rfl|hx
    .decide
    .exact Oe (BL he.2) (by decide) x hx
theorem Lo {e:aT}(h:bT e.name=true)(h0:0<=e.id)(h1:e.id<1000000000):lM (e.name++61::dec e.id)=some e:=by
 unfold lM;rw[BM _ _ _ (Qk h (by decide)),uD _ _ (Oe (BL h0) (by decide))];simp only[sc h0 h1]
theorem gV {l:List aT}(h:bz l=true):(∀e∈l,bT e.name=true/\1<=e.id/\e.id<=15)/\mr l=true/\l.length<=12:=by
 simp only[bz,cv,cl,iM,fR] at h;exact⟨λe he=>h.1.1 e he,h.1.2,h.2⟩
theorem Dq {l:List aT}(h:bz l=true):iw (a8 l)=some l:=by
 obtain⟨h1,_,_⟩:=gV h;unfold iw;rw[cut59 l (λe he=>⟨(h1 e he).1,by have:=h1 e he;omega⟩)];rw[Dm lM _ l (λe he=>by have:=h1 e he;exact Lo this.1 af af)];simp[h]
theorem lJ {l:List aT}(h:bz l=true):(a8 l).length<=96/\(l≠[]->1<=(a8 l).length):=by
 obtain⟨h1,_,h3⟩:=gV h;have:∀l:List aT,(∀e∈l,bT e.name=true/\1<=e.id/\e.id<=15)->(a8 l).length<=l.length*8/\(l≠[]->1<=(a8 l).length):=by
  intro l;induction l with
  |nil=>simp[a8]
  |cons e l ih=>
   intro h;have he:=h e (by simp);have h4:=(qU he.1).2;have h5:(dec e.id).length<=2:=by rw[mS af];exact gj _ 2 af af
   have:=(ih (λx hx=>h x (by simp[hx]))).1;rw[uI];simp only[bR,dh];refine⟨af,λ_=>by omega⟩
 have:=this l h1;exact⟨af,this.2⟩
end Go.Pg
namespace Go.Pg
open Go.Pl
variable {a b st cQ:ak}{Q':cV}{p:iL}{level:Int}{s:ay}
def nh (p:iL):Bool:=!aC p
def isAt (i:Nat)(p:iL):Bool:=decide (p.row.toNat=i)
def zn (i:Nat)(Q:cV):Nat:=Q.countP (isAt i)
theorem aav (i:Nat):zn i []=0:=rfl
theorem iz (i:Nat)(p q:cV):zn i (p++q)=zn i p+zn i q:=by simp[zn]
theorem oB (i:Nat)(p:iL)(q:cV):zn i (p::q)=zn i q+if p.row.toNat=i then 1 else 0:=by
 simp[zn,jI,isAt]
theorem Lp {i:Nat}{p q:cV}(h:p.Perm q):zn i p=zn i q:=h.countP_eq _
theorem Ds {i:Nat}{Q:cV}(h:zn i Q=0):∀p∈Q,p.row.toNat≠i:=by
 intro p hp he;have:=(Ao.1 h) p hp;simp[isAt,he] at this
def Live (st:ak)(p:iL):Prop:=fits p (rwAt st p)=true/\p.de<=st.fE
structure mz (st:ak)(Q:cV):Prop where
 lr:st.ep.length=64
 lf:st.aV.length=64
 ll:st.dq.length=64
 kp:st.ot=0
 tx:1<=st.fE
 lv:∀p∈Q,Live st p
 ct:∀i:Nat,i<64->((zn i (Q++st.cG):Nat):Int)<=st.aV.getD i 0
 gn:∀p∈st.cG,8<=p.row.toNat/\p.row.toNat<64
structure dM (st cQ:ak)(Q:cV):Prop where
 tx:cQ.fE=st.fE
 row:∀p∈Q,rwAt cQ p=rwAt st p
theorem dM.refl (st:ak)(Q:cV):dM st st Q:=⟨rfl,λ_ _=>rfl⟩
theorem dM.trans {a b c:ak}{Q Q':cV}(h:dM a b Q)(k:dM b c Q')(hs:∀p∈Q,p∈Q'):dM a c Q:=⟨k.tx.trans h.tx,λp hp=>(k.row p (hs p hp)).trans (h.row p hp)⟩
theorem dM.mono {Q Q':cV}(h:dM a b Q)(hs:∀p∈Q',p∈Q):dM a b Q':=⟨h.tx,λp hp=>h.row p (hs p hp)⟩
theorem Live.nh (h:Live st p):aC p=false/\bw p=true:=by
 have:=h.1;simp[fits] at this;exact⟨this.1.1.2,this.1.1.1⟩
theorem Live.UT (h:Live st p):8<=p.row.toNat/\p.row.toNat<64/\1<=p.de:=by
 have:=(vl h.nh.1).1 h.nh.2;omega
theorem Live.ext {Q:cV}(h:Live st p)(hr:rwAt cQ p=rwAt st p)(ht:st.fE<=cQ.fE):Live cQ p:=⟨by rw[hr];exact h.1,by have:=h.2;omega⟩
theorem mz.cR {Q Q':cV}(h:mz st Q)(hp:Q.Perm Q'):mz st Q':=
 ⟨h.lr,h.lf,h.ll,h.kp,h.tx,λp hq=>h.lv p (hp.mem_iff.2 hq),λi hi=>by rw[Lp (hp.symm.append_right _)];exact h.ct i hi,h.gn⟩
theorem mz.less {Q Q':cV}(h:mz st Q)(hm:∀p∈Q',p∈Q)(hc:∀i,zn i Q'<=zn i Q):mz st Q':=
 ⟨h.lr,h.lf,h.ll,h.kp,h.tx,λp hq=>h.lv p (hm p hq),λi hi=>by
   have:=h.ct i hi;rw[iz] at this⊢;have:=hc i;omega,h.gn⟩
theorem mz.sub {Q Q':cV}(h:mz st Q)(hs:Q'.Sublist Q):mz st Q':=h.less (λp hp=>hs.subset hp) (λi=>hs.countP_le)
theorem kP {p:Nat->Bool}:∀{n i k:Nat},nu p n i=some k->i<=k/\k<i+n/\p k=true
 |0,i,k,h=>by cases h
 |n+1,i,k,h=>by
  unfold nu at h;split at h
  .rename_i hp;cases h;exact⟨af,af,hp⟩
  .obtain⟨h1,h2,h3⟩:=kP h;exact⟨af,af,h3⟩
theorem jV {α:Type}(l:List α)(i j:Nat)(x d:α):(l.set i x).getD j d=if i=j/\j<l.length then x else l.getD j d:=by
 rw[aY,aY,List.getElem?_set];by_cases h:i=j
 .subst h;by_cases h2:i<l.length
  .simp[h2]
  .simp[h2]
 .simp[h]
theorem Dt {i de level:Int}(h:rU i de level s=some p):p=⟨i,de,s.length,sumOf s,level⟩/\1<=s.length/\s.length<=128/\bw p=true:=by
 unfold rU at h;simp only at h;split at h
 .cases h
 .split at h
  .cases h
  .rename_i h1 h2;cases h
   simp[Im] at h1;exact⟨rfl,oX.2 h1.1,h1.2,by simpa using h2⟩
theorem IK {i:Nat}(h:nX st s level=some i):8<=i/\i<64/\(st.ep.getD i []=s\/st.aV.getD i 0=0):=by
 unfold nX at h;split at h
 .rename_i k hk;cases h
  split at hk
  .obtain⟨h1,h2,h3⟩:=kP hk;simp only[ya,cv,cl] at h3;exact⟨h1,af,.inl h3.1.1⟩
  .cases hk
 .obtain⟨h1,h2,h3⟩:=kP h;exact⟨h1,af,.inr (by simpa using h3)⟩
theorem Lq {Q:cV}(h:mz st Q)(hw:aZ st s level=some (cQ,p)):
  mz cQ (p::Q)/\dM st cQ Q/\rwAt cQ p=s/\p.level=level/\p.de=st.fE/\cQ.cG=st.cG:=by
 unfold aZ at hw;split at hw
 .cases hw
 .rename_i i hi;obtain⟨i1,i2,i3⟩:=IK hi;split at hw
  .cases hw
  .rename_i q hq;obtain⟨q1,q2,q3,q4⟩:=Dt hq;cases hw
   have yl:p.row.toNat=i:=by rw[q1];simp
   have hnh:aC p=false:=by
    rw[q1];simp[aC,bq];omega
   have T1:∀q:iL,q∈Q->rwAt {st with ep:=st.ep.set i s,aV:=st.aV.set i (st.aV.getD i 0+1),dq:=st.dq.set i st.fE} q=rwAt st q:=by
    intro r hr;unfold rwAt;rw[jV];split
    .rename_i hc;rcases i3 with i3|i3
     .rw[<-hc.1,i3]
     .have h1:=h.ct i i2;rw[i3,iz] at h1;have h2:=Ds (i:=i) (Q:=Q) af r hr;exact absurd hc.1.symm h2
    .rfl
   have hme:rwAt {st with ep:=st.ep.set i s,aV:=st.aV.set i (st.aV.getD i 0+1),dq:=st.dq.set i st.fE} p=s:=by
    unfold rwAt;rw[jV,yl,if_pos ⟨rfl,by rw[h.lr];exact i2⟩]
   refine⟨⟨by simp[h.lr],by simp[h.lf],by simp[h.ll],h.kp,h.tx,?_,?_,h.gn⟩,⟨rfl,T1⟩,hme,by rw[q1],by rw[q1],rfl⟩
   .intro r hr;rcases bV.1 hr with rfl|hr
    .refine⟨?_,?_⟩
     .rw[hme];simp[fits,q4,hnh];constructor<;>rw[q1]
     .rw[q1];exact xJ _
    .exact(h.lv r hr).ext (Q:=Q) (T1 r hr) (xJ _)
   .intro j hj;have:=h.ct j hj;rw[xB,oB,jV,yl];by_cases qp:i=j
    .subst qp;rw[if_pos rfl,if_pos ⟨rfl,by rw[h.lf];exact i2⟩];show((zn i (Q++st.cG)+1:Nat):Int)<=_;omega
    .rw[if_neg qp,if_neg (by rintro⟨h,_⟩;exact qp h)];show((zn j (Q++st.cG)+0:Nat):Int)<=_;omega
theorem aaw {Q:cV}(h:mz st (p::Q)):mz (drop st p.row) Q/\dM st (drop st p.row) Q:=by
 have hp:=(h.lv p (by simp)).UT;have T0:=h.ct p.row.toNat hp.2.1;rw[xB,oB,if_pos rfl] at T0;have T1:∀q∈Q,rwAt (drop st p.row) q=rwAt st q:=by
  intro q hq;unfold drop rwAt;dsimp only;split
  .rename_i h0;rw[jV];split
   .rename_i hc;exfalso;rw[iz] at T0;exact Ds (i:=p.row.toNat) (Q:=Q) af q hq hc.1.symm
   .rfl
  .rfl
 refine⟨⟨?_,?_,?_,h.kp,h.tx,λq hq=>(h.lv q (by simp[hq])).ext (Q:=Q) (T1 q hq) (xJ _),?_,h.gn⟩,⟨rfl,T1⟩⟩
 .unfold drop;dsimp only;split<;>simp[h.lr]
 .unfold drop;simp[h.lf]
 .unfold drop;dsimp only;split<;>simp[h.ll]
 .intro i hi;have h1:=h.ct i hi;rw[xB,oB] at h1;show((zn i (Q++st.cG):Nat):Int)<=(st.aV.set p.row.toNat (st.aV.getD p.row.toNat 0-1)).getD i 0;rw[jV];by_cases hc:p.row.toNat=i
  .subst hc;rw[if_pos ⟨rfl,by rw[h.lf];exact hp.2.1⟩];omega
  .rw[if_neg (by rintro⟨h,_⟩;exact hc h)];rw[if_neg hc] at h1;omega
theorem Ql {Q:cV}(h:mz st (p::Q)):mz (free st p) Q/\dM st (free st p) Q:=by
 have hl:=h.lv p (by simp);have hr:=hl.UT;unfold free;rw[if_neg (by rw[hl.nh.1];simp),if_neg (by rw[h.kp];omega)];split
 .refine⟨⟨h.lr,h.lf,h.ll,h.kp,h.tx,λq hq=>h.lv q (by simp[hq]),λi hi=>?_,λq hq=>?_⟩,⟨rfl,λ_ _=>rfl⟩⟩
  .have:=h.ct i hi;rw[xB,oB,iz] at this;rw[iz,iz,oB,aav];show((_:Nat):Int)<=st.aV.getD i 0;omega
  .rcases fJ.1 hq with hq|hq
   .exact h.gn q hq
   .have:q=p:=by simpa using hq
    subst this;exact⟨hr.1,hr.2.1⟩
 .exact aaw h
theorem z7 (h:aC p=true):free st p=st:=by unfold free;rw[if_pos h]
theorem qb:∀{L:cV}{st:ak}{Q:cV},mz st (L.filter nh++Q)->mz (dB L st) Q/\dM st (dB L st) Q
 |[],st,Q,h=>⟨h,dM.refl _ _⟩
 |p::L,st,Q,h=>by
  cases hp:aC p with
  |true=>
   rw[tz,if_neg (by simp[nh,hp])] at h;have:=qb h;show mz (dB L (free st p)) Q/\_;rw[show dB (p::L) st=dB L (free st p) from rfl,z7 hp];exact this
  |false=>
   rw[tz,if_pos (by simp[nh,hp])] at h;obtain⟨h1,h2⟩:=Ql h;obtain⟨h3,h4⟩:=qb h1;exact⟨h3,(h2.mono (λq hq=>by simp[hq])).trans h4 (λq hq=>hq)⟩
theorem aax {Q:cV}(h:mz st Q):mz (next st) Q/\(next st).fE=st.fE+1/\∀p∈Q,rwAt (next st) p=rwAt st p:=by
 have key:∀(g:cV)(s:ak),s.ep.length=64->s.aV.length=64->s.dq.length=64->s.ot=0->s.fE=st.fE->(∀p∈Q,rwAt s p=rwAt st p)->(∀p∈g,p.row.toNat<64)->(∀i:Nat,i<64->((zn i (Q++g):Nat):Int)<=s.aV.getD i 0)->
   let s':=g.foldl (λst p=>drop st p.row) s
   s'.ep.length=64/\s'.aV.length=64/\s'.dq.length=64/\s'.ot=0/\s'.fE=st.fE/\(∀p∈Q,rwAt s' p=rwAt st p)/\(∀i:Nat,i<64->((zn i Q:Nat):Int)<=s'.aV.getD i 0):=by
  intro g;induction g with
  |nil=>intro s h1 h2 h3 h4 h5 h6 h7 h8;simp only[iH] at h8;exact⟨h1,h2,h3,h4,h5,h6,h8⟩
  |cons p g ih=>
   intro s h1 h2 h3 h4 h5 h6 h7 h8;have hp:=h7 p (by simp);have T0:=h8 p.row.toNat hp;rw[iz,oB,if_pos rfl] at T0;apply ih (drop s p.row)
   .unfold drop;dsimp only;split<;>simp[h1]
   .unfold drop;simp[h2]
   .unfold drop;dsimp only;split<;>simp[h3]
   .exact h4
   .exact h5
   .intro q hq;rw[<-h6 q hq];unfold drop rwAt;dsimp only;split
    .rw[jV];split
     .rename_i hc;exfalso;exact Ds (i:=p.row.toNat) (Q:=Q) af q hq hc.1.symm
     .rfl
    .rfl
   .exact λq hq=>h7 q (by simp[hq])
   .intro i hi;have h1:=h8 i hi;rw[iz,oB] at h1;show((zn i (Q++g):Nat):Int)<=(s.aV.set p.row.toNat (s.aV.getD p.row.toNat 0-1)).getD i 0;rw[jV,iz];by_cases hc:p.row.toNat=i
    .subst hc;rw[if_pos ⟨rfl,by rw[h2];exact hp⟩];omega
    .rw[if_neg (by rintro⟨h,_⟩;exact hc h)];rw[if_neg hc] at h1;omega
 obtain⟨h1,h2,h3,h4,h5,h6,h7⟩:=key st.cG st h.lr h.lf h.ll h.kp rfl (λ_ _=>rfl) (λp hp=>(h.gn p hp).2) h.ct;have ht:(next st).fE=st.fE+1:=rfl;refine⟨⟨h1,h2,h3,h4,by rw[ht];have:=h.tx;omega,λp hp=>(h.lv p hp).ext (Q:=Q) (h6 p hp) (by rw[ht];omega),λi hi=>?_,by simp[next]⟩,rfl,h6⟩;show((zn i (Q++[]):Nat):Int)<=_;rw[iH];exact h7 i hi
end Go.Pg
namespace Go.Pg
open Go.Pl
variable {n:Int}{p:iL}{l k r a q:cV}{cQ:ak}{t:bX}
theorem kQ (n:Nat):(cY n).filter nh=[]:=by
 rw[List.filter_eq_nil_iff];intro p hp;rw[List.eq_of_mem_replicate hp];decide
theorem mh {n:Nat}(h:p∈cY n):p=bq:=List.eq_of_mem_replicate h
theorem jd (n:Nat):(cY n).length=n:=rC
theorem jB:bw bq=true:=by decide
theorem WL:nh p=true↔aC p=false:=by simp[nh]
theorem dw:p∈l.filter nh↔p∈l/\aC p=false:=by rw[vR,WL]
theorem iA {st:ak}{level:Int}(h:below st p level=some k):
  k.length=4/\(∀q∈k,bw q=true)/\((aC p=true/\k=cY 4)\/(aC p=false/\p.level=level/\p.de<=st.fE/\fits p (rwAt st p)=true/\j9 (rwAt st p)=some k/\∀q∈k,q.de<=p.de)):=by
 unfold below at h;split at h
 .rename_i hp;cases h
  exact⟨jd 4,λq hq=>by rw[mh hq];exact jB,.inl ⟨hp,rfl⟩⟩
 .rename_i hp;split at h
  .cases h
  .rename_i hh;split at h
   .cases h
   .rename_i s hs;split at h
    .cases h
    .rename_i l hl;split at h
     .cases h
     .rename_i hb;cases h
      have h1:=AR hl;unfold jP at hs;rw[if_neg hp] at hs;split at hs
      .rename_i hf;cases hs
       refine⟨h1.1,h1.2.1,.inr ⟨by simpa using hp,?_,?_,hf,hl,?_⟩⟩
       .simp at hh;omega
       .simp at hh;omega
       .simpa using hb
      .cases hs
theorem Lr {st:ak}{level:Int}(h:aC p=false)(hl:p.level=level)(hb:p.de<=st.fE)(hf:fits p (rwAt st p)=true)(hg:j9 (rwAt st p)=some k)(hk:∀q∈k,q.de<=p.de):below st p level=some k:=by
 have ho:bw p=true:=by simp[fits] at hf;exact hf.1.1.1
 unfold below;rw[if_neg (by simp[h]),if_neg (by simp[ho,hl];omega)];have:jP st p=some (rwAt st p):=by unfold jP;rw[if_neg (by simp[h]),if_pos hf]
 rw[this];simp only;rw[hg];simp only;rw[if_neg];simpa using hk
theorem nR {st:ak}{level:Int}(h:aC p=true):below st p level=some (cY 4):=by unfold below;rw[if_pos h]
theorem sd {st cQ:ak}{level:Int}(h:below st p level=some k)(hr:aC p=false->rwAt cQ p=rwAt st p)(ht:st.fE<=cQ.fE):below cQ p level=some k:=by
 obtain⟨_,_,⟨h1,rfl⟩|⟨h1,h2,h3,h4,h5,h6⟩⟩:=iA h
 .exact nR h1
 .exact Lr h1 h2 af (by rw[hr h1];exact h4) (by rw[hr h1];exact h5) h6
theorem Ls (st:ak)(n:Int):down st n []=some []:=rfl
theorem pz {st:ak}(h:below st p n=some k)(h2:down st n l=some r):down st n (p::l)=some (k++r):=by
 unfold down at h2⊢;rw[EK,h];cases hm:l.mapM λp=>below st p n with
 |none=>rw[hm] at h2;cases h2
 |some w=>rw[hm] at h2;cases h2;rfl
theorem gk {st:ak}(h:down st n (p::l)=some r):∃k r',below st p n=some k/\down st n l=some r'/\r=k++r':=by
 unfold down at h⊢;rw[EK] at h;cases hb:below st p n with
 |none=>rw[hb] at h;cases h
 |some k=>
  cases hm:l.mapM λp=>below st p n with
  |none=>rw[hb,hm] at h;cases h
  |some w=>rw[hb,hm] at h;cases h;exact⟨k,_,rfl,rfl,rfl⟩
theorem Du {st:ak}:∀{l l2 r r2:cV},down st n l=some r->down st n l2=some r2->down st n (l++l2)=some (r++r2)
 |[],l2,r,r2,h,h2=>by cases h;exact h2
 |p::l,l2,r,r2,h,h2=>by
  obtain⟨k,r',h3,h4,rfl⟩:=gk h;rw[xB,kA];exact pz h3 (Du h4 h2)
theorem Dv {st:ak}:∀{l l2 r:cV},down st n (l++l2)=some r->∃r1 r2,down st n l=some r1/\down st n l2=some r2/\r=r1++r2
 |[],l2,r,h=>⟨[],r,rfl,h,rfl⟩
 |p::l,l2,r,h=>by
  obtain⟨k,r',h3,h4,rfl⟩:=gk h;obtain⟨r1,r2,h5,h6,rfl⟩:=Dv h4;exact⟨k++r1,r2,pz h3 h5,h6,by simp⟩
theorem w6 (st:ak)(n:Int):∀m:Nat,down st n (cY m)=some (cY (4*m))
 |0=>rfl
 |m+1=>by
  have:=pz (nR (st:=st) (level:=n) lh) (w6 st n m);rw[show cY (m+1)=bq::cY m from rfl,this]
  congr 1
theorem yK {st:ak}:∀{l r:cV},down st n l=some r->r.length=4*l.length/\∀q∈r,bw q=true
 |[],r,h=>by cases h;simp
 |p::l,r,h=>by
  obtain⟨k,r',h3,h4,rfl⟩:=gk h;obtain⟨h5,h6⟩:=yK h4;obtain⟨h7,h8,_⟩:=iA h3;refine⟨by simp[h5,h7];omega,λq hq=>?_⟩;rcases fJ.1 hq with hq|hq
  .exact h8 q hq
  .exact h6 q hq
theorem Dw {st cQ:ak}:∀{l r:cV},down st n l=some r->(∀p∈l.filter nh,rwAt cQ p=rwAt st p)->st.fE<=cQ.fE->down cQ n l=some r
 |[],r,h,_,_=>h
 |p::l,r,h,hr,ht=>by
  obtain⟨k,r',h3,h4,rfl⟩:=gk h;refine pz (sd h3 (λhp=>hr p (dw.2 ⟨by simp,hp⟩)) ht) (Dw h4 (λq hq=>hr q ?_) ht);rw[dw] at hq⊢;exact⟨by simp[hq.1],hq.2⟩
theorem yL {st:ak}:∀{l r:cV},down st n l=some r->∀p∈l,(below st p n).isSome=true
 |[],r,h=>by simp
 |p::l,r,h=>by
  obtain⟨k,r',h3,h4,rfl⟩:=gk h;intro q hq;rcases bV.1 hq with rfl|hq
  .rw[h3];rfl
  .exact yL h4 q hq
def pn (st:ak):Nat->cV->Option (cV×cV)
 |0,l=>some (l,[])
 |n+1,l=>match down st (n+1:Nat) l with
  |none=>none
  |some l'=>match pn st n l' with
   |none=>none
   |some (a,q)=>some (a,l.filter nh++q)
theorem qV (st:ak):∀(n:Nat)(l:cV),gN.go st n l=(pn st n l).map (·.1)
 |0,l=>rfl
 |n+1,l=>by
  rw[gN.go,pn];cases down st (n+1:Nat) l with
  |none=>rfl
  |some l'=>
   simp only;rw[qV st n l'];cases pn st n l' with
   |none=>rfl
   |some r=>rfl
theorem gD {st:ak}{n:Nat}(h:pn st (n+1) l=some (a,q)):∃l' q',down st (n+1:Nat) l=some l'/\pn st n l'=some (a,q')/\q=l.filter nh++q':=by
 rw[pn] at h;cases hd:down st (n+1:Nat) l with
 |none=>rw[hd] at h;cases h
 |some l'=>
  rw[hd] at h;simp only at h;cases hl:pn st n l' with
  |none=>rw[hl] at h;cases h
  |some r=>
   rw[hl] at h;cases h
   exact⟨l',r.2,rfl,hl,rfl⟩
theorem td {st:ak}{n:Nat}{l l' a q':cV}(h:down st (n+1:Nat) l=some l')(h2:pn st n l'=some (a,q')):pn st (n+1) l=some (a,l.filter nh++q'):=by
 rw[pn,h];simp only;rw[h2]
theorem Dx {st cQ:ak}:∀{n:Nat}{l a q:cV},pn st n l=some (a,q)->(∀p∈q,rwAt cQ p=rwAt st p)->st.fE<=cQ.fE->pn cQ n l=some (a,q)
 |0,l,a,q,h,_,_=>h
 |n+1,l,a,q,h,hr,ht=>by
  obtain⟨l',q',h1,h2,rfl⟩:=gD h;exact td (Dw h1 (λp hp=>hr p (di _ hp)) ht) (Dx h2 (λp hp=>hr p (dH _ hp)) ht)
theorem Dy {st:ak}:∀{n:Nat}{l a q:cV},pn st n l=some (a,q)->a.length=4^ n*l.length/\((∀p∈l,bw p=true)->∀p∈a,bw p=true)
 |0,l,a,q,h=>by cases h;simp
 |n+1,l,a,q,h=>by
  obtain⟨l',q',h1,h2,rfl⟩:=gD h;obtain⟨h3,h4⟩:=Dy h2;obtain⟨h5,h6⟩:=yK h1;refine⟨by rw[h3,h5,T8,Nat.mul_assoc],λ_=>h4 h6⟩
structure qy (st:ak)(t:bX)(l q:cV):Prop where
 mn:0<=t.many/\t.many<=16
 dp:t.depth=cH t.many
 rt:bw t.cC=true
 lv:∃a,pn st t.depth.toNat [t.cC]=some (a,q)/\l=a++cY (16-a.length)
 hl:∀i:Nat,t.many<=i->l.getD i bq=bq
 l0:∀p∈l,aC p=false->p.level=0
def cB (l q:cV):cV:=q++l.filter nh
theorem qy.len {st:ak}(h:qy st t l q):l.length=16/\∀p∈l,bw p=true:=by
 obtain⟨a,h1,rfl⟩:=h.lv;obtain⟨h2,h3⟩:=Dy h1;have hd:=fu t.many;have:t.depth.toNat=0\/t.depth.toNat=1\/t.depth.toNat=2:=by rw[h.dp];omega
 refine⟨?_,λp hp=>?_⟩
 .rw[bR,jd,h2];rcases this with h|h|h<;>rw[h]<;>simp
 .rcases fJ.1 hp with hp|hp
  .exact h3 (by simpa using h.rt) p hp
  .rw[mh hp];exact jB
theorem qy.ext {st cQ:ak}(h:qy st t l q)(hr:∀p∈q,rwAt cQ p=rwAt st p)(ht:st.fE<=cQ.fE):qy cQ t l q:=by
 obtain⟨a,h1,h2⟩:=h.lv;exact⟨h.mn,h.dp,h.rt,⟨a,Dx h1 hr ht,h2⟩,h.hl,h.l0⟩
theorem qy.wide {st:ak}(h:qy st t l q):wide st t=l:=by
 obtain⟨a,h1,h2⟩:=h.lv;unfold Go.Pl.wide gN;rw[qV,h1,h2];rfl
theorem se (st:ak):qy st eX (cY 16) []:=⟨by decide,by decide,by decide,⟨[bq],rfl,rfl⟩,λi _=>by
 rw[aY];by_cases hi:i<16
 .rw[bk (by rw[jd];exact hi)];exact Po ..
 .rw[rB (by rw[jd];omega)];rfl,λp hp h=>by rw[mh hp] at h;cases h⟩
theorem qy.fH {st:ak}(h:qy st t l q):fH st t=q:=by
 obtain⟨a,h1,h2⟩:=h.lv;have hd:=fu t.many;have oK:0<=t.depth:=by rw[h.dp];exact hd.1
 have hc:t.depth.toNat=0\/t.depth.toNat=1\/t.depth.toNat=2:=by rw[h.dp];omega
 unfold Go.Pl.fH;rcases hc with hc|hc|hc<;>rw[hc] at h1
 .cases h1;rw[if_pos (.inl af)]
 .obtain⟨l',q',h3,h4,rfl⟩:=gD h1;cases h4
  cases hr:aC t.cC with
  |true=>rw[if_pos (.inr rfl)];simp[nh,hr]
  |false=>rw[if_neg (by simp;omega),if_neg af];simp[nh,hr]
 .obtain⟨l',q',h3,h4,rfl⟩:=gD h1;obtain⟨l2,q2,h5,h6,rfl⟩:=gD h4;cases h6
  obtain⟨k,r',h7,h8,rfl⟩:=gk h3;have hr':r'=[]:=by cases h8;rfl
  subst hr';simp only[iH] at *
  have Nh:below st t.cC 2=some k:=h7;cases hr:aC t.cC with
  |true=>
   rw[if_pos (.inr rfl)];rw[nR hr] at Nh;cases Nh
   rw[kQ];simp[nh,hr]
  |false=>
   rw[if_neg (by simp;omega),if_pos af,Nh];simp[nh,hr];rfl
theorem fan_ok {st cQ:ak}{Q l:cV}{level:Int}{old p:iL}(h:mz st Q)(h4:l.length=4)(hl:∀p∈l,bw p=true/\p.de<=st.fE)(ho:aC old=false->old∈Q/\(below st old level).isSome=true)(hf:NB st l level old=some (cQ,p)):
  ∃new jC,[p].filter nh=new++jC/\mz cQ (new++Q)/\dM st cQ Q/\below cQ p level=some l/\bw p=true/\p.de<=st.fE/\(jC=[]\/(jC=[p]/\p=old))/\cQ.cG=st.cG:=by
 unfold NB at hf;split at hf
 .rename_i ha;cases hf
  have hlh:l=cY 4:=by
   rw[<-h4];exact List.eq_replicate_iff.2 ⟨rfl,λp hp=>p9.1 (iM.1 ha p hp)⟩
  exact⟨[],[],rfl,h,dM.refl _ _,by rw[hlh];exact nR lh,jB,by show(0:Int)<=_;have:=h.tx;omega,.inl rfl,rfl⟩
 .rename_i ha;have ha:l.all aC=false:=by simpa using ha
  have hp:=SB h4 (λp hp=>(hl p hp).1) ha;have hg:=Of h4 (λp hp=>(hl p hp).1) ha;rw[hp] at hf;simp only[pH] at hf;split at hf
  .rename_i hc;cases hf
   simp only[cv,pG,cl] at hc;obtain⟨⟨u9,qt⟩,H0⟩:=hc;obtain⟨ho1,Nt⟩:=ho u9;obtain⟨k,hk⟩:=kB.1 Nt;have ED:k=l:=by
    obtain⟨_,_,⟨h1,_⟩|⟨_,_,_,_,h5,_⟩⟩:=iA hk
    .rw[u9] at h1;cases h1
    .rw[H0,hg] at h5;cases h5;rfl
   subst ED;exact⟨[],[old],by simp[nh,u9],h,dM.refl _ _,hk,(h.lv old ho1).nh.2,(h.lv old ho1).2,.inr ⟨rfl,rfl⟩,rfl⟩
  .obtain⟨h1,h2,h3,h5,h6,h7⟩:=Lq h hf;have IL:=h1.lv p (by simp);refine⟨[p],[],by simp[nh,IL.nh.1],h1,h2,?_,IL.nh.2,by rw[h6];exact xJ _,.inl rfl,h7⟩;exact Lr IL.nh.1 h5 IL.2 IL.1 (by rw[h3];exact hg) (λq hq=>by rw[h6];exact(hl q hq).2)
theorem vm {level:Int}:∀(k:Nat){L was:cV}{st cQ:ak}{Q stays w7 out aay:cV},L.length=4*k->k<=was.length->mz st Q->(∀p∈L,bw p=true/\p.de<=st.fE)->(∀w∈was,aC w=false->w∈Q/\(below st w level).isSome=true)->ka level L was st stays out=(cQ,some (w7,aay))->
  ∃o new jC,aay=out++o/\o.length=k/\(o.filter nh).Perm (new++jC)/\mz cQ (new++Q)/\dM st cQ Q/\down cQ level o=some L/\(∀p∈o,bw p=true/\p.de<=st.fE)/\jC.Sublist (was.filter nh)/\(∀r∈jC,r∈w7)/\(∀r∈stays,r∈w7)
 |0,L,was,st,cQ,Q,stays,w7,out,aay,hL,hw,h,hp,ho,hg=>by
  have:L=[]:=mG af;subst this;rw[ka] at hg
  .cases hg
   exact⟨[],[],[],by simp,rfl,.refl _,h,dM.refl _ _,rfl,by simp,List.nil_sublist _,by simp,λr hr=>hr⟩
  .intros;contradiction
 |k+1,L,was,st,cQ,Q,stays,w7,out,aay,hL,hw,h,hp,ho,hg=>by
  match L,hL with
  |a::b::c::d::L,hL=>
  match was,hw with
  |w::was,hw=>
  rw[ka] at hg;simp only[List.headD_cons,List.tail_cons] at hg;split at hg
  .cases hg
  .rename_i st1 p hf;have hp4:∀x∈[a,b,c,d],bw x=true/\x.de<=st.fE:=λx hx=>hp x (by simp at hx⊢;rcases hx with rfl|rfl|rfl|rfl<;>simp)
   obtain⟨n1,r1,f1,f2,f3,f4,f5,f6,f7,_⟩:=fan_ok h rfl hp4 (ho w (by simp)) hf;have Zz:st1.fE=st.fE:=f3.tx;obtain⟨o,new,jC,g1,g2,g3,g4,g5,g6,g7,g8,g9,g10⟩:=vm k (by simp at hL;omega) (by simp at hw;omega) f2 (λx hx=>by rw[Zz];exact hp x (by simp[hx])) (λx hx hh=>by
    obtain⟨h1,h2⟩:=ho x (by simp[hx]) hh;obtain⟨y,hy⟩:=kB.1 h2;exact⟨by simp[h1],by rw[sd hy (λ_=>f3.row x h1) af];rfl⟩) hg
   have g10':(∀r∈stays,r∈w7)/\(p=w->p∈w7):=by
    refine⟨λr hr=>g10 r ?_,λhpw=>g10 p ?_⟩
    .by_cases hpw:p=w<;>simp[hpw,hr]
    .simp[hpw]
   refine⟨p::o,new++n1,r1++jC,by rw[g1];simp,by simp[g2],?_,by rw[kA];exact g4,f3.trans g5 (λx hx=>by simp[hx]),?_,?_,?_,?_,?_⟩
   .have:(p::o).filter nh=[p].filter nh++o.filter nh:=by rw[<-pI];rfl
    rw[this,f1];refine(oY _ g3).trans ?_;simp only[kA];refine(od _ _ _).trans ?_;refine(od _ _ _).trans ?_;refine(oY _ (od _ _ _)).trans ?_;exact od _ _ _
   .refine pz (sd f4 (λhh=>g5.row p ?_) (by rw[g5.tx];omega)) g6;have:p∈[p].filter nh:=by simp[nh,hh]
    rw[f1] at this;rcases fJ.1 this with hm|hm
    .exact di _ hm
    .rcases f7 with f7|⟨f7,f8⟩
     .rw[f7] at hm;cases hm
     .subst f8;exact dH _ (ho p (by simp) hh).1
   .intro x hx;rcases bV.1 hx with rfl|hx
    .exact⟨f5,f6⟩
    .rw[<-Zz];exact g7 x hx
   .rcases f7 with f7|⟨f7,f8⟩
    .rw[f7,oa];exact g8.trans (List.Sublist.filter _ (List.sublist_cons_self _ _))
    .subst f8;have hpn:nh p=true:=by
      rw[f7] at f1;have:p∈[p].filter nh:=by rw[f1];simp
      exact(vR.1 this).2
     rw[f7,tz,if_pos hpn];exact g8.cons_cons _
   .intro r hr;rcases fJ.1 hr with hr|hr
    .rcases f7 with f7|⟨f7,f8⟩
     .rw[f7] at hr;cases hr
     .rw[f7] at hr;have:r=p:=by simpa using hr
      subst this;exact g10'.2 f8
    .exact g9 r hr
   .exact g10'.1
end Go.Pg
namespace Go.Pg
open Go.Pl
variable {l q R:cV}{st cQ:ak}{t:bX}{many:Int}
theorem w8 (l:cV):∃k,(eY l).length=4*k/\4*k<l.length+4/\l.length<=4*k:=by
 unfold eY;rw[bR,jd];refine⟨(l.length+3)/ 4,?_,?_,?_⟩<;>omega
theorem w9 {p:iL}(h:p∈eY l):p∈l\/p=bq:=by
 rcases fJ.1 h with h|h
 .exact .inl h
 .exact .inr (mh h)
theorem SD (l:cV):(eY l).filter nh=l.filter nh:=by
 unfold eY;rw[pI,kQ,iH]
theorem WM (h:qy st t l q)(depth:Int)(hd:depth=1\/depth=2):
  ∃w1 w2:cV,(depth=1->iE st t depth 1=w1/\w2=[]/\1<=w1.length)/\(depth=2->iE st t depth 1=w1/\iE st t depth 2=w2/\4<=w1.length/\1<=w2.length)/\
   (∀w∈w1,aC w=false->(below st w 1).isSome=true)/\(∀w∈w2,aC w=false->(below st w 2).isSome=true)/\(w2.filter nh++w1.filter nh).Sublist q:=by
 obtain⟨a,h1,h2⟩:=h.lv;have hdd:=fu t.many;have hh:∀w∈cY 4,aC w=false->False:=λw hw h=>by rw[mh hw] at h;cases h
 by_cases gx:t.depth=depth
 .rcases hd with hd|hd
  .have hc:t.depth.toNat=1:=by rw[gx,hd];rfl
   rw[hc] at h1;obtain⟨l',q',h3,h4,rfl⟩:=gD h1;cases h4
   refine⟨[t.cC],[],λ_=>⟨?_,rfl,by simp⟩,λh=>by omega,λw hw _=>yL h3 w hw,by simp,by simp⟩;unfold iE;rw[if_neg af,if_pos af]
  .have hc:t.depth.toNat=2:=by rw[gx,hd];rfl
   rw[hc] at h1;obtain⟨l',q',h3,h4,rfl⟩:=gD h1;obtain⟨l2,q2,h5,h6,rfl⟩:=gD h4;cases h6
   obtain⟨k,r',h7,h8,rfl⟩:=gk h3;have hr':r'=[]:=by cases h8;rfl
   subst hr';simp only[iH] at *
   have Nh:below st t.cC 2=some k:=h7;have hk:=(iA Nh).1;refine⟨k,[t.cC],λh=>by omega,λ_=>⟨?_,?_,af,by simp⟩,λw hw _=>yL h5 w hw,λw hw _=>by simp at hw;subst hw;rw[Nh];rfl,Fu _⟩
   .unfold iE;rw[if_neg af,if_neg af,hd,Nh];rfl
   .unfold iE;rw[if_neg af,if_pos af]
 .rcases hd with hd|hd
  .refine⟨cY 4,[],λ_=>⟨?_,rfl,by decide⟩,λh=>by omega,λw hw hx=>(hh w hw hx).elim,by simp,by rw[kQ];simp⟩;unfold iE;rw[if_pos gx]
  .refine⟨cY 4,cY 4,λh=>by omega,λ_=>⟨?_,?_,by decide,by decide⟩,λw hw hx=>(hh w hw hx).elim,λw hw hx=>(hh w hw hx).elim,by rw[kQ];simp⟩
   .unfold iE;rw[if_pos gx]
   .unfold iE;rw[if_pos gx]
theorem SE (h:qy st t l q)(hr:∀p∈q,rwAt cQ p=rwAt st p)(ht:st.fE<=cQ.fE)(hd:t.depth=2->(t.cC∈q\/aC t.cC=true))(depth level:Int)(hdp:depth=2):iE cQ t depth level=iE st t depth level:=by
 unfold iE;split
 .rfl
 .split
  .rfl
  .rename_i gx _;obtain⟨a,h1,h2⟩:=h.lv;have hc:t.depth.toNat=2:=by omega
   rw[hc] at h1;obtain⟨l',q',h3,h4,rfl⟩:=gD h1;obtain⟨k,r',h7,h8,rfl⟩:=gk h3;have Nh:below st t.cC 2=some k:=h7;rw[hdp,Nh,sd Nh (λhh=>hr _ ?_) ht];rcases hd af with hd|hd
   .exact hd
   .rw[hh] at hd;cases hd
theorem WN (h:qy st t l q)(hd:t.depth=2):t.cC∈q\/aC t.cC=true:=by
 obtain⟨a,h1,h2⟩:=h.lv;have hc:t.depth.toNat=2:=by omega
 rw[hc] at h1;obtain⟨l',q',h3,h4,rfl⟩:=gD h1;cases hr:aC t.cC with
 |true=>exact .inr rfl
 |false=>left;apply di;simp[nh,hr]
theorem SF {st st1:ak}{l q R lt l1 stays:cV}(h:qy st t l q)(hs:mz st (q++R))(hm:0<=many/\many<=16)(dA:lt.length=many.toNat)(hp:∀p∈lt,bw p=true/\p.de<=st.fE)
  (hl:ib t (cH many) (cH many).toNat 1 lt st []=(st1,some (stays,l1))):
  ∃a new jC q',mz st1 (new++(q++R))/\dM st st1 (q++R)/\pn st1 (cH many).toNat [l1.headD bq]=some (a,q')/\a++cY (16-a.length)=lt++cY (16-many.toNat)/\q'.Perm (new++jC)/\jC.Sublist q/\(∀r∈jC,r∈stays)/\bw (l1.headD bq)=true:=by
 by_cases h1:many<=1
 .have hd:cH many=0:=by unfold cH;rw[if_pos h1]
  rw[hd] at hl⊢;cases hl
  refine⟨[lt.headD bq],[],[],[],hs,dM.refl _ _,rfl,?_,.refl _,List.nil_sublist _,by simp,?_⟩
  .match lt,dA with
   |[],dA=>rw[show many.toNat=0 from dA.symm];rfl
   |[x],dA=>rw[show many.toNat=1 from dA.symm];rfl
   |x::y::z,dA=>simp at dA;omega
  .cases lt with
   |nil=>exact jB
   |cons x z=>exact(hp x (by simp)).1
 .by_cases h4:many<=4
  .have hd:cH many=1:=by unfold cH;rw[if_neg h1,if_pos h4]
   rw[hd] at hl⊢;obtain⟨w1,w2,hw,_,Gk,_,jO⟩:=WM h 1 (.inl rfl);obtain⟨MX,rfl,hw3⟩:=hw rfl;simp only[List.filter_nil,oa] at jO;have ju:ib t 1 (0+1) 1 lt st []=(st1,some (stays,l1)):=hl;rw[ib,MX] at ju;obtain⟨k,Dz,x9,hk3⟩:=w8 lt;have hk:k=1:=by omega
   subst hk;split at ju
   .cases ju
   .rename_i stx stays1 lx hg;rw[ib] at ju;cases ju
    have ZB:∀w∈w1,aC w=false->w∈q++R/\(below st w 1).isSome=true:=λw hw hh=>⟨di _ (jO.subset (dw.2 ⟨hw,hh⟩)),Gk w hw hh⟩
    obtain⟨o,new,jC,g1,g2,g3,g4,g5,g6,g7,g8,g9,g10⟩:=vm 1 Dz hw3 hs (λp pr=>by
     rcases w9 pr with pr|rfl
     .exact hp p pr
     .exact⟨jB,by show(0:Int)<=_;have:=hs.tx;omega⟩) ZB hg
    match o,g2 with
    |[p],_=>
    rw[g1];refine⟨eY lt,new,jC,[p].filter nh++[],g4,g5,td g6 rfl,?_,by rw[iH];exact g3,g8.trans jO,g9,(g7 p (by simp)).1⟩;rw[Dz];unfold eY;rw[kA]
    congr 1
    simp only[cY,Uf]
    congr 1
    have:(eY lt).length=lt.length+(4-lt.length% 4)% 4:=by unfold eY;rw[bR,jd]
    omega
  .have hd:cH many=2:=by unfold cH;rw[if_neg h1,if_neg h4]
   rw[hd] at hl⊢;obtain⟨w1,w2,_,hw,Gk,TV,jO⟩:=WM h 2 (.inr rfl);obtain⟨MX,Rn,hw3,hw4⟩:=hw rfl;have ju:ib t 2 (0+1+1) 1 lt st []=(st1,some (stays,l1)):=hl;rw[ib,MX] at ju;obtain⟨k,Dz,x9,hk3⟩:=w8 lt;split at ju
   .cases ju
   .rename_i stx stays1 lx hg;have WQ:∀w∈w1,aC w=false->w∈q:=λw hw hh=>jO.subset (dH _ (dw.2 ⟨hw,hh⟩))
    have YK:∀w∈w2,aC w=false->w∈q:=λw hw hh=>jO.subset (di _ (dw.2 ⟨hw,hh⟩))
    obtain⟨o,new,jC,g1,g2,g3,g4,g5,g6,g7,g8,g9,g10⟩:=vm k Dz af hs (λp pr=>by
     rcases w9 pr with pr|rfl
     .exact hp p pr
     .exact⟨jB,by show(0:Int)<=_;have:=hs.tx;omega⟩) (λw hw hh=>⟨di _ (WQ w hw hh),Gk w hw hh⟩) hg
    rw[oa] at g1;subst g1;have hext:∀p∈q,rwAt stx p=rwAt st p:=λp hp=>g5.row p (di _ hp)
    rw[ib,show(1:Int)+1=2 from rfl,SE h hext (by rw[g5.tx];omega) (WN h) 2 2 rfl,Rn] at ju;obtain⟨k2,hk4,hk5,hk6⟩:=w8 lx;have hk:k2=1:=by omega
    subst hk;split at ju
    .cases ju
    .rename_i sty stays2 ly By;rw[ib] at ju;cases ju
     obtain⟨o2,new2,aaz,e1,e2,e3,e4,e5,e6,e7,e8,e9,e10⟩:=vm 1 hk4 hw4 g4 (λp pr=>by
      rw[g5.tx];rcases w9 pr with pr|rfl
      .exact g7 p pr
      .exact⟨jB,by show(0:Int)<=_;have:=hs.tx;omega⟩) (λw hw hh=>by
       refine⟨dH _ (di _ (YK w hw hh)),?_⟩;obtain⟨y,hy⟩:=kB.1 (TV w hw hh);rw[sd hy (λ_=>hext w (YK w hw hh)) (by rw[g5.tx];omega)];rfl) By
     match o2,e2 with
     |[p],_=>
     rw[e1];have hx6:down st1 1 (eY lx)=some (eY lt++cY (4*((4-lx.length% 4)% 4))):=by
      unfold eY;refine Du (Dw g6 (λr hr=>e5.row r ?_) (by rw[e5.tx];omega)) (w6 _ _ _);rw[g3.mem_iff] at hr;rcases fJ.1 hr with hr|hr
      .exact di _ hr
      .exact dH _ (di _ (jO.subset (dH _ (g8.subset hr))))
     refine⟨_,new2++new,aaz++jC,[p].filter nh++((eY lx).filter nh++[]),?_,g5.trans e5 (λx hx=>dH _ hx),td e6 (td hx6 rfl),?_,?_,?_,?_,(e7 p (by simp)).1⟩
     .rw[kA];exact e4
     .have hlx:(eY lt).length=lt.length+(4-lt.length% 4)% 4:=by unfold eY;rw[bR,jd]
      rw[bR,jd,Dz];unfold eY;rw[kA,kA]
      congr 1
      simp only[cY,Uf]
      congr 1
      omega
     .rw[iH,SD];refine(List.Perm.append e3 g3).trans ?_;simp only[kA];refine oY _ ?_;exact od _ _ _
     .exact(JF e8 g8).trans jO
     .intro r hr;rcases fJ.1 hr with hr|hr
      .exact e9 r hr
      .exact e10 r (g9 r hr)
theorem Og (i:Nat)(f:iL->Bool)(q:cV):zn i (q.filter f)+zn i (q.filter λp=>!f p)=zn i q:=by
 induction q with
 |nil=>rfl
 |cons p q ih=>
  rw[tz,tz];cases hf:f p<;>simp[oB]<;>omega
theorem Oh {a b:cV}{f:iL->Bool}(h:a.Sublist b)(hf:∀x∈a,f x=true):a.Sublist (b.filter f):=by
 have:=h.filter f;rw[B7.2 hf] at this;exact this
theorem WR {t t':bX}{l q R lv:cV}(h:qy st t l q)(hs:mz st (q++R))(cX:lv.length=16)(hm:0<=many/\many<=16)(hp:∀p∈lv,bw p=true/\p.de<=st.fE/\(aC p=false->p.level=0))(hl:gT st t lv many=(cQ,some t')):
  ∃q',qy cQ t' (lv.take many.toNat++cY (16-many.toNat)) q'/\mz cQ (q'++R)/\dM st cQ R/\t'.many=many:=by
 unfold gT at hl;simp only at hl;split at hl
 .cases hl
 .rename_i st1 stays l1 IL;cases hl
  obtain⟨a,new,jC,q',k1,k2,k3,k4,k5,k6,k7,k8⟩:=SF h hs hm (by rw[dg,cX];omega) (λp pr=>⟨(hp p (M6 pr)).1,(hp p (M6 pr)).2.1⟩) IL;rw[h.fH];have hf:mz st1 ((q.filter λp=>!(stays.contains p)).filter nh++(q'++R)):=by
   have h1:mz st1 ((q.filter λp=>!(stays.contains p))++(q'++R)):=by
    refine k1.less (λp pr=>?_) (λi=>?_)
    .simp only[fJ,vR] at pr⊢;rcases pr with⟨pr,_⟩|pr|pr
     .exact .inr (.inl pr)
     .rcases fJ.1 (k5.mem_iff.1 pr) with pr|pr
      .exact .inl pr
      .exact .inr (.inl (k6.subset pr))
     .exact .inr (.inr pr)
    .have e1:=Lp (i:=i) k5;have e2:zn i jC<=zn i (q.filter λp=>stays.contains p):=(Oh k6 (λx hx=>by simpa using k7 x hx)).countP_le;have e3:=Og i (λp=>stays.contains p) q;simp only[iz] at e1⊢;omega
   exact h1.sub (JF FC (Fu _))
  obtain⟨f1,f2⟩:=qb hf;refine⟨q',⟨hm,rfl,k8,⟨a,Dx k3 (λp pr=>f2.row p (di _ pr)) (by rw[f2.tx];omega),k4.symm⟩,λi hi=>?_,λp pr hh=>?_⟩,f1,?_,rfl⟩
  .have hi:many<=(i:Int):=hi;rw[aY,zu (by rw[dg,cX];omega)];by_cases hb:i-(lv.take many.toNat).length<(cY (16-many.toNat)).length
   .rw[bk hb];exact Po ..
   .rw[rB af];rfl
  .rcases fJ.1 pr with pr|pr
   .exact(hp p (M6 pr)).2.2 hh
   .rw[mh pr] at hh;cases hh
  .exact(k2.mono (λp pr=>dH _ pr)).trans f2 (λp pr=>dH _ pr)
end Go.Pg
namespace Go.Pg
open Go.Pl
variable {st cQ:ak}{p:iL}{t t':bX}{q:cV}
theorem lj (h:aC p=true):bh st p=[]:=by unfold bh jP;rw[if_pos h];rfl
theorem SG (h:Live st p):bh st p=rwAt st p:=by
 unfold bh jP;rw[if_neg (by rw[h.nh.1];simp),if_pos h.1];rfl
theorem mT (hr:aC p=false->rwAt cQ p=rwAt st p):bh cQ p=bh st p:=by
 cases h:aC p with
 |true=>rw[lj h,lj h]
 |false=>
  unfold bh jP;rw[hr h]
theorem GR {l:cV}{k:Nat}(h:k<l.length)(p:iL):l=l.take k++l.getD k bq::l.drop (k+1)/\l.set k p=l.take k++p::l.drop (k+1):=by
 have:l.getD k bq=l[k]:=by rw[aY,bk h];rfl
 refine⟨?_,?_⟩
 .rw[this];simp
 .rw[List.set_eq_take_append_cons_drop,if_pos h]
theorem set_perm {l:cV}{k:Nat}(h:k<l.length)(p:iL):((l.set k p).filter nh++[l.getD k bq].filter nh).Perm ([p].filter nh++l.filter nh):=by
 obtain⟨h1,h2⟩:=GR h p;rw[h2]
 conv=>rhs;rw[h1]
 generalize l.take k=a;generalize l.drop (k+1)=b;generalize l.getD k bq=x;have e:∀y:iL,(a++y::b).filter nh=a.filter nh++([y].filter nh++b.filter nh):=λy=>by
  show(a++([y]++b)).filter nh=_;rw[pI,pI]
 rw[e,e];generalize a.filter nh=a;generalize b.filter nh=b;generalize [x].filter nh=x;generalize [p].filter nh=p;have h1:(a++(p++b)++x).Perm (p++(a++(b++x))):=by
  simp only[kA];exact od _ _ _
 have h2:(p++(a++(b++x))).Perm (p++(a++(x++b))):=oY _ (oY _ List.perm_append_comm);exact h1.trans h2
theorem SH {l:cV}{many:Nat}(BD:l.length=16)(hm:many<=16)(h:∀i:Nat,many<=i->l.getD i bq=bq):l.take many++cY (16-many)=l:=by
 apply Ua;intro i;by_cases hi:i<many
 .rw[wq (by rw[dg];omega),Ug hi]
 .rw[zu (by rw[dg];omega),dg,BD,Ba hm];by_cases h2:i<16
  .have:=h i af;rw[aY,bk af] at this;rw[bk (by rw[jd];omega),bk af];simp only[pH] at this;rw[this]
   congr 1
   exact Po ..
  .rw[rB (by rw[jd];omega),rB af]
theorem tK (l:cV)(m n j:Nat):(l.take m++cY n).getD j bq=if j<m then l.getD j bq else bq:=by
 rw[aY];by_cases h:j<(l.take m).length
 .rw[wq h,Ug (by rw[dg] at h;omega),if_pos (by rw[dg] at h;omega),aY]
 .rw[zu af];have hh:(cY n)[j-(l.take m).length]?.getD bq=bq:=by
   by_cases h2:j-(l.take m).length<(cY n).length
   .rw[bk h2];exact Po ..
   .rw[rB af];rfl
  rw[hh];split
  .rw[dg] at h;rw[aY,rB af];rfl
  .rfl
theorem jn {l:cV}{j:Nat}(h:aC (l.getD j bq)=false):l.getD j bq∈l:=by
 rw[aY] at h⊢;by_cases hj:j<l.length
 .rw[bk hj];exact tA _
 .rw[rB af] at h;cases h
def aaA (st cQ:ak)(t t':bX)(l R:cV)(k:Nat)(s:ay):Prop:=
 ∃l' q',qy cQ t' l' q'/\mz cQ (cB l' q'++R)/\dM st cQ R/\t'.many=max t.many ((k:Int)+1)/\∀j:Nat,bh cQ (l'.getD j bq)=if j=k then s else bh st (l.getD j bq)
theorem yM {l q R:cV}{k:Nat}{s:ay}(h:qy st t l q)(hs:mz st (cB l q++R))(hk:k<16)(hp:nj st t k s=(cQ,t',true)):aaA st cQ t t' l R k s:=by
 unfold nj at hp;simp only[h.wide] at hp;obtain⟨cX,hlo⟩:=h.len;have xz:=h.mn;have WT:∀p∈l,p.de<=st.fE:=λp hp=>by
  cases hh:aC p with
  |true=>rw[p9.1 hh];show(0:Int)<=_;have:=hs.tx;omega
  |false=>exact(hs.lv p (by simp only[cB,fJ];exact .inl (.inr (dw.2 ⟨hp,hh⟩)))).2
 split at hp
 .rename_i hc;cases hp
  refine⟨l,q,h,hs,dM.refl _ _,af,λj=>?_⟩;split
  .rename_i hj;rw[hj];exact hc.1
  .rfl
 .rename_i hc;split at hp
  .cases hp
  .rename_i x st1 p dK;split at hp
   .cases hp
   .rename_i y eI t2 oT;cases hp
    have hfin:∀j,(l.set k p).getD j bq=if j=k then p else l.getD j bq:=λj=>by
     rw[jV,cX];by_cases hj:k=j
     .subst hj;rw[if_pos ⟨rfl,hk⟩,if_pos rfl]
     .rw[if_neg (by rintro⟨h,_⟩;exact hj h),if_neg (λh=>hj h.symm)]
    have WU:(l.set k p).length=16:=by rw[gZ];exact cX
    have hw:mz st1 ([p].filter nh++(cB l q++R))/\dM st st1 (cB l q++R)/\(bw p=true/\p.de<=st.fE/\(aC p=false->p.level=0))/\bh st1 p=s:=by
     split at dK
     .rename_i hws;cases dK
      have ri:aC (l.getD k bq)=false->(l.getD k bq)∈l:=jn;have ho:bw (l.getD k bq)=true/\(l.getD k bq).de<=st.fE/\(aC (l.getD k bq)=false->(l.getD k bq).level=0):=by
       cases hh:aC (l.getD k bq) with
       |true=>rw[p9.1 hh];exact⟨jB,by show(0:Int)<=_;have:=hs.tx;omega,by simp⟩
       |false=>exact⟨hlo _ (ri hh),WT _ (ri hh),λ_=>h.l0 _ (ri hh) hh⟩
      have hmt:max t.many ((k:Int)+1)≠t.many:=λh=>hc ⟨hws,h⟩
      have hkh:l.getD k bq=bq:=h.hl k af;refine⟨?_,dM.refl _ _,ho,hws⟩;rw[hkh];exact hs
     .unfold Io at dK;split at dK
      .rename_i Qm;cases dK
       exact⟨hs,dM.refl _ _,⟨jB,by show(0:Int)<=_;have:=hs.tx;omega,by intro h;cases h⟩,by rw[lj lh,Qm]⟩
      .obtain⟨w1,w2,w3,w4,w5,_⟩:=Lq hs dK;have IL:=w1.lv p (by simp);have hpn:[p].filter nh=[p]:=by simp[nh,IL.nh.1]
       rw[hpn];exact⟨w1,w2,⟨IL.nh.2,by rw[w5];exact xJ _,λ_=>w4⟩,by rw[SG IL,w3]⟩
    obtain⟨MX,Rn,hw3,hw4⟩:=hw;have AS:st1.fE=st.fE:=Rn.tx;have hT1:qy st1 t l q:=h.ext (λr hr=>Rn.row r (by simp[cB,hr])) (by rw[AS];omega);have hS1:mz st1 (q++([p].filter nh++(l.filter nh++R))):=MX.cR (by
     simp only[cB,kA];exact od _ _ _)
    have hmx:0<=max t.many ((k:Int)+1)/\max t.many ((k:Int)+1)<=16:=by omega
    obtain⟨q',k1,k2,k3,k4⟩:=WR hT1 hS1 WU hmx (λr hr=>by
     rw[AS];rcases Pp hr with hr|rfl
     .exact⟨hlo r hr,WT r hr,h.l0 r hr⟩
     .exact hw3) oT
    have ju:(l.set k p).take (max t.many ((k:Int)+1)).toNat++cY (16-(max t.many ((k:Int)+1)).toNat)=l.set k p:=by
     apply SH WU af;intro i hi;rw[hfin,if_neg af];exact h.hl i af
    rw[ju] at k1;have hperm:=set_perm (l:=l) (k:=k) af p;have key:mz (if p=l.getD k bq then eI else free eI (l.getD k bq)) (cB (l.set k p) q'++R)/\dM eI (if p=l.getD k bq then eI else free eI (l.getD k bq)) (cB (l.set k p) q'++R):=by
     have SI:mz eI ([l.getD k bq].filter nh++(cB (l.set k p) q'++R)):=k2.cR (by
      have e1:(q'++([p].filter nh++(l.filter nh++R))).Perm (q'++(((l.set k p).filter nh++[l.getD k bq].filter nh)++R)):=by
       rw[<-kA ([p].filter nh)];exact oY _ (B8 _ hperm.symm)
      refine e1.trans ?_;simp only[cB,kA];refine(oY q' (od _ _ _)).trans ?_;exact od _ _ _)
     split
     .exact⟨SI.sub (np _ _),dM.refl _ _⟩
     .cases hh:aC (l.getD k bq) with
      |true=>
       rw[z7 hh];exact⟨SI.sub (np _ _),dM.refl _ _⟩
      |false=>
       rw[show [l.getD k bq].filter nh=[l.getD k bq] by rw[tz,if_pos (WL.2 hh)];rfl] at SI;exact Ql SI
    obtain⟨key1,WV⟩:=key;generalize(if p=l.getD k bq then eI else free eI (l.getD k bq))=st3 at key1 WV⊢;refine⟨l.set k p,q',k1.ext (λr hr=>WV.row r (by simp[cB,hr])) (by rw[WV.tx];omega),key1,?_,k4,λj=>?_⟩
    .refine(Rn.mono (λr hr=>dH _ hr)).trans ((k3.mono (Q':=R) (λr hr=>?_)).trans (WV.mono (Q':=R) λr hr=>dH _ hr) (λr hr=>hr)) (λr hr=>hr);exact dH _ (dH _ hr)
    .rw[hfin];have DB:∀r,aC r=false->r∈l.set k p->rwAt st3 r=rwAt eI r:=λr hh hr=>WV.row r (by
      simp only[cB,fJ];exact .inl (.inr (dw.2 ⟨hr,hh⟩)))
     split
     .rename_i hj;rw[<-hw4,mT (λhh=>(DB p hh ?_)),mT (λhh=>k3.row p ?_)]
      .exact di _ (by simp[nh,hh])
      .obtain⟨_,e⟩:=GR (l:=l) (k:=k) af p;rw[e];simp
     .rename_i hj;have YB:aC (l.getD j bq)=false->l.getD j bq∈l.set k p:=λhh=>by
       have:(l.set k p).getD j bq=l.getD j bq:=by rw[hfin,if_neg hj]
       rw[<-this] at hh⊢;exact jn hh
      rw[mT (λhh=>DB _ hh (YB hh)),mT (λhh=>k3.row _ ?_),mT (λhh=>Rn.row _ ?_)]
      .simp only[cB,fJ];exact .inl (.inr (dw.2 ⟨jn hh,hh⟩))
      .exact dH _ (di _ (dw.2 ⟨jn hh,hh⟩))
theorem BN {l q R:cV}{many:Int}(h:qy st t l q)(hs:mz st (cB l q++R))(hm:0<=many/\many<=t.many)(hp:sU st t many=(cQ,t',true)):
  ∃l' q',qy cQ t' l' q'/\mz cQ (cB l' q'++R)/\dM st cQ R/\t'.many=many/\∀j:Nat,bh cQ (l'.getD j bq)=if(j:Int)<many then bh st (l.getD j bq) else []:=by
 unfold sU at hp;obtain⟨cX,hlo⟩:=h.len;have xz:=h.mn;split at hp
 .rename_i hc;cases hp
  refine⟨l,q,h,hs,dM.refl _ _,hc.symm,λj=>?_⟩;split
  .rfl
  .rw[h.hl j af,lj lh]
 .simp only[h.wide] at hp;split at hp
  .cases hp
  .rename_i y eI t2 oT;cases hp
   obtain⟨q',k1,k2,k3,k4⟩:=WR h (R:=l.filter nh++R) (by simpa[cB] using hs) cX ⟨hm.1,af⟩ (λr hr=>by
    refine⟨hlo r hr,?_,h.l0 r hr⟩;cases hh:aC r with
    |true=>rw[p9.1 hh];show(0:Int)<=_;have:=hs.tx;omega
    |false=>exact(hs.lv r (by simp only[cB,fJ];exact .inl (.inr (dw.2 ⟨hr,hh⟩)))).2) oT
   have Bg:(l.take many.toNat++cY (16-many.toNat)).filter nh=(l.take many.toNat).filter nh:=by rw[pI,kQ,iH]
   have SI:mz eI ((l.drop many.toNat).filter nh++(cB (l.take many.toNat++cY (16-many.toNat)) q'++R)):=k2.cR (by
    have e:l.filter nh=(l.take many.toNat).filter nh++(l.drop many.toNat).filter nh:=by rw[<-pI,zq]
    rw[e];unfold cB;rw[Bg];simp only[kA];refine(oY q' (od _ _ _)).trans ?_;exact od _ _ _)
   obtain⟨f1,f2⟩:=qb SI;refine⟨_,q',k1.ext (λr hr=>f2.row r (by simp[cB,hr])) (by rw[f2.tx];omega),f1,?_,k4,λj=>?_⟩
   .exact(k3.mono (Q':=R) (λr hr=>dH _ hr)).trans (f2.mono (Q':=R) λr hr=>dH _ hr) (λr hr=>hr)
   .rw[tK];by_cases hj:j<many.toNat
    .rw[if_pos hj,if_pos af,mT (λhh=>f2.row _ ?_),mT (λhh=>k3.row _ ?_)]
     .exact di _ (dw.2 ⟨jn hh,hh⟩)
     .simp only[cB,fJ];refine .inl (.inr (dw.2 ⟨?_,hh⟩));have:(l.take many.toNat++cY (16-many.toNat)).getD j bq=l.getD j bq:=by rw[tK,if_pos hj]
      rw[<-this] at hh⊢;exact jn hh
    .rw[if_neg hj,if_neg af,lj lh]
theorem DC:∀{n:Nat}{l1 l2 a q:cV},pn st n (l1++l2)=some (a,q)->∃a1 q1 a2 q2,pn st n l1=some (a1,q1)/\pn st n l2=some (a2,q2)/\a=a1++a2/\q.Perm (q1++q2)
 |0,l1,l2,a,q,h=>by cases h;exact⟨l1,[],l2,[],rfl,rfl,rfl,.refl _⟩
 |n+1,l1,l2,a,q,h=>by
  obtain⟨l',q',h1,h2,rfl⟩:=gD h;obtain⟨r1,r2,h3,h4,rfl⟩:=Dv h1;obtain⟨a1,q1,a2,q2,h5,h6,rfl,h7⟩:=DC h2;refine⟨a1,_,a2,_,td h3 h5,td h4 h6,rfl,?_⟩;rw[pI];simp only[kA];refine oY _ ((oY _ h7).trans ?_);exact od _ _ _
theorem DD (st:ak):∀(n m:Nat),∃c,pn st n (cY m)=some (cY c,[])
 |0,m=>⟨m,rfl⟩
 |n+1,m=>by
  obtain⟨c,h⟩:=DD st n (4*m);exact⟨c,by have:=td (w6 st (n+1:Nat) m) h;rw[kQ] at this;exact this⟩
theorem IM:∀(n:Nat)(L:cV){a q:cV},pn st n L=some (a,q)->(∀p∈a,aC p=false->p.level=0)->
  ∃(c:Nat)(D:cV),c<=L.length*5^ n/\D.Perm (q++a.filter nh)/\∀f aL out,pP (c+f) st (L++aL) out=pP f st aL (out++D)
 |0,L,a,q,h,h0=>by
  cases h
  induction L with
  |nil=>exact⟨0,[],by simp,.refl _,λf aL out=>by simp⟩
  |cons p L ih=>
   obtain⟨c,D,h1,h2,h3⟩:=ih (λx hx=>h0 x (by simp[hx]));cases hp:aC p with
   |true=>
    refine⟨c+1,D,by simp at h1⊢;omega,by simpa[nh,hp] using h2,λf aL out=>?_⟩;rw[show c+1+f=(c+f)+1 by omega,xB,pP,if_pos hp,h3]
   |false=>
    refine⟨c+1,p::D,by simp at h1⊢;omega,by simpa[nh,hp] using h2,λf aL out=>?_⟩;have hl:=h0 p (by simp) hp;rw[show c+1+f=(c+f)+1 by omega,xB,pP,if_neg (by rw[hp];simp),if_neg af,h3];simp
 |n+1,L,a,q,h,h0=>by
  induction L generalizing a q with
  |nil=>
   obtain⟨l',q',h1,h2,rfl⟩:=gD h;have ju:l'=[]:=by cases h1;rfl
   subst ju;have:∀m,pn st m []=some ([],[]):=λm=>by
    induction m with
    |zero=>rfl
    |succ m ih=>rw[pn];simp only[Ls,ih];rfl
   rw[this] at h2;cases h2
   exact⟨0,[],by simp,.refl _,λf aL out=>by simp⟩
  |cons p L ih=>
   obtain⟨a1,q1,a2,q2,h1,h2,rfl,hq⟩:=DC (l1:=[p]) (l2:=L) h;obtain⟨c,D,h3,h4,h5⟩:=ih _ _ h2 (λx hx=>h0 x (by simp[hx]));obtain⟨l',q',h6,h7,rfl⟩:=gD h1;have hpow:5^ (n+1)=5*5^ n:=by rw[T8,FD]
   have hpos:1<=5^ n:=Nat.pow_pos af;cases hp:aC p with
   |true=>
    obtain⟨k,r',h8,h9,rfl⟩:=gk h6;have hr':r'=[]:=by cases h9;rfl
    subst hr';rw[nR hp] at h8;cases h8
    rw[iH] at h7;obtain⟨c',tM⟩:=DD st n 4;rw[tM] at h7;cases h7
    refine⟨c+1,D,?_,?_,λf aL out=>?_⟩
    .rw[dh,mq];omega
    .refine h4.trans ?_;rw[pI,kQ,oa];rw[show [p].filter nh=[] by simp[nh,hp]] at hq;exact B8 _ (by simpa using hq.symm)
    .rw[show c+1+f=(c+f)+1 by omega,xB,pP,if_pos hp,h5]
   |false=>
    obtain⟨k,r',h8,h9,rfl⟩:=gk h6;have hr':r'=[]:=by cases h9;rfl
    subst hr';rw[iH] at h7;obtain⟨hk4,_,⟨hx,_⟩|⟨_,hlev,_⟩⟩:=iA h8
    .rw[hp] at hx;cases hx
    obtain⟨c2,D2,EB,YE,zF⟩:=IM n k h7 (λx hx=>h0 x (by simp[hx]));refine⟨c2+c+1,p::(D2++D),?_,?_,λf aL out=>?_⟩
    .rw[dh,mq];rw[hk4] at EB;omega
    .have e:([p].filter nh)=[p]:=by simp[nh,hp]
     rw[e] at hq;have:(q++(a1++a2).filter nh).Perm ((([p]++q')++q2)++(a1.filter nh++a2.filter nh)):=by
      rw[pI];exact B8 _ hq
     refine List.Perm.trans ?_ this.symm;refine(List.Perm.cons p (List.Perm.append YE h4)).trans ?_;simp only[kA,tw];refine List.Perm.cons p (oY q' ?_);exact od _ _ _
    .rw[show c2+c+1+f=(c2+(c+f))+1 by omega,xB,pP,if_neg (by rw[hp];simp),if_pos (by rw[hlev];omega),hlev,h8];simp only[pH];rw[zF,h5];simp
theorem IN {l q:cV}(h:qy st t l q):(wJ st t).Perm (cB l q):=by
 obtain⟨a,h1,h2⟩:=h.lv;have hd:=fu t.many;obtain⟨c,D,h3,h4,h5⟩:=IM t.depth.toNat [t.cC] h1 (λp hp hh=>h.l0 p (by rw[h2];simp[hp]) hh);have hc:c<=125:=by
  refine' zaV
 unfold wJ;have:=h5 (200-c) [] [];rw[show c+(200-c)=(199-c)+(c+1) by omega] at this;rw[show 200=(199-c)+(c+1) by omega];rw[iH] at this;rw[this];obtain⟨g,hg⟩:∃g,200-c=g+1:=⟨199-c,af⟩;rw[hg,pP];simp only[oa,pH];refine h4.trans ?_;rw[h2];unfold cB;rw[pI,kQ,iH]
end Go.Pg
namespace Go.Pl
open Go Go.Ev Go.Lg Go.Proofs
structure SA where
 r:aH
 rc:Nat
 f:aH
 fc:Nat
 l:aH
 lc:Nat
 g:aH
 gc:Nat
 d:aH
 dc:Nat
abbrev rz (v:SA)(st:ak):aQ:=[.slice v.r 64 v.rc,.slice v.f 64 v.fc,.slice v.l 64 v.lc,iv st.fE,.slice v.g st.cG.length v.gc,iv st.ot,.slice v.d st.eg.length v.dc,.bool st.same]
abbrev fF (v:SA)(st:ak):Value:=.agg ⟨rz v st⟩
abbrev eM (v:SA)(st:ak):bn:=[.aJ (.slice v.r 64 v.rc) 9 1 (ah st.ep),.aJ (.slice v.f 64 v.fc) 3 1 (ah st.aV),.aJ (.slice v.l 64 v.lc) 3 1 (ah st.dq),.aJ (.slice v.g st.cG.length v.gc) 60 5 (ah st.cG),.aJ (.slice v.d st.eg.length v.dc) 60 5 (ah st.eg)]
abbrev im (v:SA):List Nat:=ai v.r++(ai v.f++ai v.l)
structure cJ (s:St)(v:SA)(st:ak):Prop where
 r:bM s v.r 64 1 (ah st.ep)
 f:bM s v.f 64 1 (ah st.aV)
 l:bM s v.l 64 1 (ah st.dq)
structure qQ (Γ:gY)(L:bn)(v:SA)(st:ak):Prop where
 r:jR Γ L v.r 64 1 (ah st.ep)
 f:jR Γ L v.f 64 1 (ah st.aV)
 l:jR Γ L v.l 64 1 (ah st.dq)
section
variable {E:dy}{X:dM}{Γ:gY}{l:Kn}{L L2 R:bn}{K:KO}{f:FuncId}{xs:List Operand}{ts:Array TypeId}{vs:aQ}{r:Value}{A:List Nat}{v:SA}{st:ak}{s:St}
theorem qQ.row (h:qQ Γ L v st)(hi:Inv Γ s L):cJ s v st/\∀b∈im v,EF Γ s b:=by
 refine⟨⟨(h.r.row hi).1,(h.f.row hi).1,(h.l.row hi).1⟩,λb hb=>?_⟩;rcases fJ.1 hb with hb|hb
 .exact(h.r.row hi).2 b hb
 .rcases fJ.1 hb with hb|hb
  .exact(h.f.row hi).2 b hb
  .exact(h.l.row hi).2 b hb
theorem GS {b:Nat}(h:b∈ai v.r):b∈im v:=di _ h
theorem GU {b:Nat}(h:b∈ai v.f):b∈im v:=dH _ (di _ h)
theorem GV {b:Nat}(h:b∈ai v.l):b∈im v:=dH _ (dH _ h)
theorem WO.lY (hx:ky l xs vs)(h:∀s,cJ s v st->pW E X f vs s (im v) r)(hh:qQ Γ L v st)(k:∀m m',kb L m->m<=m'->K r L m m' (λi=>i∈im v\/i∈([]:bn).flatMap It.aS\/(m<=i/\i<m')) (λi=>i∈([]:bn).flatMap It.aS\/(m<=i/\i<m'))):WO E X Γ l (.call ⟨.value (.func f),⟨xs⟩,ts⟩) L K:=
 WO.tH hx (λs hi=>⟨(hh.row hi).2,h s (hh.row hi).1⟩) k
theorem WO.zT {α:Type}{sz:Nat}{enc:c9 α sz}{e:TypeId}{p:List α}(hx:ky l xs vs)(h:∀s,cJ s v st->fa E X f vs s (im v) e p)(hh:qQ Γ L v st)(k:∀m m' a c,kb L m->m<=m'->K (.slice a p.length c) (.aJ (.slice a p.length c) e sz (ah (sz:=sz) p)::L) m m' (λi=>i∈im v\/i∈([]:bn).flatMap It.aS\/(m<=i/\i<m')) (λi=>i∈([]:bn).flatMap It.aS\/(m<=i/\i<m'))):WO E X Γ l (.call ⟨.value (.func f),⟨xs⟩,ts⟩) L K:=
 WO.Ku hx (λs hi=>⟨(hh.row hi).2,h s (hh.row hi).1⟩) k
theorem WO.ta {α:Type}{sz:Nat}{enc:c9 α sz}{e:TypeId}{p:List α}{b:Bool}(hx:ky l xs vs)(h:∀s,cJ s v st->ke E X f vs s (im v) e p b)(hh:qQ Γ L v st)(k:∀m m' a c,kb L m->m<=m'->K (.tuple ⟨[.slice a p.length c,.bool b]⟩) (.aJ (.slice a p.length c) e sz (ah (sz:=sz) p)::L) m m' (λi=>i∈im v\/i∈([]:bn).flatMap It.aS\/(m<=i/\i<m')) (λi=>i∈([]:bn).flatMap It.aS\/(m<=i/\i<m'))):WO E X Γ l (.call ⟨.value (.func f),⟨xs⟩,ts⟩) L K:=
 WO.Vq hx (λs hi=>⟨(hh.row hi).2,h s (hh.row hi).1⟩) k
theorem Rd.DE (h:cJ s v st):Rd ⟨s,([]:bn).flatMap It.aS,im v⟩ v.r 64 1 (ah st.ep):=Rd.of h.r λ_ hb=>GS hb
theorem Rd.off (h:cJ s v st):Rd ⟨s,([]:bn).flatMap It.aS,im v⟩ v.f 64 1 (ah st.aV):=Rd.of h.f λ_ hb=>GU hb
theorem Rd.BO (h:cJ s v st):Rd ⟨s,([]:bn).flatMap It.aS,im v⟩ v.l 64 1 (ah st.dq):=Rd.of h.l λ_ hb=>GV hb
inductive oz:bn->bn->bn->Prop
 |nil {L:bn}:oz [] L L
 |cons {x:It} {xs L R R2:bn} (h:NF x L R) (k:oz xs R R2):oz (x::xs) L R2
theorem oz.cR {xs L R:bn}(h:oz xs L R):L.Perm (xs++R):=by
 induction h with
 |nil=>exact .refl _
 |cons h _ ih=>exact h.cR.trans (ih.cons _)
abbrev eP (E:dy)(X:dM)(f:FuncId)(vs:aQ)(s:St)(A:List Nat)(v:SA)(st cQ:ak)(ok:Bool)(mk:Value->Value):Prop:=fI E X f vs s (eM v st) A λr L=>∃v':SA,(ok=false->v'=v)/\r=mk (fF v' cQ)/\L=eM v' cQ
theorem WO.mQ {cQ:ak}{ok:Bool}{mk:Value->Value}(hx:ky l xs vs)(h:∀s,eP E X f vs s [] v st cQ ok mk)(hp:oz (eM v st) L R)(k:∀m m' v',kb L m->m<=m'->(ok=false->v'=v)->K (mk (fF v' cQ)) (eM v' cQ++R) m m' (λi=>i∈([]:List Nat)\/i∈(eM v st).flatMap It.aS\/(m<=i/\i<m')) (λi=>i∈(eM v st).flatMap It.aS\/(m<=i/\i<m'))):WO E X Γ l (.call ⟨.value (.func f),⟨xs⟩,ts⟩) L K:=
 WO.call (Lm:=eM v st) (R:=R) hx hp.cR (λs hi b hb=>by cases hb) (λs _=>h s) (by rintro r L' m m' ho hm ⟨v',hv,rfl,rfl⟩;exact k m m' v' ho hm hv)
theorem qv {rs:List ResultVar}{x:Ex}{v':SA}{cQ:ak}{ok:Bool}{mk:Value->Value}{ws:aQ}(hx:x= .normal\/x= .ret)(hr:pV E l L rs ws)(hL:cr (eM v' cQ) L)(hv:gF ws=mk (fF v' cQ))(fZ:ok=false->v'=v):
  ux E rs (λr L=>∃v':SA,(ok=false->v'=v)/\r=mk (fF v' cQ)/\L=eM v' cQ) x l L:=⟨hx,ws,_,hr,hL,v',fZ,hv,rfl⟩
end
theorem WO.storeT {E:dy}{X:dM}{Γ:gY}{l:Kn}{L L':bn}{K:KO}{x y:Operand}{w:Value}{t:TypeId}{a:aH}{n:Nat}{α:Type}{enc:c9 α 1}{p:List α}{q:α}{i c e:Nat}[ht:iG E t 1](hx:Ev l x (da a i 1 0))(hy:Ev l y w)
  (hu:yk (.aJ (.slice a n c) e 1 (ah p)) (.aJ (.slice a n c) e 1 (ah (p.set i q))) L L')(hv:c9.cells q=[w])(hi:i<p.length)(k:∀n,K (.tuple ⟨[]⟩) L' n n (λi=>i∈ai a) (λi=>i∈ai a)):WO E X Γ l (.store t x y) L K:=
 WO.storeE (m:=1) hx hy hv hi hu k
structure du (n:Nat)(st:ak):Prop where
 lr:st.ep.length=64
 lf:st.aV.length=64
 ll:st.dq.length=64
 rw:∀x∈st.ep,x.length<=3000
 rf:∀x∈st.aV,-(n:Int)<=x/\x<=n
 tx:1<=st.fE/\st.fE<=n
 kp:0<=st.ot/\st.ot<=n
 gl:st.cG.length<=n
 dl:st.eg.length<=n
 gr:∀p∈st.cG,0<=p.row/\p.row<64
structure dZ (t:bX):Prop where
 rt:bw t.cC=true
 mn:0<=t.many/\t.many<=16
 dp:0<=t.depth/\t.depth<=2
theorem du.mono {n m:Nat}{st:ak}(h:du n st)(hm:n<=m):du m st:=
 ⟨h.lr,h.lf,h.ll,h.rw,λx hx=>by have:=h.rf x hx;omega,by have:=h.tx;omega,by have:=h.kp;omega,by have:=h.gl;omega,by have:=h.dl;omega,h.gr⟩
theorem du.row {n:Nat}{st:ak}(h:du n st)(i:Nat):(st.ep.getD i []).length<=3000:=by
 rw[aY];by_cases hi:i<st.ep.length
 .rw[bk hi];exact h.rw _ (tA _)
 .rw[rB af];simp
theorem du.ref {n:Nat}{st:ak}(h:du n st)(i:Nat): -(n:Int)<=st.aV.getD i 0/\st.aV.getD i 0<=n:=by
 rw[aY];by_cases hi:i<st.aV.length
 .rw[bk hi];exact h.rf _ (tA _)
 .rw[rB af];simp
theorem yN {p:iL}(h:bw p=true)(hh:aC p=false):8<=p.row/\p.row<=63:=by
 have:=h;simp only[bw,hh,Bool.false_or,RH,fR,cv,cl] at this;omega
end Go.Pl
namespace Go.Pl
theorem j6:∀s:ay,bK s s=false
 |[]=>rfl
 |a::s=>by
  show(if a.toNat<a.toNat then true else if a.toNat<a.toNat then false else bK s s)=false;rw[if_neg (FE _),if_neg (FE _),j6 s]
theorem qc (a b:UInt8)(s t:ay):bK (a::s) (b::t)=if a.toNat<b.toNat then true else if b.toNat<a.toNat then false else bK s t:=rfl
theorem eU:∀a b c:ay,bK a b=true->bK b c=true->bK a c=true
 |[],[],_,h,_=>by cases h
 |[],_::_,[],_,h=>by cases h
 |[],_::_,_::_,_,_=>rfl
 |_::_,[],_,h,_=>by cases h
 |_::_,_::_,[],_,h=>by cases h
 |a::s,b::t,c::u,h1,h2=>by
  rw[qc] at h1 h2⊢;by_cases h3:a.toNat<b.toNat
  .by_cases h4:b.toNat<c.toNat
   .rw[if_pos af]
   .rw[if_neg h4] at h2;by_cases h5:c.toNat<b.toNat
    .rw[if_pos h5] at h2;cases h2
    .rw[if_pos af]
  .rw[if_neg h3] at h1;by_cases h6:b.toNat<a.toNat
   .rw[if_pos h6] at h1;cases h1
   .rw[if_neg h6] at h1;by_cases h4:b.toNat<c.toNat
    .rw[if_pos af]
    .rw[if_neg h4] at h2;by_cases h5:c.toNat<b.toNat
     .rw[if_pos h5] at h2;cases h2
     .rw[if_neg h5] at h2;rw[if_neg af,if_neg af];exact eU s t u h1 h2
theorem lp:∀a b:ay,bK a b=false->bK b a=false->a=b
 |[],[],_,_=>rfl
 |[],_::_,h,_=>by cases h
 |_::_,[],_,h=>by cases h
 |a::s,b::t,h1,h2=>by
  rw[qc] at h1 h2;by_cases h3:a.toNat<b.toNat
  .rw[if_pos h3] at h1;cases h1
  .rw[if_neg h3] at h1;by_cases h4:b.toNat<a.toNat
   .rw[if_pos h4] at h2;cases h2
   .rw[if_neg h4] at h1 h2;rw[if_neg h3] at h2;rw[lp s t h1 h2,wu.1 (show a.toNat=b.toNat by omega)]
theorem DF {a b:ay}(h:bK a b=true):bK b a=false:=by
 cases hb:bK b a with
 |false=>rfl
 |true=>have:=eU a b a h hb;rw[j6] at this;cases this
theorem mU {a b:ay}(h:bK a b=true):a≠b:=λe=>by rw[e,j6] at h;cases h
section
variable {α:Type}{P:α->Bool}
theorem IP:∀(l:List α),l.Pairwise (λa b=>P b=true->P a=true)->∀(h:Nat)(d:α),h<l.length->(P (l.getD h d)=true↔h<l.countP P)
 |[],_,h,_,hl=>by simp at hl
 |x::l,hp,h,d,hl=>by
  obtain⟨h1,h2⟩:=jK.1 hp;rw[jI];by_cases hx:P x=true
  .rw[if_pos hx];cases h with
   |zero=>simp[hx]
   |succ h=>
    have:=IP l h2 h d (by simpa using hl);rw[Aq,this];omega
  .have hz:l.countP P=0:=Ao.2 λy hy Be=>hx (h1 y hy Be)
   rw[if_neg hx,hz];have:P ((x::l).getD h d)≠true:=λe=>by
    cases h with
    |zero=>exact hx e
    |succ h=>
     rw[Aq,aY,bk (by simpa using hl)] at e;exact hx (h1 _ (tA _) e)
   exact⟨λe=>absurd e this,λe=>absurd e (by simp)⟩
theorem mj {l:List α}{i:Nat}{d:α}(hi:i<l.length)(h1:P (l.getD i d)=true)(h2:∀j,j<i->P (l.getD j d)≠true):l.findIdx? P=some i:=by
 rw[nq];rw[aY,bk hi] at h1;refine⟨hi,h1,λj hj=>?_⟩;have:=h2 j hj;rw[aY,bk af] at this;exact this
theorem yO {l:List α}(d:α)(h:∀j,j<l.length->P (l.getD j d)≠true):l.findIdx? P=none:=by
 rw[Ap];intro x hx;obtain⟨j,hj,rfl⟩:=l5 hx;have:=h j hj;rw[aY,bk hj] at this;simpa using this
end
def eB (q:eV):Prop:=q.Pairwise λx y=>x.id<y.id
def kq (p:dx):Prop:=p.Pairwise λx y=>bK x.ag y.ag=true
def Bl (q:eV)(k:Int):Nat:=q.countP λx=>decide (x.id<k)
def Bm (p:dx)(z:ay):Nat:=p.countP λx=>bK x.ag z
def nS (q:eV)(k:Int):Option Nat:=q.findIdx? λx=>decide (x.id=k)
def uJ (p:dx)(z:ay):Option Nat:=p.findIdx? λx=>decide (x.ag=z)
theorem BP {q:eV}(hs:eB q)(k:Int){h:Nat}(d:bU)(hl:h<q.length):(q.getD h d).id<k↔h<Bl q k:=by
 have:=IP (P:=λx:bU=>decide (x.id<k)) q (hs.imp λlT hb=>by simp at hb⊢;omega) h d hl
 rwa [cl] at this
theorem BQ {p:dx}(hs:kq p)(z:ay){h:Nat}(d:Fnd)(hl:h<p.length):bK (p.getD h d).ag z=true↔h<Bm p z:=
 IP (P:=λx:Fnd=>bK x.ag z) p (hs.imp λlT hb=>eU _ _ _ lT hb) h d hl
theorem lbT_le (q:eV)(k:Int):Bl q k<=q.length:=Ft
theorem lbN_le (p:dx)(z:ay):Bm p z<=p.length:=Ft
theorem qd {α:Type}{R:α->α->Prop}{l:List α}(h:l.Pairwise R)(d:α){i j:Nat}(qp:i<j)(hj:j<l.length):R (l.getD i d) (l.getD j d):=by
 rw[aY,bk af,aY,bk hj];exact Ar.1 h i j af hj qp
theorem thI_lb {q:eV}(hs:eB q)(k:Int)(d:bU):nS q k=if Bl q k<q.length/\(q.getD (Bl q k) d).id=k then some (Bl q k) else none:=by
 split
 .rename_i h;refine mj (d:=d) h.1 (by simpa using h.2) λj hj=>?_
  have:=(BP hs k d (h:=j) af).2 hj;rw[ne_eq,cl];omega
 .rename_i h;refine yO d λj hj he=>?_
  rw[cl] at he;rcases JE j (Bl q k) with h1|h1|h1
  .have:=(BP hs k d hj).2 h1;omega
  .exact h ⟨af,by rw[<-h1];exact he⟩
  .have h2:=qd hs d h1 hj;have h3:¬(q.getD (Bl q k) d).id<k:=λe=>FE _ ((BP hs k d af).1 e)
   omega
theorem nmI_lb {p:dx}(hs:kq p)(z:ay)(d:Fnd):uJ p z=if Bm p z<p.length/\(p.getD (Bm p z) d).ag=z then some (Bm p z) else none:=by
 split
 .rename_i h;refine mj (d:=d) h.1 (by simpa using h.2) λj hj=>?_
  have:=(BQ hs z d (h:=j) af).2 hj;rw[ne_eq,cl];exact mU this
 .rename_i h;refine yO d λj hj he=>?_
  rw[cl] at he;rcases JE j (Bm p z) with h1|h1|h1
  .exact mU ((BQ hs z d hj).2 h1) he
  .exact h ⟨af,by rw[<-h1];exact he⟩
  .have h2:bK _ _=true:=qd hs d h1 hj;have h3:¬bK (p.getD (Bm p z) d).ag z=true:=λe=>FE _ ((BQ hs z d af).1 e)
   rw[he] at h2;exact h3 h2
def Lt (a b:Int):Int:=if a<b then -1 else if b<a then 1 else 0
theorem aaB {a b:Int}:Lt a b<0↔a<b:=by unfold Lt;split<;>(try split)<;>omega
theorem aaC {a b:Int}:Lt a b=0↔a=b:=by unfold Lt;split<;>(try split)<;>omega
theorem aaD {a b:ay}:Ev.zL a b<0↔bK a b=true:=by
 unfold Ev.zL;cases h:bK a b<;>cases h2:bK b a<;>simp
theorem aaE {a b:ay}:Ev.zL a b=0↔a=b:=by
 unfold Ev.zL;cases h:bK a b with
 |true=>simp;exact mU h
 |false=>
  cases h2:bK b a with
  |true=>simp;exact λe=>mU h2 e.symm
  |false=>simp;exact lp a b h h2
end Go.Pl
namespace Go.Pl
open Go Go.Ev Go.Lg Go.Proofs
section
variable {E:dy}{X:dM}{Γ:gY}{l:Kn}{L R:bn}{K:KO}{x y:Operand}{t t2:TypeId}{n:Int}
theorem SJ {n:Int}(h:0<=n/\n<=1000000):IntKind.wrap .u64 n=n:=by
 refine' zaL
theorem WO.convU [h1:wN E t .i64][h2:wN E t2 .u64](hx:Ev l x (iv n))(hn:0<=n/\n<=1000000)(h:∀i,K (.int .u64 n) L i i Z Z):WO E X Γ l (.convert t t2 x) L K:=WO.conv (h1:=h1) (h2:=h2) (k:=.i64) hx (SJ hn) h
theorem WO.convB [h1:wN E t .u64][h2:wN E t2 .i64](hx:Ev l x (.int .u64 n))(hn:0<=n/\n<=1000000)(h:∀i,K (iv n) L i i Z Z):WO E X Γ l (.convert t t2 x) L K:=WO.conv (h1:=h1) (h2:=h2) (k:=.u64) hx (pU ⟨af,af⟩) h
theorem WO.shr1 {m:Nat}(hx:Ev l x (.int .u64 n))(hy:Ev l y (.int .u64 1))(hq:n/ 2=(m:Int))(hn:0<=n)(h:∀i,K (.int .u64 (m:Int)) L i i Z Z):WO E X Γ l (.binOp .shr t x y t2) L K:=WO.bin hx hy (λcc=>by
 obtain⟨k,rfl⟩:=xI hn;show some (Value.int .u64 (.ofNat (Nat.shiftRight k (Cc 1 (FJ .u64)))))=_;have:Nat.shiftRight k (Cc 1 (FJ .u64))=m:=by
  show k>>> 1=m;rw[Nat.shiftRight_eq_div_pow];omega
 rw[this];rfl) h
end
theorem WW (s:St)(n:Int):bO 106 [iv n] s [] (.bool false):=by
 refine aO f106 ?_;(refine' cO)
 all_goals(refine' av)
 all_goals(first|rfl|simp[gF])
theorem SK (s:St)(a b:Int):bO 63 [iv a,iv b] s [] (iv (Lt a b)):=by
 refine aO f63 ?_;(repeat' (first|refine' aX|((with_reducible apply WO.bG);exact aD;(first|exact λs=>WW s _);intro _ _ _ _)|refine' ar|fail))
 all_goals try refine cI
 all_goals(refine' av)
 all_goals(simp only[gF];unfold Lt)
 all_goals first|rfl|(rw[if_pos (by assumption)])|(rw[if_neg af,if_pos af])|(rw[if_neg af,if_neg af])
theorem GW (s:St)(x:bU)(k:Int):bO 62 [.agg ⟨c9.cells x⟩,iv k] s [] (iv (Lt x.id k)):=by
 refine aO f62 ?_;(repeat' (first|refine' aX|((with_reducible apply WO.bG);exact aD;(first|exact λs=>SK s _ _);intro _ _ _ _)|refine' ar|fail))
 all_goals(refine' av)
 all_goals rfl
theorem SL (s:St)(a b:ay):bO 89 [sv a,sv b] s [] (iv (Ev.zL a b)):=λh1 h2 h3=>rW.hook (fn:=f89) cU (s':=s) (v:=iv (Ev.zL a b)) (λk=>rfl) ⟨[],⟨λ_ _ _=>rfl,cy _,λx hx=>(by cases hx),λx hx=>(by cases hx),B4,λb hb=>.inl hb,λb hb=>.inl hb,λb hb=>.inl hb,λb hb=>.inl hb⟩,rfl,rfl⟩
theorem Oi (s:St)(a b:ay):bO 52 [sv a,sv b] s [] (iv (Ev.zL a b)):=by
 refine aO f52 ?_;(repeat' (first|refine' aX|((with_reducible apply WO.bG);exact aD;(first|exact λs=>SL s _ _);intro _ _ _ _)|refine' ar|fail))
 all_goals(refine' av)
 all_goals rfl
theorem Lu (s:St)(x:Fnd)(z:ay):bO 51 [.agg ⟨c9.cells x⟩,sv z] s [] (iv (Ev.zL x.ag z)):=by
 refine aO f51 ?_;(repeat' (first|refine' aX|((with_reducible apply WO.bG);exact aD;(first|exact λs=>Oi s _ _);intro _ _ _ _)|refine' ar|fail))
 all_goals(refine' av)
 all_goals rfl
theorem bsT_ok (s:St)(a:aH)(c:Nat)(q:eV)(hs:eB q)(hq:q.length<=1000)(k:Int)(hr:bM s a q.length 3 (ah q)):bO 61 [.slice a q.length c,iv k,.func (.func 62) ⟨[]⟩ ⟨[]⟩] s (ai a) (.tuple ⟨[iv (Bl q k:Int),.bool (decide (Bl q k<q.length/\(q.getD (Bl q k) c9.lW).id=k))]⟩):=by
 have qJ:=Rd.of (A:=ai a) hr λ_ hb=>hb
 have hle:=lbT_le q k;refine aO f61 ?_;(refine' cO)
 refine W.bH (λm l L=>∃(i j:Nat),Le [(0,.slice a q.length c),(1,iv k),(2,.func (.func 62) ⟨[]⟩ ⟨[]⟩),(8,iv (q.length:Int)),(9,iv (i:Int)),(10,iv (j:Int))] l/\cr [] L/\m=j-i/\i<=Bl q k/\Bl q k<=j/\j<=q.length)
  (λl L=>Le [(0,.slice a q.length c),(1,iv k),(2,.func (.func 62) ⟨[]⟩ ⟨[]⟩),(8,iv (q.length:Int)),(9,iv (Bl q k:Int))] l/\cr [] L) _ ⟨0,q.length,bd,aq,rfl,af,hle,cy _⟩ ?_ ?_
 .rintro m l L ⟨i,j,hl,hL,rfl,h1,h2,h3⟩;refine W.le ?_ hl hL;clear hl hL;by_cases qp:i<j
  .obtain⟨h,YK,h4,h5⟩:∃h:Nat,((i:Int)+(j:Int))/ 2=(h:Int)/\i<=h/\h<j:=⟨(i+j)/ 2,af,af,af⟩;have BR:=BP hs k c9.lW (h:=h) af;have u9:=aaB (a:=(q.getD h c9.lW).id) (b:=k);(repeat' (first|refine' aX|refine' vI|((with_reducible apply WO.bG);exact aD;(first|exact λs=>GW s _ _);intro _ _ _ _)|((with_reducible apply WO.convU);exact gO;exact mv;intro _)|((with_reducible apply WO.convB);exact gO;exact mv;intro _)|((with_reducible apply WO.shr1);exact gO;exact gO;assumption;exact mv;intro _)|refine' ar|fail))
   all_goals try refine cI
   .exact⟨_,af,h+1,j,bd,aq,rfl,af,af,af⟩
   .exact⟨_,af,i,h,bd,aq,rfl,af,af,af⟩
  .have hi:i=Bl q k:=by omega
   subst hi;(refine' cO)
   all_goals try refine cI
   all_goals exact⟨bd,aq⟩
 .rintro l L ⟨hl,hL⟩;refine aj ?_;refine W.le ?_ hl hL;clear hl hL;have u9:=aaC (a:=(q.getD (Bl q k) c9.lW).id) (b:=k);(repeat' (first|refine' aX|refine' vI|((with_reducible apply WO.bG);exact aD;(first|exact λs=>GW s _ _);intro _ _ _ _)|refine' ar|fail))
  ·(refine' av)
   have h1:Bl q k<q.length:=by omega
   show Value.tuple ⟨[iv (Bl q k:Int),.bool (decide (Lt (q.getD (Bl q k) c9.lW).id k=0))]⟩=_;refine gb (λb=>Value.tuple ⟨[_,.bool b]⟩) ?_;rw[FF];exact⟨λh=>⟨h1,u9.1 h⟩,λh=>u9.2 h.2⟩
  ·(refine' av)
   have h1:¬Bl q k<q.length:=by omega
   exact gb (λb=>Value.tuple ⟨[_,.bool b]⟩) (iO (λh=>h1 h.1)).symm
theorem bsN_ok (s:St)(a:aH)(c:Nat)(q:dx)(hs:kq q)(hq:q.length<=1000)(k:ay)(hr:bM s a q.length 2 (ah q)):bO 50 [.slice a q.length c,sv k,.func (.func 51) ⟨[]⟩ ⟨[]⟩] s (ai a) (.tuple ⟨[iv (Bm q k:Int),.bool (decide (Bm q k<q.length/\(q.getD (Bm q k) c9.lW).ag=k))]⟩):=by
 have qJ:=Rd.of (A:=ai a) hr λ_ hb=>hb
 have hle:=lbN_le q k;refine aO f50 ?_;(refine' cO)
 refine W.bH (λm l L=>∃(i j:Nat),Le [(0,.slice a q.length c),(1,sv k),(2,.func (.func 51) ⟨[]⟩ ⟨[]⟩),(8,iv (q.length:Int)),(9,iv (i:Int)),(10,iv (j:Int))] l/\cr [] L/\m=j-i/\i<=Bm q k/\Bm q k<=j/\j<=q.length)
  (λl L=>Le [(0,.slice a q.length c),(1,sv k),(2,.func (.func 51) ⟨[]⟩ ⟨[]⟩),(8,iv (q.length:Int)),(9,iv (Bm q k:Int))] l/\cr [] L) _ ⟨0,q.length,bd,aq,rfl,af,hle,cy _⟩ ?_ ?_
 .rintro m l L ⟨i,j,hl,hL,rfl,h1,h2,h3⟩;refine W.le ?_ hl hL;clear hl hL;by_cases qp:i<j
  .obtain⟨h,YK,h4,h5⟩:∃h:Nat,((i:Int)+(j:Int))/ 2=(h:Int)/\i<=h/\h<j:=⟨(i+j)/ 2,af,af,af⟩;have BR:=(aaD (a:=(q.getD h c9.lW).ag) (b:=k)).trans (BQ hs k c9.lW (h:=h) af);(repeat' (first|refine' aX|refine' vI|((with_reducible apply WO.bG);exact aD;(first|exact λs=>Lu s _ _);intro _ _ _ _)|((with_reducible apply WO.convU);exact gO;exact mv;intro _)|((with_reducible apply WO.convB);exact gO;exact mv;intro _)|((with_reducible apply WO.shr1);exact gO;exact gO;assumption;exact mv;intro _)|refine' ar|fail))
   all_goals try refine cI
   .exact⟨_,af,h+1,j,bd,aq,rfl,af,af,af⟩
   .exact⟨_,af,i,h,bd,aq,rfl,af,af,af⟩
  .have hi:i=Bm q k:=by omega
   subst hi;(refine' cO)
   all_goals try refine cI
   all_goals exact⟨bd,aq⟩
 .rintro l L ⟨hl,hL⟩;refine aj ?_;refine W.le ?_ hl hL;clear hl hL;have u9:=aaE (a:=(q.getD (Bm q k) c9.lW).ag) (b:=k);(repeat' (first|refine' aX|refine' vI|((with_reducible apply WO.bG);exact aD;(first|exact λs=>Lu s _ _);intro _ _ _ _)|refine' ar|fail))
  ·(refine' av)
   have h1:Bm q k<q.length:=by omega
   show Value.tuple ⟨[iv (Bm q k:Int),.bool (decide (Ev.zL (q.getD (Bm q k) c9.lW).ag k=0))]⟩=_;refine gb (λb=>Value.tuple ⟨[_,.bool b]⟩) ?_;rw[FF];exact⟨λh=>⟨h1,u9.1 h⟩,λh=>u9.2 h.2⟩
  ·(refine' av)
   have h1:¬Bm q k<q.length:=by omega
   exact gb (λb=>Value.tuple ⟨[_,.bool b]⟩) (iO (λh=>h1 h.1)).symm
theorem Sc (s:St)(a b c:Int):bO 27 [iv a,iv b,iv c] s [] (.bool (fR a b c)):=by
 refine aO f27 ?_;(refine' cO)
 all_goals(refine' av)
 .show Value.bool (decide (a<=c))= .bool (fR a b c);unfold fR;simp[tR]
 .show Value.bool false= .bool (fR a b c);unfold fR;simp;omega
def oI:Option Nat->Int
 |none=>-1
 |some k=>(k:Int)
def eZ:ay->Option Nat
 |[]=>none
 |c::s=>match eZ s with
  |some i=>some (i+1)
  |none=>if c=47 then some 0 else none
theorem uK:∀z:ay,(∀j,j<z.length->z.getD j 0≠47)->eZ z=none
 |[],_=>rfl
 |c::z,h=>by
  unfold eZ;rw[uK z λj hj=>by have:=h (j+1) (by simpa using hj);simpa using this];have:=h 0 (by simp);exact if_neg (by simpa using this)
theorem AT:∀(z:ay)(i:Nat),i<z.length->z.getD i 0=47->(∀j,i<j->j<z.length->z.getD j 0≠47)->eZ z=some i
 |[],i,h,_,_=>by simp at h
 |c::z,0,_,h1,h2=>by
  unfold eZ;rw[uK z λj hj=>by have:=h2 (j+1) af (by simpa using hj);simpa using this];exact if_pos (by simpa using h1)
 |c::z,i+1,h,h1,h2=>by
  unfold eZ;rw[AT z i (by simpa using h) (by simpa using h1) λj hj Nv=>by have:=h2 (j+1) af (by simpa using Nv);simpa using this]
theorem sf:∀(z:ay)(i:Nat),eZ z=some i->i<z.length
 |[],i,h=>by cases h
 |c::z,i,h=>by
  unfold eZ at h;split at h
  .rename_i j hj;have:=sf z j hj;cases h
   simpa using this
  .split at h
   .cases h;simp
   .cases h
theorem Lv (s:St)(z:ay)(hz:z.length<=100000):bO 107 [sv z,.int .u8 47] s [] (iv (oI (eZ z))):=by
 refine aO f107 ?_;(refine' cO)
 refine W.bH (λm l L=>∃(i:Int),Le [(0,sv z),(1,.int .u8 47),(5,iv i)] l/\cr [] L/\m=(i+1).toNat/\ -1<=i/\i<z.length/\∀j:Nat,i<j->j<z.length->z.getD j 0≠47)
  (λl L=>Le [] l/\cr [] L/\eZ z=none) _ ⟨(z.length:Int)-1,bd,aq,rfl,af,af,λj h1 h2=>by omega⟩ ?_ ?_
 .rintro m l L ⟨i,hl,hL,rfl,h1,h2,h3⟩;refine W.le ?_ hl hL;clear hl hL;(refine' cO)
  .have e:eZ z=some i.toNat:=AT z i.toNat af (wu.1 (by show _=47;omega)) λj hj Nv=>h3 j af Nv
   (refine' av)
   show iv i=_;rw[e];show iv i=iv ((i.toNat:Nat):Int);rw[xG af]
  .refine⟨_,af,i-1,bd,aq,rfl,af,af,λj hj Nv=>?_⟩;by_cases v7:(j:Int)=i
   .have:i.toNat=j:=by omega
    rw[this] at jU;intro he;rw[he] at jU;exact jU rfl
   .exact h3 j af Nv
  .exact⟨bd,aq,uK z λj hj=>h3 j af hj⟩
 .rintro l L ⟨hl,hL,h3⟩;refine aj ?_;refine W.le ?_ hl hL;clear hl hL;rw[h3];(refine' cO)
  all_goals(refine' av)
  all_goals rfl
theorem Oj (s:St)(z:ay)(hz:z.length<=100000):bO 64 [sv z,.int .u8 47] s [] (iv (oI (eZ z))):=by
 refine aO f64 ?_;(repeat' (first|refine' aX|((with_reducible apply WO.bG);exact aD;(first|exact λs=>Lv s _ af);intro _ _ _ _)|refine' ar|fail))
 all_goals(refine' av)
 all_goals rfl
def au (z:ay):ay×ay:=match eZ z with
 |none=>([],[])
 |some i=>(z.take (max i 1),z.drop (i+1))
theorem VQ (s:St)(z:ay)(hz:z.length<=100000):bO 29 [sv z] s [] (.tuple ⟨[sv (au z).1,sv (au z).2]⟩):=by
 have Se:∀s,bO 64 [sv z,.int .u8 47] s [] (iv (oI (eZ z))):=λs=>Oj s z hz
 unfold au;cases h:eZ z with
 |none=>
  rw[h] at Se;have Se:∀s,bO 64 [sv z,.int .u8 47] s [] (iv (-1)):=Se;refine aO f29 ?_;(repeat' (first|refine' aX|((with_reducible apply WO.bG);exact aD;(first|exact λs=>Se s);intro _ _ _ _)|refine' ar|fail))
  all_goals try refine cI
  all_goals(refine' av)
  all_goals rfl
 |some i=>
  rw[h] at Se;have Se:∀s,bO 64 [sv z,.int .u8 47] s [] (iv (i:Int)):=Se;have dA:=sf z i h;refine aO f29 ?_;(repeat' (first|refine' aX|((with_reducible apply WO.bG);exact aD;(first|exact λs=>Se s);intro _ _ _ _)|refine' ar|fail))
  all_goals try refine cI
  all_goals(refine' av)
  all_goals(show Value.tuple ⟨[sv (z.take (max (i:Int) 1).toNat),sv (z.drop ((i:Int)+1).toNat)]⟩=_;rw[show(max (i:Int) 1).toNat=max i 1 by omega,show((i:Int)+1).toNat=i+1 by omega])
end Go.Pl
namespace Go.Pl
open Go.Lg
abbrev cz:Fnd:=c9.lW (α:=Fnd)
abbrev fN:bU:=c9.lW (α:=bU)
structure Acc where
 li:List (Int×Int)
 jo:List (ay×Int)
 fo:List (ay×Bool)
def tB (q:eV)(i:Nat):Bool:=fR (q.getD i fN).id 0 15&&!(decide (0<i)&&decide ((q.getD i fN).id<=(q.getD (i-1) fN).id))&&!((q.getD i fN).aM&&decide ((q.getD i fN).bh≠[]))&&!decide (192<(q.getD i fN).bh.length)
def uL (x:Fnd)(fo:Bool)(A:Acc):Option Acc:=
 if 9<(bN (db A.li x.id ((bN A.li x.id).getD 0+1)) x.id).getD 0\/(fo=true/\1<(bN (db A.li x.id ((bN A.li x.id).getD 0+1)) x.id).getD 0) then none else some ⟨db A.li x.id ((bN A.li x.id).getD 0+1),A.jo,db A.fo x.ag fo⟩
def iIn (x:Fnd)(A:Acc):Option Acc:=
 if(bN A.fo (au x.ag).1).getD false=false\/bT (au x.ag).2=false then none else
 if 12<(bN (db A.jo (au x.ag).1 ((bN A.jo (au x.ag).1).getD 0+1)) (au x.ag).1).getD 0 then none else some ⟨A.li,db A.jo (au x.ag).1 ((bN A.jo (au x.ag).1).getD 0+1),A.fo⟩
def ia (p:dx)(q:eV)(i:Nat)(A:Acc):Option Acc:=match nS q (p.getD i cz).id with
 |none=>none
 |some t=>
  if 0<i/\bK (p.getD (i-1) cz).ag (p.getD i cz).ag=false then none else
  match if 0<i then iIn (p.getD i cz) A else some A with
  |none=>none
  |some A=>uL (p.getD i cz) (q.getD t fN).aM A
def WX (p:dx)(q:eV):Nat->Nat->Acc->Option Acc
 |0,_,A=>some A
 |n+1,i,A=>match ia p q i A with
  |none=>none
  |some A=>WX p q n (i+1) A
def T2 (f:Flat):Bool:=fR f.ae.length 1 16&&decide (f.ad.length≠0)&&decide (f.ad.getD 0 cz=⟨[47],0⟩)&&(List.range f.ae.length).all (tB f.ae)&&decide ((f.ae.getD 0 fN).id=0)&&(f.ae.getD 0 fN).aM&&match WX f.ad f.ae f.ad.length 0 ⟨[],[],[]⟩ with
 |none=>false
 |some A=>decide (A.li.length=f.ae.length)
theorem vn {q:eV}(h:∀i,i<q.length->tB q i=true):eB q:=by
 have h1:∀i,i+1<q.length->(q.getD i fN).id<(q.getD (i+1) fN).id:=λi hi=>by
  have:=h (i+1) hi;unfold tB at this;simp at this;have:=this.1.1.2;simp;omega
 have h2:∀n i,i+n+1<q.length->(q.getD i fN).id<(q.getD (i+n+1) fN).id:=λn=>by
  induction n with
  |zero=>exact h1
  |succ n ih=>exact λi hi=>Int.lt_trans (ih i af) (h1 (i+n+1) hi)
 refine Ar.2 λi j hi hj qp=>?_
 have:=h2 (j-i-1) i af;rw[show i+(j-i-1)+1=j by omega,aY,bk hi,aY,bk hj] at this;exact this
theorem fW (z:ay):∀c∈(au z).2,c∈z:=λc hc=>by
 unfold au at hc;split at hc
 .cases hc
 .exact List.mem_of_mem_drop hc
section
variable {κ ν:Type}[DecidableEq κ]
theorem yP:∀(m:List (κ×ν))(k:κ),(bN m k).isSome=true↔k∈m.map Prod.fst
 |[],k=>by simp[bN]
 |p::m,k=>by
  unfold bN;rw[xC,bV];by_cases h:k=p.1
  .rw[if_pos h];simp[h]
  .rw[if_neg h,yP m k];simp[h]
theorem GX:∀(m:List (κ×ν))(k:κ)(v:ν),(db m k v).map Prod.fst=if(bN m k).isSome then m.map Prod.fst else m.map Prod.fst++[k]
 |[],k,v=>rfl
 |p::m,k,v=>by
  unfold db bN;by_cases h:k=p.1
  .rw[if_pos h,if_pos h];simp[h]
  .rw[if_neg h,if_neg h,xC,GX m k v];split<;>simp
theorem Ol (m:List (κ×ν))(k:κ)(v:ν)(h:(m.map Prod.fst).Nodup):((db m k v).map Prod.fst).Nodup:=by
 rw[GX];split
 .exact h
 .rename_i hk;rw[qB];refine⟨h,by simp,λa ha b hb e=>?_⟩;rw[iN] at hb;subst hb;subst e;exact hk ((yP m a).2 ha)
end
def uM (p:dx)(q:eV)(k:Nat):Bool:=match nS q (p.getD k cz).id with
 |none=>false
 |some t=>(q.getD t fN).aM
def cN (p:dx)(i:Nat)(z:ay):Nat:=(List.range i).countP λj=>decide (1<=j)&&decide ((au (p.getD j cz).ag).1=z)
def cL (p:dx)(i:Nat)(n:Int):Nat:=(List.range i).countP λj=>decide ((p.getD j cz).id=n)
theorem te (p:dx)(i:Nat)(n:Int):cL p (i+1) n=cL p i n+if(p.getD i cz).id=n then 1 else 0:=by
 unfold cL;rw[As,FG,List.countP_singleton];simp
theorem yQ (p:dx)(i:Nat)(z:ay):cN p (i+1) z=cN p i z+if 1<=i/\(au (p.getD i cz).ag).1=z then 1 else 0:=by
 unfold cN;rw[As,FG,List.countP_singleton];simp
def WY (p:dx)(q:eV)(i:Nat):Prop:=
 (nS q (p.getD i cz).id).isSome=true/\(1<=i->bK (p.getD (i-1) cz).ag (p.getD i cz).ag=true/\(∃k,k<i/\(p.getD k cz).ag=(au (p.getD i cz).ag).1/\uM p q k=true)/\bT (au (p.getD i cz).ag).2=true/\cN p (i+1) (au (p.getD i cz).ag).1<=12)/\cL p (i+1) (p.getD i cz).id<=9/\(uM p q i=true->cL p (i+1) (p.getD i cz).id<=1)
structure oC (p:dx)(q:eV)(i:Nat)(A:Acc):Prop where
 li:∀n,(bN A.li n).getD 0=(cL p i n:Int)
 lk:∀n,n∈A.li.map Prod.fst↔∃j,j<i/\(p.getD j cz).id=n
 ln:(A.li.map Prod.fst).Nodup
 jo:∀z,(bN A.jo z).getD 0=(cN p i z:Int)
 fo:∀z,(bN A.fo z).getD false=true↔∃k,k<i/\(p.getD k cz).ag=z/\uM p q k=true
 so:∀j,1<=j->j<i->bK (p.getD (j-1) cz).ag (p.getD j cz).ag=true
theorem WZ {p:dx}{i:Nat}(h:∀j,1<=j->j<i->bK (p.getD (j-1) cz).ag (p.getD j cz).ag=true):∀(n a:Nat),a+n+1<i->bK (p.getD a cz).ag (p.getD (a+n+1) cz).ag=true
 |0,a,hl=>h (a+1) af hl
 |n+1,a,hl=>eU _ _ _ (WZ h n a af) (h (a+n+2) af hl)
theorem so_ne {p:dx}{i:Nat}(h:∀j,1<=j->j<i->bK (p.getD (j-1) cz).ag (p.getD j cz).ag=true){a b:Nat}(lT:a<b)(hb:b<i):(p.getD a cz).ag≠(p.getD b cz).ag:=by
 have:=WZ h (b-a-1) a af;rw[show a+(b-a-1)+1=b by omega] at this;exact mU this
theorem Om {p:dx}{q:eV}{i:Nat}{A:Acc}{t:Nat}(ht:nS q (p.getD i cz).id=some t)(hli:∀n,(bN A.li n).getD 0=(cL p i n:Int)):
  uL (p.getD i cz) (q.getD t fN).aM A=if cL p (i+1) (p.getD i cz).id<=9/\(uM p q i=true->cL p (i+1) (p.getD i cz).id<=1) then some ⟨db A.li (p.getD i cz).id (cL p (i+1) (p.getD i cz).id:Int),A.jo,db A.fo (p.getD i cz).ag (uM p q i)⟩ else none:=by
 have hfb:uM p q i=(q.getD t fN).aM:=by unfold uM;rw[ht]
 have hc:(bN A.li (p.getD i cz).id).getD 0+1=(cL p (i+1) (p.getD i cz).id:Int):=by rw[hli,te,if_pos rfl];omega
 unfold uL;rw[hc,nO,if_pos rfl,<-hfb];show(if 9<(cL p (i+1) (p.getD i cz).id:Int)\/_ then _ else _)=_;by_cases h:cL p (i+1) (p.getD i cz).id<=9/\(uM p q i=true->cL p (i+1) (p.getD i cz).id<=1)
 .rw[if_pos h,if_neg];rintro(h1|⟨h1,h2⟩)
  .have:=h.1;omega
  .have h2:(1:Int)<(cL p (i+1) (p.getD i cz).id:Int):=h2;have:=h.2 h1;omega
 .rw[if_neg h,if_pos];refine oZ λhn=>h ⟨?_,λhf=>?_⟩
  .refine oZ λh9=>hn (.inl af)
  .refine oZ λh9=>hn (.inr ⟨hf,?_⟩)
   show(1:Int)<(cL p (i+1) (p.getD i cz).id:Int);omega
theorem GY {p:dx}{q:eV}{i:Nat}{A:Acc}{jo:List (ay×Int)}(h:oC p q i A)(hinn:∀z,(bN jo z).getD 0=(cN p (i+1) z:Int))(VX:1<=i->bK (p.getD (i-1) cz).ag (p.getD i cz).ag=true):
  oC p q (i+1) ⟨db A.li (p.getD i cz).id (cL p (i+1) (p.getD i cz).id:Int),jo,db A.fo (p.getD i cz).ag (uM p q i)⟩:=by
 have hso':∀j,1<=j->j<i+1->bK (p.getD (j-1) cz).ag (p.getD j cz).ag=true:=λj h1 h2=>by
  by_cases hj:j=i
  .subst hj;exact VX h1
  .exact h.so j h1 af
 refine⟨λn=>?_,λn=>?_,Ol _ _ _ h.ln,hinn,λz=>?_,hso'⟩
 .show(bN (db A.li _ _) n).getD 0=_;rw[nO];by_cases hn:n=(p.getD i cz).id
  .rw[if_pos hn,hn];rfl
  .rw[if_neg hn,h.li,te,if_neg (λe=>hn e.symm)];rfl
 .show n∈(db A.li _ _).map Prod.fst↔_;rw[<-yP,nO];by_cases hn:n=(p.getD i cz).id
  .rw[if_pos hn];exact⟨λ_=>⟨i,af,hn.symm⟩,λ_=>rfl⟩
  .rw[if_neg hn,yP,h.lk];constructor
   .rintro⟨j,h1,h2⟩;exact⟨j,af,h2⟩
   .rintro⟨j,h1,h2⟩;by_cases hj:j=i
    .subst hj;exact absurd h2.symm hn
    .exact⟨j,af,h2⟩
 .show(bN (db A.fo _ _) z).getD false=true↔_;rw[nO];by_cases hz:z=(p.getD i cz).ag
  .rw[if_pos hz];constructor
   .intro hf;exact⟨i,af,hz.symm,hf⟩
   .rintro⟨k,h1,h2,h3⟩;by_cases hk:k=i
    .subst hk;exact h3
    .exact absurd (h2.trans hz) (so_ne hso' (show k<i by omega) af)
  .rw[if_neg hz,h.fo];constructor
   .rintro⟨k,h1,h2⟩;exact⟨k,af,h2⟩
   .rintro⟨k,h1,h2,h3⟩;by_cases hk:k=i
    .subst hk;exact absurd h2.symm hz
    .exact⟨k,af,h2,h3⟩
theorem Lw {p:dx}{q:eV}{i:Nat}{A:Acc}(h:oC p q i A):
  (WY p q i->∃A',ia p q i A=some A'/\oC p q (i+1) A')/\(¬WY p q i->ia p q i A=none):=by
 unfold ia;cases ht:nS q (p.getD i cz).id with
 |none=>exact⟨λhc=>(by have:=hc.1;rw[ht] at this;cases this),λ_=>rfl⟩
 |some t=>
  dsimp only;have Qn:=λ(jo:List (ay×Int))=>Om (A:=⟨A.li,jo,A.fo⟩) ht h.li
  by_cases hi:0<i
  .by_cases dA:bK (p.getD (i-1) cz).ag (p.getD i cz).ag=true
   .rw[if_neg (λe=>by rw[dA] at e;cases e.2),if_pos hi];unfold iIn;have hc:(bN A.jo (au (p.getD i cz).ag).1).getD 0+1=(cN p (i+1) (au (p.getD i cz).ag).1:Int):=by rw[h.jo,yQ,if_pos ⟨hi,rfl⟩];omega
    rw[hc];by_cases h1:(bN A.fo (au (p.getD i cz).ag).1).getD false=false\/bT (au (p.getD i cz).ag).2=false
    .rw[if_pos h1];refine⟨λhn=>?_,λ_=>rfl⟩;obtain⟨_,hk,xZ,_⟩:=hn.2.1 hi;rcases h1 with h1|h1
     .rw[(h.fo _).2 hk] at h1;cases h1
     .rw[xZ] at h1;cases h1
    .rw[if_neg h1,nO,if_pos rfl];have hk:=(h.fo (au (p.getD i cz).ag).1).1 (by cases hb:(bN A.fo (au (p.getD i cz).ag).1).getD false with|true=>rfl|false=>exact absurd (.inl hb) h1);have xZ:bT (au (p.getD i cz).ag).2=true:=by cases hb:bT (au (p.getD i cz).ag).2 with|true=>rfl|false=>exact absurd (.inr hb) h1
     simp only[pH];by_cases zF:cN p (i+1) (au (p.getD i cz).ag).1<=12
     .rw[if_neg af];dsimp only;rw[Qn];by_cases hl:cL p (i+1) (p.getD i cz).id<=9/\(uM p q i=true->cL p (i+1) (p.getD i cz).id<=1)
      .rw[if_pos hl];refine⟨λ_=>⟨_,rfl,GY (A:=A) h (λz=>?_) λ_=>dA⟩,λhn=>absurd ⟨by rw[ht];rfl,λ_=>⟨dA,hk,xZ,zF⟩,hl⟩ hn⟩;rw[nO];by_cases hz:z=(au (p.getD i cz).ag).1
       .rw[if_pos hz,hz];rfl
       .rw[if_neg hz,h.jo,yQ,if_neg (λe=>hz e.2.symm)];rfl
      .rw[if_neg hl];exact⟨λhn=>absurd hn.2.2 hl,λ_=>rfl⟩
     .rw[if_pos af];exact⟨λhn=>absurd (hn.2.1 hi).2.2.2 zF,λ_=>rfl⟩
   .rw[if_pos ⟨hi,by simpa using dA⟩];exact⟨λhn=>absurd (hn.2.1 hi).1 dA,λ_=>rfl⟩
  .rw[if_neg (λe=>hi e.1),if_neg hi];dsimp only;rw[Qn];by_cases hl:cL p (i+1) (p.getD i cz).id<=9/\(uM p q i=true->cL p (i+1) (p.getD i cz).id<=1)
   .rw[if_pos hl];refine⟨λ_=>⟨_,rfl,GY h (λz=>?_) λe=>absurd e hi⟩,λhn=>absurd ⟨by rw[ht];rfl,λe=>absurd e hi,hl⟩ hn⟩;rw[h.jo,yQ,if_neg (λe=>hi e.1)];rfl
   .rw[if_neg hl];exact⟨λhn=>absurd hn.2.2 hl,λ_=>rfl⟩
theorem W0 {p:dx}{q:eV}:∀(n i:Nat)(A:Acc),oC p q i A->
  ((∀j,i<=j->j<i+n->WY p q j)->∃A',WX p q n i A=some A'/\oC p q (i+n) A')/\((∃j,i<=j/\j<i+n/\¬WY p q j)->WX p q n i A=none)
 |0,i,A,h=>⟨λ_=>⟨A,rfl,h⟩,λ⟨j,h1,h2,_⟩=>by omega⟩
 |n+1,i,A,h=>by
  have hs:=Lw h;unfold WX;by_cases hc:WY p q i
  .obtain⟨A',h1,h2⟩:=hs.1 hc;rw[h1];have ih:=W0 n (i+1) A' h2;refine⟨λbP=>?_,λ⟨j,h3,h4,h5⟩=>ih.2 ⟨j,?_,af,h5⟩⟩
   .obtain⟨A'',h3,h4⟩:=ih.1 λj h3 h4=>bP j af af
    exact⟨A'',h3,by rw[show i+(n+1)=i+1+n by omega];exact h4⟩
   .by_cases hj:j=i
    .subst hj;exact absurd hc h5
    .omega
  .rw[hs.2 hc];exact⟨λbP=>absurd (bP i (cy _) af) hc,λ_=>rfl⟩
theorem W1 (p:dx)(q:eV):oC p q 0 ⟨[],[],[]⟩:=
 ⟨λn=>rfl,λn=>⟨λh=>(by cases h),λ⟨j,h,_⟩=>af⟩,B4,λz=>rfl,λz=>⟨λh=>(by cases h),λ⟨j,h,_⟩=>af⟩,λj h1 h2=>by omega⟩
end Go.Pl
namespace Go.Pl
open Go.Lg
variable {s:ay}{j i B t:Nat}{p:dx}{n:Int}{q:eV}{f:Flat}
def Lx (z:ay):Prop:=z.take 2=[47,47]->z.length=2
theorem DG:∀(s:ay)(i a:Nat),sV i a s=match eZ s with
  |none=>a
  |some j=>i+j
 |[],i,a=>rfl
 |c::s,i,a=>by
  unfold sV eZ;rw[DG s];cases eZ s with
  |some j=>show i+1+j=i+(j+1);omega
  |none=>
   by_cases h:c=47
   .rw[if_pos h,if_pos h];rfl
   .rw[if_neg h,if_neg h]
theorem z8:∀(z:ay)(i:Nat),eZ z=some i->z.getD i 0=47
 |[],i,h=>by cases h
 |c::z,i,h=>by
  unfold eZ at h;split at h
  .rename_i j hj;cases h
   rw[Aq];exact z8 z j hj
  .split at h
   .rename_i hc;cases h;simpa using hc
   .cases h
theorem Aa:∀(z:ay),eZ z=none->∀c∈z,c≠47
 |[],_,c,hc=>by cases hc
 |x::z,h,c,hc=>by
  unfold eZ at h;split at h
  .cases h
  .rename_i hz;split at h
   .cases h
   .rename_i hx;rcases bV.1 hc with rfl|hc
    .exact hx
    .exact Aa z hz c hc
theorem Ly (h:eZ s=some j):aK s=au s:=by
 have hl:=sf s j h;have hs:sW s=j:=by unfold sW;rw[DG,h];simp
 have Oc:=z8 s j h;unfold aK au;rw[hs,h];by_cases hj:j=0
 .subst hj;rw[if_pos rfl];cases s with
  |nil=>simp at hl
  |cons c s=>
   have:c=47:=by simpa using Oc
   subst this;simp
 .rw[if_neg hj];simp[Nat.max_eq_left (show 1<=j by omega)]
def GZ (r:ay×ay):ay:=if r.1=[47] then 47::r.2 else r.1++47::r.2
theorem W3 (hn:Lx s):(GZ (aK s)=s/\bT (aK s).2=true)↔bT (au s).2=true:=by
 cases h:eZ s with
 |none=>
  have ha:au s=([],[]):=by unfold au;rw[h]
  rw[ha];refine⟨λ⟨h1,_⟩=>?_,λh1=>by cases h1⟩;exfalso;have hm:(47:UInt8)∈s:=by
   rw[<-h1];unfold GZ;split<;>simp
  exact Aa s h 47 hm rfl
 |some j=>
  rw[Ly h];have hl:=sf s j h;have Oc:=z8 s j h;have oS:s.take j++47::s.drop (j+1)=s:=by
   rw[aY,bk hl] at Oc;have Oc:s[j]=47:=Oc;rw[<-Oc,<-xH hl,zq]
  refine⟨λh1=>h1.2,λh1=>⟨?_,h1⟩⟩;by_cases hj:j=0
  .subst hj;have ha:au s=([47],s.drop 1):=by
    unfold au;rw[h];cases s with
    |nil=>simp at hl
    |cons c s=>
     have:c=47:=by simpa using Oc
     subst this;rfl
   rw[ha];unfold GZ;rw[if_pos rfl];simpa using oS
  .have ha:au s=(s.take j,s.drop (j+1)):=by
    unfold au;rw[h];show(s.take (max j 1),_)=_;rw[Nat.max_eq_left (show 1<=j by omega)]
   rw[ha] at h1⊢;unfold GZ;dsimp only at h1⊢;by_cases hb:s.take j=[47]
   .exfalso;have hj1:j=1:=by
     have:=gb List.length hb;rw[dg] at this;simp at this;omega
    subst hj1;have h2:s.take 2=[47,47]:=by
     rw[<-oS,hb];rfl
    have cX:=hn h2;have:s.drop (1+1)=[]:=zt af;rw[this] at h1;cases h1
   .rw[if_neg hb];exact oS
theorem vo (h:bT (au s).2=true):aK s=au s:=by
 cases hl:eZ s with
 |none=>unfold au at h;rw[hl] at h;cases h
 |some j=>exact Ly hl
theorem pA {α:Type}(P:α->Bool)(d:α):∀l:List α,(List.range l.length).countP (λj=>P (l.getD j d))=l.countP P
 |[]=>rfl
 |x::l=>by
  rw[dh,List.range_succ_eq_map,jI,List.countP_map,jI,<-pA P d l];rfl
theorem W4 {α:Type}(P:α->Bool)(d:α)(l:List α):(List.range l.length).countP (λj=>decide (1<=j)&&P (l.getD j d))=l.tail.countP P:=by
 cases l with
 |nil=>rfl
 |cons x l=>
  rw[dh,List.range_succ_eq_map,jI,List.countP_map,List.tail_cons,<-pA P d l];simp[Function.comp_def]
theorem On (f:Flat)(n:Int):cL f.ad f.ad.length n=f.many n:=pA (λx:Fnd=>decide (x.id=n)) cz f.ad
theorem W5 (p:dx)(z:ay):cN p p.length z=p.tail.countP λx=>decide ((au x.ag).1=z):=W4 (λx:Fnd=>decide ((au x.ag).1=z)) cz p
theorem BS (p:dx)(n:Int)(h:i<=j):cL p i n<=cL p j n:=by
 induction j with
 |zero=>rw[show i=0 by omega];exact cy _
 |succ j ih=>
  by_cases hi:i=j+1
  .rw[hi];exact cy _
  .have:=ih af;rw[te];omega
theorem Qo (p:dx)(z:ay)(h:i<=j):cN p i z<=cN p j z:=by
 induction j with
 |zero=>rw[show i=0 by omega];exact cy _
 |succ j ih=>
  by_cases hi:i=j+1
  .rw[hi];exact cy _
  .have:=ih af;rw[yQ];omega
theorem DH:∀i,(∀j,j<i->(p.getD j cz).id=n->cL p (j+1) n<=B)->cL p i n<=B
 |0,_=>jG _
 |i+1,h=>by
  by_cases hi:(p.getD i cz).id=n
  .exact h i af hi
  .rw[te,if_neg hi];exact DH i λj hj=>h j af
theorem Oo {z:ay}:∀i,(∀j,1<=j->j<i->(au (p.getD j cz).ag).1=z->cN p (j+1) z<=B)->cN p i z<=B
 |0,_=>jG _
 |i+1,h=>by
  by_cases hi:1<=i/\(au (p.getD i cz).ag).1=z
  .exact h i hi.1 af hi.2
  .rw[yQ,if_neg hi];exact Oo i λj h1 hj=>h j h1 af
theorem W6 (hj:j<i)(h:(p.getD j cz).id=n):1<=cL p i n:=by
 have h1:=BS p n (show j+1<=i by omega);rw[te,if_pos h] at h1;omega
theorem cL_ex:∀i,1<=cL p i n->∃j,j<i/\(p.getD j cz).id=n
 |0,h=>absurd h (by unfold cL;simp)
 |i+1,h=>by
  by_cases hi:(p.getD i cz).id=n
  .exact⟨i,af,hi⟩
  .rw[te,if_neg hi] at h;obtain⟨j,h1,h2⟩:=cL_ex i h;exact⟨j,af,h2⟩
structure kz (f:Flat):Prop where
 tl:fR f.ae.length 1 16=true
 t0:(f.ae.getD 0 fN).id=0
 tf:(f.ae.getD 0 fN).aM=true
 tb:∀i,i<f.ae.length->tB f.ae i=true
 n0:f.ad.length≠0
 nr:f.ad.getD 0 cz=⟨[47],0⟩
 nm:∀i,i<f.ad.length->WY f.ad f.ae i
 al:∀i,i<f.ae.length->∃j,j<f.ad.length/\(f.ad.getD j cz).id=(f.ae.getD i fN).id
theorem pB {α:Type}[BEq α][LawfulBEq α]:∀(xs l:List α),xs.Nodup->(∀x∈xs,x∈l)->xs.length<=l.length
 |[],l,_,_=>jG _
 |x::xs,l,h,hs=>by
  have hx:=hs x jr;have hn:=vN.1 h;have:=pB xs (l.erase x) hn.2 λy hy=>(Pq (show y≠x from λe=>hn.1 (by rw[<-e];exact hy))).2 (hs y (lE _ hy))
  have hp:=JI hx;rw[Pr hx] at this;rw[dh];omega
theorem fD {α:Type}{l:List α}(d:α)(h:i<l.length):l.getD i d∈l:=by
 rw[aY,bk h];exact tA h
theorem DI (h:nS q n=some t):t<q.length/\(q.getD t fN).id=n:=by
 obtain⟨h1,h2,_⟩:=nq.1 h;refine⟨h1,?_⟩;rw[aY,bk h1];simpa using h2
theorem DJ (hs:eB q)(h:t<q.length):nS q (q.getD t fN).id=some t:=by
 refine mj (d:=fN) h (by simp) λj hj e=>?_
 have:=qd hs fN hj h;rw[cl] at e;omega
theorem Qp {A:Acc}(hA:oC f.ad f.ae f.ad.length A)(hs:eB f.ae)(hn:∀i,i<f.ad.length->(nS f.ae (f.ad.getD i cz).id).isSome=true):
  A.li.length=f.ae.length↔∀i,i<f.ae.length->∃j,j<f.ad.length/\(f.ad.getD j cz).id=(f.ae.getD i fN).id:=by
 have jO:∀n∈A.li.map Prod.fst,n∈f.ae.map bU.id:=λn hm=>by
  obtain⟨j,hj,rfl⟩:=(hA.lk n).1 hm;obtain⟨t,ht⟩:=kB.1 (hn j hj);obtain⟨h1,h2⟩:=DI ht;exact n9.2 ⟨_,fD fN h1,h2⟩
 have Bh:(f.ae.map bU.id).Nodup:=by
  rw[FH,FI];exact hs.imp λ{a b} h e=>by omega
 have hle:=pB _ _ hA.ln jO;rw[vL,vL] at hle;constructor
 .intro he i hi;refine oZ λxZ=>?_
  have hm:(f.ae.getD i fN).id∈f.ae.map bU.id:=n9.2 ⟨_,fD fN hi,rfl⟩;have h2:∀n∈A.li.map Prod.fst,n∈(f.ae.map bU.id).erase (f.ae.getD i fN).id:=λn F0=>by
   refine(Pq λe=>xZ ?_).2 (jO n F0);obtain⟨j,hj,h3⟩:=(hA.lk n).1 F0;exact⟨j,hj,h3.trans e⟩
  have h3:=pB _ _ hA.ln h2;rw[Pr hm,vL,vL] at h3;omega
 .intro bP;have h2:=pB (f.ae.map bU.id) (A.li.map Prod.fst) Bh λn F0=>by
   obtain⟨x,hx,rfl⟩:=n9.1 F0;obtain⟨i,hi,rfl⟩:=l5 hx;obtain⟨j,hj,h3⟩:=bP i hi;refine(hA.lk _).2 ⟨j,hj,h3.trans ?_⟩;rw[aY,bk hi];rfl
  rw[vL,vL] at h2;omega
theorem BU (f:Flat):T2 f=true↔kz f:=by
 unfold T2;simp only[cv,cl,iM,mH];have hg:=W0 f.ad.length 0 ⟨[],[],[]⟩ (W1 f.ad f.ae);rw[ni] at hg;constructor
 .rintro⟨⟨⟨⟨⟨⟨h1,h2⟩,h3⟩,h4⟩,h5⟩,h6⟩,h7⟩;have bP:∀j,j<f.ad.length->WY f.ad f.ae j:=λj hj=>oZ λhn=>by
   rw[hg.2 ⟨j,af,hj,hn⟩] at h7;cases h7
  obtain⟨A,hA1,hA2⟩:=hg.1 λj _ hj=>bP j hj
  rw[hA1] at h7;have h7:A.li.length=f.ae.length:=by simpa using h7
  exact⟨h1,h5,h6,h4,h2,h3,bP,(Qp hA2 (vn h4) λi hi=>(bP i hi).1).1 h7⟩
 .intro h;obtain⟨A,hA1,hA2⟩:=hg.1 λj _ hj=>h.nm j hj
  rw[hA1];refine⟨⟨⟨⟨⟨⟨h.tl,h.n0⟩,h.nr⟩,h.tb⟩,h.t0⟩,h.tf⟩,?_⟩;simpa using(Qp hA2 (vn h.tb) λi hi=>(h.nm i hi).1).2 h.al
theorem IQ (f:Flat)(k:Nat):uM f.ad f.ae k=f.gX (f.ad.getD k ⟨[],0⟩).id:=by
 unfold uM Flat.gX;show(match f.cD (f.ad.getD k ⟨[],0⟩).id with|none=>false|some t=>(f.ae.getD t ⟨0,false,[]⟩).aM)=_;cases f.cD (f.ad.getD k ⟨[],0⟩).id<;>rfl
theorem tg (f:Flat)(i:Nat):f.sX i=true↔tB f.ae i=true/\fR (f.many (f.ae.getD i fN).id) 1 (if(f.ae.getD i fN).aM then 1 else 9)=true:=by
 unfold Flat.sX tB;show(!(!fR (f.ae.getD i fN).id 0 15||(decide (0<i)&&decide ((f.ae.getD i fN).id<=(f.ae.getD (i-1) fN).id))||((f.ae.getD i fN).aM&&decide ((f.ae.getD i fN).bh≠[]))||decide (192<(f.ae.getD i fN).bh.length)||!fR (f.many (f.ae.getD i fN).id) 1 (if(f.ae.getD i fN).aM then 1 else 9)))=true↔_;generalize fR (f.ae.getD i fN).id 0 15=a;generalize(decide (0<i)&&decide ((f.ae.getD i fN).id<=(f.ae.getD (i-1) fN).id))=b;generalize((f.ae.getD i fN).aM&&decide ((f.ae.getD i fN).bh≠[]))=c;generalize decide (192<(f.ae.getD i fN).bh.length)=d;generalize fR (f.many (f.ae.getD i fN).id) 1 (if(f.ae.getD i fN).aM then 1 else 9)=e;cases a<;>cases b<;>cases c<;>cases d<;>cases e<;>simp
theorem Lz (f:Flat)(i:Nat):f.ur i=true↔∃k,f.dt (aK (f.ad.getD i cz).ag).1=some k/\bK (f.ad.getD (i-1) cz).ag (f.ad.getD i cz).ag=true/\k<i/\GZ (aK (f.ad.getD i cz).ag)=(f.ad.getD i cz).ag/\bT (aK (f.ad.getD i cz).ag).2=true/\(f.cD (f.ad.getD i cz).id).isSome=true/\f.gX (f.ad.getD k cz).id=true/\f.nw (f.ad.getD i cz).ag<=12:=by
 have e:f.ur i=(match f.dt (aK (f.ad.getD i cz).ag).1 with
  |none=>false
  |some k=>bK (f.ad.getD (i-1) cz).ag (f.ad.getD i cz).ag&&decide (k<i)&&decide (GZ (aK (f.ad.getD i cz).ag)=(f.ad.getD i cz).ag)&&bT (aK (f.ad.getD i cz).ag).2&&(f.cD (f.ad.getD i cz).id).isSome&&f.gX (f.ad.getD k cz).id&&decide (f.nw (f.ad.getD i cz).ag<=12)):=rfl
 rw[e];cases f.dt (aK (f.ad.getD i cz).ag).1 with
 |none=>simp
 |some k=>simp[and_assoc]
theorem IS (hP:∀x∈f.ad,Lx x.ag):f.ok=true↔kz f:=by
 have hP':∀i,i<f.ad.length->Lx (f.ad.getD i cz).ag:=λi hi=>hP _ (fD cz hi)
 have fZ:f.ok=true↔(fR f.ae.length 1 16=true/\(f.ae.getD 0 fN).id=0/\(f.ae.getD 0 fN).aM=true/\∀i,i<f.ae.length->f.sX i=true)/\f.ad≠[]/\f.ad.getD 0 cz=⟨[47],0⟩/\(∀i,i<f.ad.length->i=0\/f.ur i=true)/\f.nw [47]<=12:=by
  have e:f.ok=((fR f.ae.length 1 16&&decide ((f.ae.getD 0 fN).id=0)&&(f.ae.getD 0 fN).aM&&(List.range f.ae.length).all f.sX)&&decide (f.ad≠[])&&decide (f.ad.getD 0 cz=⟨[47],0⟩)&&(List.range f.ad.length).all (λi=>decide (i=0)||f.ur i)&&decide (f.nw [47]<=12)):=rfl;rw[e];simp only[cv,mC,cl,iM,mH,and_assoc]
 rw[fZ];have hcN:(∀i,1<=i->i<f.ad.length->bT (au (f.ad.getD i cz).ag).2=true)->∀z,f.nw z=cN f.ad f.ad.length z:=λh z=>by
  rw[W5];unfold Flat.nw;refine Ps λx hx=>?_
  have gx:f.ad≠[]:=λe=>by rw[e] at hx;cases hx
  obtain⟨j,hj,rfl⟩:=l5 hx;rw[List.length_tail] at hj;have:=vo (h (j+1) af af);rw[aY,bk af] at this;have e:f.ad.tail[j]=f.ad[j+1]:=List.getElem_tail _;rw[e];have this:aK f.ad[j+1].ag=au f.ad[j+1].ag:=this;rw[this]
 constructor
 .rintro⟨⟨h1,h2,h3,h4⟩,h5,h6,h7,h8⟩;have htb:∀i,i<f.ae.length->tB f.ae i=true:=λi hi=>((tg f i).1 (h4 i hi)).1
  have hs:=vn htb;have cX:0<f.ad.length:=oX.2 h5;have hqlen:0<f.ae.length:=by unfold fR at h1;simp at h1;omega
  have Fc:∀i,1<=i->i<f.ad.length->∃k,f.dt (aK (f.ad.getD i cz).ag).1=some k/\bK (f.ad.getD (i-1) cz).ag (f.ad.getD i cz).ag=true/\k<i/\bT (au (f.ad.getD i cz).ag).2=true/\aK (f.ad.getD i cz).ag=au (f.ad.getD i cz).ag/\(f.cD (f.ad.getD i cz).id).isSome=true/\f.gX (f.ad.getD k cz).id=true/\f.nw (f.ad.getD i cz).ag<=12:=λi hi hl=>by
   obtain⟨k,g1,g2,g3,g4,g5,g6,g7,g8⟩:=(Lz f i).1 ((h7 i hl).resolve_left af);have g9:=(W3 (hP' i hl)).1 ⟨g4,g5⟩;exact⟨k,g1,g2,g3,g9,vo g9,g6,g7,g8⟩
  have hcN':=hcN λi hi hl=>(Fc i hi hl).choose_spec.2.2.2.1
  have kh:∀i,i<f.ad.length->(nS f.ae (f.ad.getD i cz).id).isSome=true:=λi hl=>by
   by_cases hi:i=0
   .subst hi;rw[h6];show(nS f.ae 0).isSome=true;rw[<-h2,DJ hs hqlen];rfl
   .exact(Fc i af hl).choose_spec.2.2.2.2.2.1
  have uN:∀i,i<f.ad.length->∀t,nS f.ae (f.ad.getD i cz).id=some t->cL f.ad (i+1) (f.ad.getD i cz).id<=if(f.ae.getD t fN).aM then 1 else 9:=λi hl t ht=>by
   obtain⟨g1,g2⟩:=DI ht;have:=((tg f t).1 (h4 t g1)).2;rw[g2,<-On] at this;have hm:=BS f.ad (f.ad.getD i cz).id (show i+1<=f.ad.length by omega);simp only[fR,cv,cl] at this;split<;>rename_i uB
   .rw[if_pos uB] at this;omega
   .rw[if_neg uB] at this;omega
  refine⟨h1,h2,h3,htb,af,h6,λi hl=>⟨kh i hl,λhi=>?_,?_,λhf=>?_⟩,λt ht=>?_⟩
  .obtain⟨k,g1,g2,g3,g4,g5,g6,g7,g8⟩:=Fc i hi hl;obtain⟨q1,q2,_⟩:=nq.1 g1;have q3:(f.ad.getD k cz).ag=(au (f.ad.getD i cz).ag).1:=by
    rw[aY,bk q1,<-g5];simpa using q2
   refine⟨g2,⟨k,g3,q3,by rw[IQ];exact g7⟩,g4,?_⟩;refine ku (Qo f.ad _ (show i+1<=f.ad.length by omega)) ?_;rw[<-hcN',<-q3];by_cases hk:k=0
   .subst hk;rw[h6];exact h8
   .exact(Fc k af af).choose_spec.2.2.2.2.2.2.2
  .obtain⟨t,ht⟩:=kB.1 (kh i hl);have:=uN i hl t ht;split at this<;>omega
  .obtain⟨t,ht⟩:=kB.1 (kh i hl);have:=uN i hl t ht;unfold uM at hf;rw[ht] at hf;rw[if_pos hf] at this;exact this
  .have:=((tg f t).1 (h4 t ht)).2;rw[<-On] at this;simp only[fR,cv,cl] at this;exact cL_ex _ af
 .intro h;have hs:=vn h.tb;have hcN':=hcN λi hi hl=>((h.nm i hl).2.1 hi).2.2.1
  have zF:∀z,f.nw z<=12:=λz=>by
   rw[hcN'];exact Oo _ λj h1 hj hz=>by rw[<-hz];exact((h.nm j hj).2.1 h1).2.2.2
  have VX:∀j,1<=j->j<f.ad.length->bK (f.ad.getD (j-1) cz).ag (f.ad.getD j cz).ag=true:=λj h1 hj=>((h.nm j hj).2.1 h1).1
  refine⟨⟨h.tl,h.t0,h.tf,λt ht=>(tg f t).2 ⟨h.tb t ht,?_⟩⟩,λe=>h.n0 (by rw[e];rfl),h.nr,λi hl=>?_,zF _⟩
  .obtain⟨j,hj,hid⟩:=h.al t ht;rw[<-On];have h1:=W6 hj hid;have hti:=DJ hs ht;have h9:cL f.ad f.ad.length (f.ae.getD t fN).id<=9:=DH _ λj hj hid=>by rw[<-hid];exact(h.nm j hj).2.2.1
   have hf:(f.ae.getD t fN).aM=true->cL f.ad f.ad.length (f.ae.getD t fN).id<=1:=λuB=>DH _ λj hj hid=>by
    have:=(h.nm j hj).2.2.2 (by unfold uM;rw[hid,hti];exact uB);rw[<-hid];exact this
   simp only[fR,cv,cl];cases uB:(f.ae.getD t fN).aM with
   |true=>have:=hf uB;rw[if_pos rfl];omega
   |false=>rw[if_neg jL];omega
  .by_cases hi:i=0
   .exact .inl hi
   .right
    obtain⟨g1,⟨k,g2,g3,g4⟩,g5,g6⟩:=(h.nm i hl).2.1 af;have g7:=vo g5;obtain⟨g8,g9⟩:=(W3 (hP' i hl)).2 g5;refine(Lz f i).2 ⟨k,?_,g1,g2,g8,g9,(h.nm i hl).1,by rw[IQ] at g4;exact g4,zF _⟩;rw[g7];refine mj (d:=cz) af (by simpa using g3) λj hj e=>?_
    rw[cl] at e;exact so_ne VX hj af (e.trans g3.symm)
theorem iok_ok (hP:∀x∈f.ad,Lx x.ag):T2 f=f.ok:=by
 rw[oL,BU,IS hP]
end Go.Pl
namespace Go.Pl
open Go.Lg
def jD (q:eV)(k:Int):Bool:=match nS q k with
 |none=>false
 |some t=>(q.getD t fN).aM
def eC (p:dx)(z:ay):Int:=match uJ p z with
 |none=>-1
 |some i=>(p.getD i cz).id
def inJ (p:dx)(k:Int)(x:Fnd):Bool:=decide ((au x.ag).2≠[])&&decide (eC p (au x.ag).1=k)
def Oq (p:dx)(k:Int):Nat:=p.countP (inJ p k)
def zo (p:dx)(k:Int):Nat:=p.countP λx=>decide (x.id=k)
def zp (q:eV):Nat->Nat->Int
 |0,_=>-1
 |n+1,k=>if(nS q (k:Int)).isNone then(k:Int) else zp q n (k+1)
def uO (p:dx)(q:eV)(z:ay)(cK:Bool):Int:=
 if z=[47] then 3 else if eC p (Ev.c8 z)<0 then 2 else if jD q (eC p (Ev.c8 z))=false then 4 else if 0<=eC p z then 3 else
 if cK=true\/12<=Oq p (eC p (Ev.c8 z)) then 6 else 0
def mA (p:dx)(q:eV)(o:Op):Int:=
 if o.kind=1\/o.kind=2 then uO p q o.ag (decide (zp q 16 0<0)) else
 if eC p o.ag<0 then 2 else
 if o.kind=3\/o.kind=4 then(if jD q (eC p o.ag)=true then 4 else if 192<o.at_+o.bh.length then 6 else 0) else
 if o.kind=5 then(if eC p o.ag=0\/(jD q (eC p o.ag)=true/\0<Oq p (eC p o.ag)) then 5 else 0) else
 if o.kind=6 then(if jD q (eC p o.ag)=true then 4 else uO p q o.to (decide (9<=zo p (eC p o.ag)))) else
 if eC p o.ag=0 then 5 else if 0<=eC p o.to then 3 else if under o.to o.ag=true then 5 else if eC p (Ev.c8 o.to)<0 then 2 else if jD q (eC p (Ev.c8 o.to))=false then 4 else
 if eC p (Ev.c8 o.to)≠eC p (Ev.c8 o.ag)/\12<=Oq p (eC p (Ev.c8 o.to)) then 6 else 0
def Bn (x z:ay):Option ay:=if z.length<=x.length/\x.take z.length=z then(if x.drop z.length=[]\/(x.drop z.length).getD 0 0=47 then some (x.drop z.length) else none) else none
def LA (z to:ay)(x:Fnd):Fnd:=match Bn x.ag z with
 |some r=>⟨to++r,x.id⟩
 |none=>x
def DK (p:dx)(q:eV)(z:ay)(k:Int):dx×eV:=
 (p.filter λx=>!decide (x.ag=z),if zo (p.filter λx=>!decide (x.ag=z)) k=0 then q.filter λx=>!decide (x.id=k) else q)
def W7 (q:eV)(k:Int)(g:ay->ay):eV:=match nS q k with
 |none=>q
 |some t=>q.set t ⟨(q.getD t fN).id,(q.getD t fN).aM,g (q.getD t fN).bh⟩
def W8 (t:ay)(n:Int):ay:=t++Ev.yf [0] (max 0 (n-t.length)).toNat
def wrJ (a:Int)(x t:ay):ay:=(W8 t (a+x.length)).take a.toNat++x++(W8 t (a+x.length)).drop (a.toNat+x.length)
def ctJ (a:Int)(t:ay):ay:=(W8 t a).take a.toNat
def uP (p:dx)(q:eV)(o:Op):dx×eV:=
 if o.kind=1\/o.kind=2 then(p++[⟨o.ag,zp q 16 0⟩],q++[⟨zp q 16 0,decide (o.kind=2),[]⟩]) else
 if o.kind=3 then(p,if o.bh=[] then q else W7 q (eC p o.ag) (wrJ o.at_ o.bh)) else
 if o.kind=4 then(p,W7 q (eC p o.ag) (ctJ o.at_)) else
 if o.kind=5 then DK p q o.ag (eC p o.ag) else
 if o.kind=6 then(p++[⟨o.to,eC p o.ag⟩],q) else(p.map (LA o.ag o.to),q)
def T3 (p:dx)(q:eV)(o:Op):Flat:=⟨Ev.iF (uP p q o).1,Ev.ja (uP p q o).2⟩
end Go.Pl
namespace Go.Pl
open Go.Lg
variable {l:dx}
theorem qe:∀(a b:dx),kq a->kq b->(∀x,x∈a↔x∈b)->a=b
 |[],[],_,_,_=>rfl
 |[],y::b,_,_,h=>by have:=(h y).2 jr;cases this
 |x::a,[],_,_,h=>by have:=(h x).1 jr;cases this
 |x::a,y::b,ha,hb,h=>by
  obtain⟨ha1,ha2⟩:=jK.1 ha;obtain⟨Gk,TV⟩:=jK.1 hb;have T4:x=y:=by
   rcases bV.1 ((h x).1 jr) with e|e
   .exact e
   .rcases bV.1 ((h y).2 jr) with e2|e2
    .exact e2.symm
    .have h1:=Gk x e;have h2:=ha1 y e2;have:=eU _ _ _ h1 h2;rw[j6] at this;cases this
  subst T4
  congr 1
  refine qe a b ha2 TV λz=>⟨λhz=>?_,λhz=>?_⟩
  .rcases bV.1 ((h z).1 (lE _ hz)) with e|e
   .subst e;have:=ha1 z hz;rw[j6] at this;cases this
   .exact e
  .rcases bV.1 ((h z).2 (lE _ hz)) with e|e
   .subst e;have:=Gk z hz;rw[j6] at this;cases this
   .exact e
theorem ti:∀(a b:eV),eB a->eB b->(∀x,x∈a↔x∈b)->a=b
 |[],[],_,_,_=>rfl
 |[],y::b,_,_,h=>by have:=(h y).2 jr;cases this
 |x::a,[],_,_,h=>by have:=(h x).1 jr;cases this
 |x::a,y::b,ha,hb,h=>by
  obtain⟨ha1,ha2⟩:=jK.1 ha;obtain⟨Gk,TV⟩:=jK.1 hb;have T4:x=y:=by
   rcases bV.1 ((h x).1 jr) with e|e
   .exact e
   .rcases bV.1 ((h y).2 jr) with e2|e2
    .exact e2.symm
    .have h1:=Gk x e;have h2:=ha1 y e2;omega
  subst T4
  congr 1
  refine ti a b ha2 TV λz=>⟨λhz=>?_,λhz=>?_⟩
  .rcases bV.1 ((h z).1 (lE _ hz)) with e|e
   .subst e;have:=ha1 z hz;omega
   .exact e
  .rcases bV.1 ((h z).2 (lE _ hz)) with e|e
   .subst e;have:=Gk z hz;omega
   .exact e
theorem DL (x:Fnd):∀(l:dx)(y:Fnd),y∈Ev.yd x l↔y=x\/y∈l
 |[],y=>by simp[Ev.yd]
 |z::l,y=>by
  unfold Ev.yd;split
  .simp
  .rw[bV,DL x l,bV];constructor
   .rintro(h|h|h)
    .exact .inr (.inl h)
    .exact .inl h
    .exact .inr (.inr h)
   .rintro(h|h|h)
    .exact .inr (.inl h)
    .exact .inl h
    .exact .inr (.inr h)
theorem DM (x:bU):∀(l:eV)(y:bU),y∈Ev.ye x l↔y=x\/y∈l
 |[],y=>by simp[Ev.ye]
 |z::l,y=>by
  unfold Ev.ye;split
  .simp
  .rw[bV,DM x l,bV];constructor
   .rintro(h|h|h)
    .exact .inr (.inl h)
    .exact .inl h
    .exact .inr (.inr h)
   .rintro(h|h|h)
    .exact .inr (.inl h)
    .exact .inl h
    .exact .inr (.inr h)
theorem G1 (x:Fnd):∀(l:dx),kq l->(∀y∈l,y.ag≠x.ag)->kq (Ev.yd x l)
 |[],_,_=>Pt _ _
 |z::l,h,hn=>by
  obtain⟨h1,h2⟩:=jK.1 h;unfold Ev.yd;split
  .rename_i dA;exact jK.2 ⟨λy hy=>by
    rcases bV.1 hy with rfl|hy
    .exact dA
    .exact eU _ _ _ dA (h1 y hy),h⟩
  .rename_i dA;have hzx:bK z.ag x.ag=true:=by
    refine' zbb
   refine jK.2 ⟨λy hy=>?_,G1 x l h2 λy hy=>hn y (lE _ hy)⟩;rcases(DL x l y).1 hy with rfl|hy
   .exact hzx
   .exact h1 y hy
theorem G2 (x:bU):∀(l:eV),eB l->(∀y∈l,y.id≠x.id)->eB (Ev.ye x l)
 |[],_,_=>Pt _ _
 |z::l,h,hn=>by
  obtain⟨h1,h2⟩:=jK.1 h;unfold Ev.ye;split
  .rename_i dA;exact jK.2 ⟨λy hy=>by
    rcases bV.1 hy with rfl|hy
    .exact dA
    .have:=h1 y hy;omega,h⟩
  .rename_i dA;have gx:=hn z jr;refine jK.2 ⟨λy hy=>?_,G2 x l h2 λy hy=>hn y (lE _ hy)⟩;rcases(DM x l y).1 hy with rfl|hy
   .omega
   .exact h1 y hy
theorem pC:∀(l:dx)(y:Fnd),y∈Ev.iF l↔y∈l
 |[],y=>Iff.rfl
 |x::l,y=>by
  show y∈Ev.yd x (Ev.iF l)↔_;rw[DL,pC l,bV]
theorem sg:∀(l:eV)(y:bU),y∈Ev.ja l↔y∈l
 |[],y=>Iff.rfl
 |x::l,y=>by
  show y∈Ev.ye x (Ev.ja l)↔_;rw[DM,sg l,bV]
theorem qf:∀(l:dx),(l.map Fnd.ag).Nodup->kq (Ev.iF l)
 |[],_=>Pu
 |x::l,h=>by
  rw[xC,vN] at h;exact G1 x _ (qf l h.2) λy hy e=>h.1 (n9.2 ⟨y,(pC l y).1 hy,e⟩)
theorem tj:∀(l:eV),(l.map bU.id).Nodup->eB (Ev.ja l)
 |[],_=>Pu
 |x::l,h=>by
  rw[xC,vN] at h;exact G2 x _ (tj l h.2) λy hy e=>h.1 (n9.2 ⟨y,(sg l y).1 hy,e⟩)
theorem kq.nodup (h:kq l):(l.map Fnd.ag).Nodup:=by
 rw[FH,FI];exact h.imp λ{a b} h=>mU h
theorem eB.nodup {l:eV}(h:eB l):(l.map bU.id).Nodup:=by
 rw[FH,FI];exact h.imp λ{a b} h e=>by omega
theorem yR (h:kq l):Ev.iF l=l:=qe _ _ (qf l h.nodup) h λx=>pC l x
theorem qg {l:eV}(h:eB l):Ev.ja l=l:=ti _ _ (tj l h.nodup) h λx=>sg l x
theorem gE:∀(l:dx)(e x:Fnd),x∈Flat.fV l e↔x=e\/x∈l
 |[],e,x=>by simp[Flat.fV]
 |y::l,e,x=>by
  unfold Flat.fV;split
  .simp
  .rw[bV,gE l,bV];constructor
   .rintro(h|h|h)
    .exact .inr (.inl h)
    .exact .inl h
    .exact .inr (.inr h)
   .rintro(h|h|h)
    .exact .inr (.inl h)
    .exact .inl h
    .exact .inr (.inr h)
theorem vp:∀(l:dx)(e:Fnd),kq l->(∀y∈l,y.ag≠e.ag)->kq (Flat.fV l e)
 |[],_,_,_=>Pt _ _
 |z::l,x,h,hn=>by
  obtain⟨h1,h2⟩:=jK.1 h;unfold Flat.fV;split
  .rename_i dA;exact jK.2 ⟨λy hy=>by
    rcases bV.1 hy with rfl|hy
    .exact dA
    .exact eU _ _ _ dA (h1 y hy),h⟩
  .rename_i dA;have hzx:bK z.ag x.ag=true:=by
    refine' zbb
   refine jK.2 ⟨λy hy=>?_,vp l x h2 λy hy=>hn y (lE _ hy)⟩;rcases(gE l x y).1 hy with rfl|hy
   .exact hzx
   .exact h1 y hy
theorem je:∀(l:eV)(e x:bU),x∈Flat.nL l e↔x=e\/x∈l
 |[],e,x=>by simp[Flat.nL]
 |y::l,e,x=>by
  unfold Flat.nL;split
  .rw[bV,je l,bV];constructor
   .rintro(h|h|h)
    .exact .inr (.inl h)
    .exact .inl h
    .exact .inr (.inr h)
   .rintro(h|h|h)
    .exact .inr (.inl h)
    .exact .inl h
    .exact .inr (.inr h)
  .simp
theorem Ab:∀(l:eV)(e:bU),eB l->(∀y∈l,y.id≠e.id)->eB (Flat.nL l e)
 |[],_,_,_=>Pt _ _
 |z::l,x,h,hn=>by
  obtain⟨h1,h2⟩:=jK.1 h;have gx:=hn z jr;unfold Flat.nL;split
  .rename_i dA;refine jK.2 ⟨λy hy=>?_,Ab l x h2 λy hy=>hn y (lE _ hy)⟩;rcases(je l x y).1 hy with rfl|hy
   .omega
   .exact h1 y hy
  .rename_i dA;exact jK.2 ⟨λy hy=>by
    rcases bV.1 hy with rfl|hy
    .omega
    .have:=h1 y hy;omega,h⟩
theorem qh {α β:Type}(g:α->β){l:List α}{e:α}(h:(l.map g).Nodup)(hn:∀y∈l,g y≠g e):((l++[e]).map g).Nodup:=by
 rw[Jw,qB];refine⟨h,by simp,λa ha b hb=>?_⟩;obtain⟨y,hy,rfl⟩:=n9.1 ha;rw[xC,FA,iN] at hb;subst hb;exact hn y hy
theorem xa {e:Fnd}(h:kq l)(hn:∀y∈l,y.ag≠e.ag):Ev.iF (l++[e])=Flat.fV l e:=
 qe _ _ (qf _ (qh Fnd.ag h.nodup hn)) (vp l e h hn) λx=>by
  rw[pC,gE,fJ,iN,or_comm]
theorem DN {l:eV}{e:bU}(h:eB l)(hn:∀y∈l,y.id≠e.id):Ev.ja (l++[e])=Flat.nL l e:=
 ti _ _ (tj _ (qh bU.id h.nodup hn)) (Ab l e h hn) λx=>by
  rw[sg,je,fJ,iN,or_comm]
theorem Qq:∀(l cM:dx),kq cM->((cM++l).map Fnd.ag).Nodup->kq (l.foldl Flat.fV cM)/\∀x,x∈l.foldl Flat.fV cM↔x∈cM++l
 |[],cM,h,_=>⟨h,λx=>by simp⟩
 |e::l,cM,h,hn=>by
  have gx:∀y∈cM,y.ag≠e.ag:=λy hy he=>by
   rw[Jw,xC,qB] at hn;exact hn.2.2 _ (n9.2 ⟨y,hy,rfl⟩) _ jr he
  have hs:=vp cM e h gx;have Bh:((Flat.fV cM e++l).map Fnd.ag).Nodup:=by
   rw[Jw,qB];rw[Jw,xC,qB,vN] at hn;refine⟨hs.nodup,hn.2.1.2,λa ha b hb=>?_⟩;obtain⟨y,hy,rfl⟩:=n9.1 ha;rcases(gE _ _ _).1 hy with rfl|hy
   .intro e;subst e;exact hn.2.1.1 hb
   .exact hn.2.2 _ (n9.2 ⟨y,hy,rfl⟩) _ (lE _ hb)
  obtain⟨h1,h2⟩:=Qq l (Flat.fV cM e) hs Bh;refine⟨h1,λx=>(h2 x).trans ?_⟩;rw[fJ,gE,fJ,bV];constructor
  .rintro((h|h)|h)
   .exact .inr (.inl h)
   .exact .inl h
   .exact .inr (.inr h)
  .rintro(h|h|h)
   .exact .inl (.inr h)
   .exact .inl (.inl h)
   .exact .inr h
theorem Ot (h:(l.map Fnd.ag).Nodup):Ev.iF l=l.foldl Flat.fV []:=by
 obtain⟨h1,h2⟩:=Qq l [] Pu (by simpa using h);exact qe _ _ (qf l h) h1 λx=>by rw[pC,h2];simp
end Go.Pl
namespace Go.Pl
open Go Go.Ev Go.Lg Go.Proofs
abbrev fT (a:aH)(c:Nat)(p:dx)(a':aH)(c':Nat)(q:eV):aQ:=[.slice a p.length c,.slice a' q.length c']
theorem WO.loadRA {E:dy}{X:dM}{Γ:gY}{l:Kn}{L:bn}{K:KO}{x:Operand}{t:TypeId}{b off m n sz:Nat}{cs r:aQ}[ht:vG E t m](hx:Ev l x (.pointer (some ⟨b,off,none⟩)))(hh:Rd Γ (jF b) n sz cs)(hv:iD m (Go.Ev.dX off cs)=some r)(k:∀n,K (.agg ⟨r⟩) L n n (λi=>i∈ai (jF b)) Z):WO E X Γ l (.load t x) L K:=λtm s h1 h2=>by
 refine' za3
 .cases hc
 .cases hc
 .cases hc
  refine fS.pure (v:=.agg ⟨r⟩) (s':=s.aR b) (λcall=>?_) ⟨L,(λi=>i∈ai (jF b)),Z,h2.aR (hm b (by simp[ai])),cW h3 (by simp[ai]),by rw[cw];exact k _⟩;show(Ez (aI tm x) λb o=>l6 E s t b o)=_;rw[hx.eval h1];have:=v8 h5 hv;rw[ni] at this;exact vd h4 this
theorem WO.VM {E:dy}{X:dM}{Γ:gY}{l:Kn}{L:bn}{K:KO}{x:Operand}{t:TypeId}{b off n sz:Nat}{cs:aQ}{v:Value}[ht:ny E t](hx:Ev l x (.pointer (some ⟨b,off,none⟩)))(hh:Rd Γ (jF b) n sz cs)(hv:cs[off]?=some v)(k:∀n,K v L n n (λi=>i∈ai (jF b)) Z):WO E X Γ l (.load t x) L K:=λtm s h1 h2=>by
 refine' za3
 .cases hc
 .cases hc
 .cases hc
  refine fS.pure (v:=v) (s':=s.aR b) (λcall=>?_) ⟨L,(λi=>i∈ai (jF b)),Z,h2.aR (hm b (by simp[ai])),cW h3 (by simp[ai]),by rw[cw];exact k _⟩;show(Ez (aI tm x) λb o=>l6 E s t b o)=_;rw[hx.eval h1];have:=AF h5 hv;rw[ni] at this;exact sZ h4 this
section
variable {E:dy}{X:dM}{Γ:gY}{l:Kn}{L R:bn}{K:KO}
theorem WO.nilCheck {x:Operand}{a:Addr}(hx:Ev l x (.pointer (some a)))(k:∀n,K (.pointer (some a)) L n n Z Z):WO E X Γ l (.nilCheck x) L K:=WO.val (λtm s call hl=>by
 show FL E (aI tm x) s=_;rw[hx.eval hl];rfl) k
end
structure iB (s:St)(b:Nat)(a:aH)(c:Nat)(p:dx)(a':aH)(c':Nat)(q:eV):Prop where
 b:bM s (jF b) 1 2 (fT a c p a' c' q)
 n:bM s a p.length 2 (ah p)
 t:bM s a' q.length 3 (ah q)
structure uA (Γ:gY)(L:bn)(b:Nat)(a:aH)(c:Nat)(p:dx)(a':aH)(c':Nat)(q:eV):Prop where
 b:jR Γ L (jF b) 1 2 (fT a c p a' c' q)
 n:jR Γ L a p.length 2 (ah p)
 t:jR Γ L a' q.length 3 (ah q)
abbrev qz (b:Nat)(a a':aH):List Nat:=b::(ai a++ai a')
section
variable {E:dy}{X:dM}{Γ:gY}{l:Kn}{L R:bn}{K:KO}{g:FuncId}{xs:List Operand}{ts:Array TypeId}{vs:aQ}{b:Nat}{a a':aH}{c c':Nat}{p:dx}{q:eV}{r:Value}{s:St}
theorem uA.row (h:uA Γ L b a c p a' c' q)(hi:Inv Γ s L):iB s b a c p a' c' q/\∀i∈qz b a a',EF Γ s i:=by
 refine⟨⟨(h.b.row hi).1,(h.n.row hi).1,(h.t.row hi).1⟩,λi hb=>?_⟩;rcases bV.1 hb with rfl|hb
 .exact(h.b.row hi).2 _ (by simp[ai])
 .rcases fJ.1 hb with hb|hb
  .exact(h.n.row hi).2 i hb
  .exact(h.t.row hi).2 i hb
theorem WO.rm (hx:ky l xs vs)(h:∀s,iB s b a c p a' c' q->pW E X g vs s (qz b a a') r)(hh:uA Γ L b a c p a' c' q)(k:∀m m',kb L m->m<=m'->K r L m m' (λi=>i∈qz b a a'\/i∈([]:bn).flatMap It.aS\/(m<=i/\i<m')) (λi=>i∈([]:bn).flatMap It.aS\/(m<=i/\i<m'))):WO E X Γ l (.call ⟨.value (.func g),⟨xs⟩,ts⟩) L K:=
 WO.tH hx (λs hi=>⟨(hh.row hi).2,h s (hh.row hi).1⟩) k
theorem G3.x (h:iB s b a c p a' c' q):Rd ⟨s,([]:bn).flatMap It.aS,qz b a a'⟩ (jF b) 1 2 (fT a c p a' c' q):=Rd.of h.b λi hb=>by rw[show i=b by simpa[ai] using hb];exact jr
theorem G3.n (h:iB s b a c p a' c' q):Rd ⟨s,([]:bn).flatMap It.aS,qz b a a'⟩ a p.length 2 (ah p):=Rd.of h.n λ_ hb=>lE _ (di _ hb)
theorem G3.t (h:iB s b a c p a' c' q):Rd ⟨s,([]:bn).flatMap It.aS,qz b a a'⟩ a' q.length 3 (ah q):=Rd.of h.t λ_ hb=>lE _ (dH _ hb)
end
def thV (a:aH):Option Nat->Value
 |none=>.pointer none
 |some i=>da a i 3 0
theorem fU (s:St)(b:Nat)(a:aH)(c:Nat)(p:dx)(a':aH)(c':Nat)(q:eV)(hs:eB q)(hq:q.length<=1000)(k:Int)(hr:iB s b a c p a' c' q):bO 28 [aP b,iv k] s (qz b a a') (thV a' (nS q k)):=by
 have M3:=G3.x hr;have qJ:=G3.t hr;rw[thI_lb hs k c9.lW];by_cases hk:Bl q k<q.length/\(q.getD (Bl q k) c9.lW).id=k
 .rw[if_pos hk];have hd:(!(decide (Bl q k<q.length/\(q.getD (Bl q k) c9.lW).id=k)))=false:=by rw[dO hk];rfl
  have Dz:=hk.1;refine aO f28 ?_;(repeat' (first|refine' aX|refine' zc36|refine' ar|fail))
  refine' zaB
  all_goals rfl
 .rw[if_neg hk];have hd:(!(decide (Bl q k<q.length/\(q.getD (Bl q k) c9.lW).id=k)))=true:=by rw[iO hk];rfl
  refine aO f28 ?_;(repeat' (first|refine' aX|refine' zc36|refine' ar|fail))
  refine' zaB
  all_goals rfl
def ldI (p:dx)(z:ay):Int:=match uJ p z with
 |none=>-1
 |some i=>(p.getD i c9.lW).id
theorem Qr (s:St)(b:Nat)(a:aH)(c:Nat)(p:dx)(a':aH)(c':Nat)(q:eV)(hs:kq p)(hq:p.length<=1000)(z:ay)(hr:iB s b a c p a' c' q):bO 20 [aP b,sv z] s (qz b a a') (iv (ldI p z)):=by
 have M3:=G3.x hr;have qJ:=G3.n hr;unfold ldI;rw[nmI_lb hs z c9.lW];by_cases hk:Bm p z<p.length/\(p.getD (Bm p z) c9.lW).ag=z
 .rw[if_pos hk];have hd:(!(decide (Bm p z<p.length/\(p.getD (Bm p z) c9.lW).ag=z)))=false:=by rw[dO hk];rfl
  have Dz:=hk.1;refine aO f20 ?_;(repeat' (first|refine' aX|refine' zc37|refine' ar|fail))
  refine' zaB
  all_goals rfl
 .rw[if_neg hk];have hd:(!(decide (Bm p z<p.length/\(p.getD (Bm p z) c9.lW).ag=z)))=true:=by rw[iO hk];rfl
  refine aO f20 ?_;(repeat' (first|refine' aX|refine' zc37|refine' ar|fail))
  refine' zaB
  all_goals rfl
end Go.Pl
namespace Go.Lg
open Go Go.Ev
section
variable {E:dy}{X:dM}{Γ:gY}{l:Kn}{L L' R:bn}{K:KO}{x y o:Operand}{t:TypeId}{s:St}{b p:Nat}{z:List UInt8}
theorem WO.rangeS [ht:yj E t](hx:Ev l x (sv z))(h:∀b,kb L b->K (.pointer (some ⟨b,0,none⟩)) (.fy b (.lA z 0)::L) b (b+1) (λi=>i=b) (λi=>i=b)):WO E X Γ l (.range t x) L K:=
 WO.news (mk:=λb=>.pointer (some ⟨b,0,none⟩)) (ob:=λ_=>.lA z 0) (it:=λb=>.fy b (.lA z 0)) (λtm s call hl _=>by
   show HQ E s t (aI tm x)=_;rw[hx.eval hl];unfold HQ;rw[ht.h];rfl) (λs b h=>h) (λb=>rfl) h
theorem WO.nextS1 (hx:Ev l x (.pointer (some ⟨b,0,none⟩)))(hu:yk (.fy b (.lA z p)) (.fy b (.lA z (p+1))) L L')(hp:p<z.length)(hc:(z.getD p 0).toNat<128)(h:∀n,K (.tuple ⟨[.bool true,iv (p:Int),.int .i32 ((z.getD p 0).toNat:Int)]⟩) L' n n (λi=>i=b) (λi=>i=b)):WO E X Γ l (.next x true) L K:=λtm s hl hi=>by
 obtain⟨R,p1,p2⟩:=hu.cR;have hm:It.fy b (.lA z p)∈L:=p1.mem_iff.2 (by simp);have lg:=hi.may hm (b:=b) (by simp[It.aS]);have hg:s.heap.get b=some (.lA z p):=hi.it _ hm;have hn:iR z p=some (z.getD p 0):=by
  rw[dQ,bk hp,aY,bk hp];rfl
 refine fS.pure (v:=.tuple ⟨[.bool true,iv (p:Int),.int .i32 ((z.getD p 0).toNat:Int)]⟩) (s':=s.put b (some (.lA z (p+1)))) (λcall=>?_) ⟨L',(λi=>i=b),(λi=>i=b),hi.put hu rfl rfl (by show T.get (St.heap _) b=_;simp),jS lg.1 rfl rfl,by rw[dY];exact h _⟩;show JT s (aI tm x) true=_;rw[hx.eval hl];show ob (s.look b) _=_;unfold St.look;rw[hg];show eb true (FK s b z p)=_;rw[eA];unfold FK;rw[hn];show eb (Nat.ble (Nat.succ (z.getD p 0).toNat) 128) _=_;rw[gR (show Nat.succ (z.getD p 0).toNat<=128 by omega)];rfl
theorem WO.nextS0 (hx:Ev l x (.pointer (some ⟨b,0,none⟩)))(hm:It.fy b (.lA z p)∈L)(hp:z.length<=p)(h:∀n,K (.tuple ⟨[.bool false]⟩) L n n (λi=>i=b) Z):WO E X Γ l (.next x true) L K:=λtm s hl hi=>by
 have lg:=hi.may hm (b:=b) (by simp[It.aS]);have hg:s.heap.get b=some (.lA z p):=hi.it _ hm;refine fS.pure (v:=.tuple ⟨[.bool false]⟩) (s':=s.aR b) (λcall=>?_) ⟨L,(λi=>i=b),Z,hi.aR lg,cW lg.1 rfl,by rw[cw];exact h _⟩;show JT s (aI tm x) true=_;rw[hx.eval hl];show ob (s.look b) _=_;unfold St.look;rw[hg];show eb true (FK s b z p)=_;rw[eA];unfold FK;rw[show iR z p=none by rw[dQ,rB hp]];rfl
end
section
variable {E:dy}{X:dM}{Γ:gY}{l:Kn}{L:bn}{K:KO}{x y:Operand}{t t2:TypeId}{a:aH}{n sz i j:Nat}{α:Type}{enc:c9 α sz}{p:List α}
theorem WO.Z6 [ht:TPtr E t](hx:Ev l x (da a i sz j))(hy:Ev l y (.pointer none))(hh:jR Γ L a n sz (ah (sz:=sz) p))(hi:i<p.length)(k:∀n,K (.bool false) L n n Z Z):WO E X Γ l (.binOp .eql t x y t2) L K:=λtm s hl h2=>by
 obtain⟨b,o,_,_,_,rfl,_⟩:=(hh.row h2).1.at_ hi;exact WO.Vx (p:=some ⟨b,o+(i*sz+j),none⟩) (ht:=ht) hx hy k tm s hl h2
theorem WO.Z5 (hx:Ev l x (da a i sz j))(hh:jR Γ L a n sz (ah (sz:=sz) p))(hi:i<p.length)(k:∀n,K (da a i sz j) L n n Z Z):WO E X Γ l (.nilCheck x) L K:=λtm s hl h2=>by
 obtain⟨b,o,_,_,_,rfl,_⟩:=(hh.row h2).1.at_ hi;refine fS.pure (v:=da (some ⟨b,o,none⟩) i sz j) (s':=s) (λcall=>?_) ⟨L,Z,Z,h2,kx.id,k _⟩;show FL E (aI tm x) s=_;rw[hx.eval hl];rfl
end
section
variable {E:dy}{X:dM}{Γ:gY}{l:Kn}{L:bn}{K:KO}{x y:Operand}{t t2:TypeId}{p q:List UInt8}
theorem WO.sleq (hx:Ev l x (sv p))(hy:Ev l y (sv q))(h:∀n,K (.bool (!(Op.bytesLess q p))) L n n Z Z):WO E X Γ l (.binOp .leq t x y t2) L K:=WO.bin hx hy (λcc=>by
 show some (Value.bool (bo (nV p q) true (gv p q)))=_;rw[sK,eQ,<-pX p q];have:∀a b:Bool,bo a true b=(a||b):=by intro a b;cases a<;>rfl
 rw[this,Bool.not_not]
 congr 3
 rw[oL];simp) h
end
end Go.Lg
namespace Go.Pl
open Go Go.Ev Go.Lg Go.Proofs
theorem aaj (s:St)(a:aH)(c:Nat)(n:Int):bO 243 [.slice a 0 c,iv n] s [] (.bool false):=by
 refine aO f243 ?_;(repeat(first|refine' wU|refine' ar|fail))
 refine W.bH (λk l L=>Le [(0,.slice a 0 c),(1,iv n),(5,iv 0)] l/\cr [] L/\k=0) (λl L=>True) 0 ⟨bd,aq,rfl⟩ ?_ ?_
 .rintro k l L ⟨hl,hL,rfl⟩;refine W.le ?_ hl hL;(refine' cO)
  all_goals first|trivial|(exfalso;simp_all;done)
 .rintro l L _;refine aj ?_;refine W.le ?_ (Le.nil _) (cr.nil _);(refine' cO)
  (refine' av);rfl
def G4 (o:Option Nat):Int:=(o.map Int.ofNat).getD (-1)
theorem xb {p:Nat->Bool}{n i:Nat}(h:0<n):nu p n i=if p i then some i else nu p (n-1) (i+1):=by
 obtain⟨m,rfl⟩:∃m,n=m+1:=⟨n-1,af⟩;rfl
theorem pD (s:St)(v:SA)(st:ak)(h64:st.aV.length=64)(a:aH)(c:Nat)(hr:cJ s v st):bO 220 [.agg ⟨[.slice v.f 64 v.fc,.slice v.l 64 v.lc]⟩,iv 8,.slice a 0 c] s (im v) (iv (G4 (CE st))):=by
 have tO:=Rd.off hr;refine aO f220 ?_;(repeat' (first|refine' aX|refine' zc3|refine' ar|fail))
 refine W.bH (λk l L=>∃(i:Nat),Le [(3,aP bx),(1,iv 8),(2,.slice a 0 c),(7,iv 56),(8,iv i)] l/\cr [.box bx [.slice v.f 64 v.fc,.slice v.l 64 v.lc] 55 false] L/\k=56-i/\i<=56/\nu (λi=>decide (st.aV.getD i 0=0)) 56 8=nu (λi=>decide (st.aV.getD i 0=0)) (56-i) (8+i))
  (λl L=>CE st=none) 56 ⟨0,bd,aq,af,af,rfl⟩ ?_ ?_
 .rintro k l L ⟨i,hl,hL,rfl,h1,h2⟩;refine W.le ?_ hl hL;clear hl hL;have hm:((8:Int)-8+(i:Int)).tmod 56=if i<56 then(i:Int) else((8:Int)-8+(i:Int)).tmod 56:=by
   split
   .rw[Int.tmod_eq_emod_of_nonneg af,Int.emod_eq_of_lt af af];omega
   .rfl
  by_cases hi:i<56
  .rw[if_pos hi] at hm;have e:=xb (p:=λi=>decide (st.aV.getD i 0=0)) (n:=56-i) (i:=8+i) af;have hx:8+(8-Nat.succ 7+i)% 56=8+i:=by omega
   (refine' zb39)
   ·(refine' av)
    rw[hx] at tR;rw[show CE st=some (8+i) from h2.trans (e.trans (if_pos (dO tR)))];simp only[gF,G4,hm];congr 1
   .refine⟨_,?_,i+1,?_,aq,rfl,af,?_⟩
    .omega
    .exact bd
    .rw[hx] at tR;rw[h2,e,if_neg (by rw[cl];exact tR)]
     congr 1
   all_goals(exfalso;omega)
  .have fG:i=56:=by omega
   subst fG;(refine' zb39)
   all_goals first|(exfalso;omega;done)|exact h2
 .rintro l L h1;refine aj ?_;refine W.le ?_ (Le.nil _) (cr.nil _);(refine' cO)
  (refine' av);rw[h1];rfl
theorem G5 (s:St)(v:SA)(st:ak)(h:du 100000 st)(z:ay)(hr:cJ s v st):bO 219 [fF v st,sv z] s (im v) (iv (G4 (Vb st z))):=by
 have tk:=Rd.DE hr;have tO:=Rd.off hr;have tT:=Rd.BO hr;have J6:=h.lr;have BG:=h.lf;have hll:=h.ll;refine aO f219 ?_;(repeat(first|refine' wU|refine' ar|fail))
 refine W.bH (λk l L=>∃(i:Nat),Le [(2,aP bx),(1,sv z),(5,iv i)] l/\cr [.box bx (rz v st) 58 false] L/\k=64-i/\8<=i/\i<=64/\Vb st z=nu (ya st z) (64-i) i)
  (λl L=>Vb st z=none) 56 ⟨8,bd,aq,af,af,af,rfl⟩ ?_ ?_
 .rintro k l L ⟨i,hl,hL,rfl,h0,h1,h2⟩;refine W.le ?_ hl hL;clear hl hL;by_cases hi:i<64
  .have e:=xb (p:=ya st z) (n:=64-i) (i:=i) af;have hn:ya st z i=false->nu (ya st z) (64-i) i=nu (ya st z) (64-(i+1)) (i+1):=λhf=>by rw[e,hf];rfl
   have BR:ya st z i=(decide (st.ep.getD i c9.lW=z)&&decide (st.dq.getD i c9.lW<st.fE)&&decide (st.aV.getD i c9.lW<st.fE)):=rfl;(refine' cO)
   ·(refine' av)
    have ht:ya st z i=true:=by rw[BR];simp_all
    rw[h2,e,if_pos ht];rfl
   rotate_left 3
   .exfalso;omega
   all_goals
    refine⟨_,?_,i+1,bd,aq,rfl,af,af,?_⟩
    .omega
    .rw[h2,hn (by rw[BR];first|(rw[hc];simp;done)|(rw[hg];simp;done))]
  .have fG:i=64:=by omega
   subst fG;(refine' cO)
   all_goals first|(exfalso;omega;done)|exact h2
 .rintro l L h1;refine aj ?_;refine W.le ?_ (Le.nil _) (cr.nil _);(refine' cO)
  (refine' av);rw[h1];rfl
def optS2 (o:Option ay):Value:=.tuple ⟨[sv (o.getD []),.bool o.isSome]⟩
theorem Gv (s:St)(v:SA)(st:ak)(h:du 100000 st)(p:iL)(hp:bw p=true)(hr:cJ s v st):bO 156 [fF v st,pv p] s (im v) (optS2 (jP st p)):=by
 have tk:=Rd.DE hr;have J6:=h.lr;have hw:(st.ep.getD p.row.toNat c9.lW).length<=3000:=h.row p.row.toNat;cases hh:aC p with
 |true=>
  refine aO f156 ?_;(refine' Bj)
  (refine' av);unfold jP;rw[if_pos hh];rfl
 |false=>
  have hrg:=yN hp hh;refine aO f156 ?_;(repeat' (first|refine' aX|refine' Gt|refine' zc39|refine' ar|fail))
  all_goals(refine' av)
  all_goals(unfold jP;rw[if_neg (by rw[hh];simp)])
  .rw[if_neg (by simp_all [rwAt])];rfl
  .rw[if_pos (by simp_all [rwAt])];rfl
theorem NP (s:St)(n:Int)(hn:0<=n/\n<=1000):fa aU aW 192 [iv n] s [] 60 (cY n.toNat):=by
 refine aO f192 ?_;(refine' cO)
 all_goals(refine' lB);rfl
theorem G6 {st:ak}(h:du 100000 st)(p:iL):((jP st p).getD []).length<=3000:=by
 unfold jP;split
 .simp
 .split
  .exact h.row _
  .simp
theorem CU (s:St)(v:SA)(st:ak)(h:du 100000 st)(p:iL)(level:Int)(hr:cJ s v st):ke aU aW 227 [fF v st,pv p,iv level] s (im v) 60 ((below st p level).getD []) (below st p level).isSome:=by
 have tk:=Rd.DE hr;have tO:=Rd.off hr;have tT:=Rd.BO hr;have UB:=G6 h p;cases hh:aC p with
 |true=>
  refine aO f227 ?_;(repeat' (first|refine' aX|refine' Gt|refine' zc40|refine' ar|fail))
  rw[Pg.nR hh];(refine' fq)<;>rfl
 |false=>
  have hb0:(bw p=false\/p.level≠level\/st.fE<p.de)->below st p level=none:=λhc=>by
   unfold below;rw[if_neg (by rw[hh];simp),if_pos (by simp;rcases hc with hc|hc|hc<;>simp[hc])]
  by_cases Jt:bw p=true
  .refine aO f227 ?_;have Gk:p.level=level->p.de<=st.fE->below st p level=match jP st p with
     |none=>none
     |some s=>match j9 s with
      |none=>none
      |some l=>if l.any (λq=>decide (p.de<q.de)) then none else some l:=λh1 h2=>by
    unfold below;rw[if_neg (by rw[hh];simp),if_neg (by simp[Jt,h1];omega)];rfl
   (repeat' (first|refine' aX|refine' Gt|refine' R1|refine' zS|((with_reducible apply WO.ym);exact aD;(first|exact λs=>Su s _ af);intro _ _ vq vr _ _)|refine' ar|fail))
   .rw[hb0 (.inr (.inr jU))];(refine' fq)<;>rfl
   .have hn:jP st p=none:=by cases hx:jP st p<;>simp_all
    rw[Gk tR (by assumption),hn];(refine' fq)<;>rfl
   .obtain⟨z,hz⟩:=kB.1 (show(jP st p).isSome=true by simp_all);have TV:=Gk (by assumption) (by assumption);rw[hz] at TV⊢;simp only[pH] at *
    generalize hq:(j9 z).getD []=q at *
    have hql:q.length<=4:=by
     cases hf:j9 z with
     |none=>rw[hf] at hq;subst hq;simp
     |some l=>rw[hf] at hq;have:=(Pg.AR hf).1;simp at hq;subst hq;omega
    refine W.bH (λk l L=>∃(i:Nat),Le [(4,aP bx),(10,.slice vq q.length vr),(11,.bool (j9 z).isSome),(12,iv i)] l/\cr [.aJ (.slice vq q.length vr) 60 5 (ah q),.box bx (rk p) 60 false] L/\k=q.length-i/\i<=q.length/\∀j,j<i->¬p.de<(q.getD j c9.lW).de)
     (λl L=>Le [(10,.slice vq q.length vr),(11,.bool (j9 z).isSome)] l/\cr [.aJ (.slice vq q.length vr) 60 5 (ah q)] L/\∀j,j<q.length->¬p.de<(q.getD j c9.lW).de) q.length ⟨0,bd,aq,af,af,λj hj=>by omega⟩ ?_ ?_
    .rintro k l L ⟨i,hl,hL,rfl,h1,h2⟩;refine W.le ?_ hl hL;clear hl hL;(refine' cO)
     .have hn:below st p level=none:=by
       rw[TV];cases hf:j9 z with
       |none=>rfl
       |some w=>
        rw[hf] at hq;have hq:w=q:=by simpa using hq
        subst hq;simp only;rw[if_pos];rw[FB];exact⟨_,aF (show i<w.length by omega) c9.lW,by simpa using jU⟩
      rw[hn];(refine' fq)<;>rfl
     .refine⟨_,?_,i+1,bd,aq,rfl,af,λj hj=>?_⟩
      .omega
      .by_cases v7:j=i
       .subst v7;omega
       .exact h2 j af
     .exact⟨bd,aq,λj hj=>h2 j af⟩
    .rintro l L ⟨hl,hL,h1⟩;refine aj ?_;refine W.le ?_ hl hL;clear hl hL;have:below st p level=j9 z:=by
      rw[TV];cases hf:j9 z with
      |none=>rfl
      |some w=>
       rw[hf] at hq;have hq:w=q:=by simpa using hq
       subst hq;simp only;rw[if_neg];intro hc;obtain⟨x,hx,RC⟩:=FB.1 hc;obtain⟨j,hj,rfl⟩:=l5 hx;have:=h1 j hj;rw[pj _ hj] at this;exact this (by simpa using RC)
     rw[this];(refine' cO)
     (refine' fq)
     .exact hq
     .rfl
   .first
     |(exfalso;simp_all;done)
     |(rw[hb0 (.inr (.inl tR))];(refine' fq)<;>rfl)
   all_goals first
     |(exfalso;simp_all;done)
     |(rw[hb0 (.inr (.inl tR))];(refine' fq)<;>rfl)
  .have hpo':bw p=false:=by simpa using Jt
   have hpn:(!bw p)=true:=by rw[hpo'];rfl
   refine aO f227 ?_;(repeat' (first|refine' aX|refine' Gt|refine' R1|refine' ar|fail))
   rw[hb0 (.inl hpo')];(refine' fq)<;>rfl
end Go.Pl
namespace Go.Pl
open Go Go.Ev Go.Lg Go.Proofs
variable {st:ak}{q:cV}{n:Int}
theorem LB {n:Nat}(h:down st (n+1:Nat) q=none):gN.go st (n+1) q=none:=by
 rw[gN.go,h]
theorem SM {p:iL}(hp:p∈q)(h:below st p n=none):down st n q=none:=by
 cases hd:down st n q with
 |none=>rfl
 |some r=>have:=Pg.yL hd p hp;rw[h] at this;cases this
theorem SN {q r:cV}{i:Nat}(hi:i<q.length)(h:down st n (q.take i)=some r){k:cV}(hk:below st (q.getD i c9.lW) n=some k):down st n (q.take (i+1))=some (r++k):=by
 rw[fC q c9.lW hi];have:=Pg.pz hk (Pg.Ls st n);rw[iH] at this;exact Pg.Du h this
theorem uz (s:St)(v:SA)(st:ak)(h:du 100000 st)(t:bX)(ht:dZ t)(hr:cJ s v st):ke aU aW 188 [fF v st,tv t] s (im v) 60 ((gN st t).getD []) (gN st t).isSome:=by
 have tk:=Rd.DE hr;have tO:=Rd.off hr;have tT:=Rd.BO hr;have hdp:=ht.dp;refine aO f188 ?_;(repeat(first|refine' wU|refine' ar|fail))
 have h4:∀n:Nat,n<=2->4^ n<=16:=λn hn=>by
  have:n=0\/n=1\/n=2:=by omega
  rcases this with rfl|rfl|rfl<;>decide
 refine W.bH (λk l L=>∃(n:Nat)(q:cV)(a:aH)(c bs:Nat),Le [(2,aP bs),(6,.slice a q.length c),(7,iv n)] l/\cr [.aJ (.slice a q.length c) 60 5 (ah q),.box bs (rz v st) 58 false] L/\k=n/\q.length*4^ n<=16/\gN st t=gN.go st n q/\n<=2)
  (λl L=>∃(q:cV)(a:aH)(c:Nat),Le [(6,.slice a q.length c)] l/\cr [.aJ (.slice a q.length c) 60 5 (ah q)] L/\gN st t=some q) t.depth.toNat ⟨t.depth.toNat,[t.cC],some ⟨bl,0,none⟩,1,_,(by rw[xG hdp.1];exact bd),aq,rfl,?_,rfl,af⟩ ?_ ?_
 .have:=h4 t.depth.toNat af;simpa using this
 .rintro k l L ⟨n,q,a,c,bs,hl,hL,hk,h1,h2,F0⟩;refine W.le ?_ hl hL;clear hl hL;subst hk;cases k with
  |zero=>
   (refine' cO)
   all_goals try exact pb
   exact⟨q,a,c,bd,aq,h2⟩
  |succ n=>
   have hq16:q.length<=16:=by
    have:1<=4^ (n+1):=Nat.pow_pos af;exact ku (Uc _ this) h1
   have G7:∀p∈q,below st p ((n+1:Nat):Int)=none->gN st t=none:=λp hp hb=>by
    rw[h2,LB (SM hp hb)]
   (refine' cO)
   rotate_left 1
   .exfalso;omega
   refine W.bH (λk l L=>∃(i:Nat)(r:cV)(a2:aH)(c2:Nat),Le [(2,aP bs),(6,.slice a q.length c),(7,iv ((n+1:Nat):Int)),(8,.slice a2 r.length c2),(9,iv i)] l/\cr [.aJ (.slice a2 r.length c2) 60 5 (ah r),.aJ (.slice a q.length c) 60 5 (ah q),.box bs (rz v st) 58 false] L/\k=q.length-i/\i<=q.length/\down st ((n+1:Nat):Int) (q.take i)=some r)
    (λl L=>∃(r:cV)(a2:aH)(c2:Nat),Le [(2,aP bs),(7,iv ((n+1:Nat):Int)),(8,.slice a2 r.length c2)] l/\cr [.aJ (.slice a2 r.length c2) 60 5 (ah r),.box bs (rz v st) 58 false] L/\down st ((n+1:Nat):Int) q=some r) q.length ⟨0,[],_,_,bd,aq,af,af,rfl⟩ ?_ ?_
   .rintro k l L ⟨i,r,a2,c2,hl,hL,rfl,h3,h4⟩;refine W.le ?_ hl hL;clear hl hL;have UB:=(Pg.yK h4).1;rw[dg] at UB;have Ou:((below st (q.getD i c9.lW) ((n+1:Nat):Int)).getD []).length<=4:=by
     cases hb:below st (q.getD i c9.lW) ((n+1:Nat):Int) with
     |none=>simp
     |some w=>have:=(Pg.iA hb).1;simp;omega
    (repeat' (first|refine' aX|refine' Z3|refine' ar|fail))
    .have hn:below st (q.getD i c9.lW) ((n+1:Nat):Int)=none:=by
      cases hb:below st (q.getD i c9.lW) ((n+1:Nat):Int) with
      |none=>rfl
      |some w=>rw[hb] at jU;cases jU
     rw[G7 _ (aF (show i<q.length by omega) _) hn];(refine' fq)<;>rfl
    .obtain⟨w,hw⟩:=kB.1 jU;rw[hw];refine⟨_,?_,i+1,r++w,_,_,bd,aq,rfl,af,SN af h4 hw⟩;omega
    .have hi:i=q.length:=by omega
     subst hi;rw[gS] at h4;exact⟨r,_,_,bd,aq,h4⟩
   .rintro l L ⟨r,a2,c2,hl,hL,h3⟩;refine aj ?_;refine W.le ?_ hl hL;clear hl hL;have UB:=(Pg.yK h3).1;(refine' cO)
    refine⟨_,?_,n,r,_,_,_,?_,aq,rfl,?_,?_,af⟩
    .omega
    .have:((n+1:Nat):Int)-1=(n:Nat):=by omega
     rw[this];exact bd
    .rw[UB];rw[T8] at h1;have:4*q.length*4^ n=q.length*(4^ n*4):=by rw[FD 4,Nat.mul_assoc,FD 4]
     omega
    .rw[h2,gN.go,h3]
 .rintro l L ⟨q,a,c,hl,hL,h1⟩;refine aj ?_;refine W.le ?_ hl hL;clear hl hL;rw[h1];(refine' cO)
  (refine' fq)<;>rfl
end Go.Pl
