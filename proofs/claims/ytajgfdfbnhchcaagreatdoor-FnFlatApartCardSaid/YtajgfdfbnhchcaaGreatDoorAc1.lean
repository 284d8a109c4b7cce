/- Lemmas of the proof. No conditions. -/
import Derived.Test.YtajgfdfbnhchcaaGreatDoorAb
set_option maxRecDepth 100000
set_option maxHeartbeats 4000000
set_option linter.unusedVariables false
set_option linter.unusedSimpArgs false
open Go.Proofs.Tryz
namespace Go
theorem zaD{P:Prop}(h:P:=by
 all_goals first|(exfalso;simp_all;done)|skip
 all_goals(refine' ax)
 all_goals(rcases(_:_)with h;exact h)):P:=h
theorem zaV{P:Prop}(h:P:=by
 have:t.depth.toNat=0\/t.depth.toNat=1\/t.depth.toNat=2:=by rw[h.dp];omega
 rcases this with hh|hh|hh<;>rw[hh] at h3<;>simp at h3<;>omega
 all_goals(rcases(_:_)with h;exact h)):P:=h
theorem za2{P:Prop}(h:P:=by
 obtain⟨hr,hm⟩:=(jY.rd (L:=L) hh).row h2;obtain⟨_,⟨rfl,hc|⟨b',o,q,hc,_⟩⟩|⟨b',o,c,e,w,hc,h3,h4,h5⟩⟩:=hr
 all_goals(rcases(_:_)with h;exact h)):P:=h
theorem zba{P:Prop}(h:P:=by
 cases hb:bL z.af x.af with
 |true=>rfl
 |false=>exact absurd (lI _ _ hb (by simpa using du)) (hn z iV)
 all_goals(rcases(_:_)with h;exact h)):P:=h
end Go
namespace Go.Pl
open Go Go.Ev Go.Lg Go.Proofs
section
structure Hid (P:Prop):Prop where
 out:P
theorem W.ag7 {E:dA}{X:dM}{Γ:ij}{l:Kn}{L:List It}{Q:Aq}{id:Nat}{aB:List Oper}(h:∀nx,(∀y∈L,∀i∈y.aY,i<nx)->Γ.s0.next<=nx->Hid (L.flatMap It.aY).Nodup->WD E X Γ aB aB 0 [] nx l L (Q .normal)):W E X Γ (.region id ⟨aB⟩ true) l L Q:=λtm s h1 h2=>W.draw (λnx a b=>h nx a b ⟨h2.nd⟩) tm s h1 h2
theorem K9 {A:List Nat}{n n' mask:Nat}{seen:List Sn}{P:Prop}{k:Nat}{R':Fp}(h:kY n mask (λi=>i∈A\/i∈([]:List It).flatMap It.aY\/(n<=i/\i<n')) (λi=>i∈([]:List It).flatMap It.aY\/(n<=i/\i<n')) seen/\P):
  kY n mask (λi=>i∈A\/i∈([]:List It).flatMap It.aY\/(n<=i/\i<n')) (λi=>i∈([]:List It).flatMap It.aY\/(n<=i/\i<n')) (⟨k,R',Z⟩::seen)/\P:=
 ⟨⟨.inr ⟨λ_ _ h=>h.elim,λb hb _ hw=>by simp at hw;omega⟩,h.1⟩,h.2⟩
variable {P:Prop}
theorem rO (h:P:=by first|(exfalso;omega;done)|contradiction|(exfalso;simp_all;done)|fail):P:=h
theorem NH (h:P:=by first|(exfalso;omega;done)|contradiction|(exfalso;simp_all;done)|(exfalso;simp_all;omega)|fail):P:=h
theorem pq (h:P:=by first|(exfalso;omega;done)|fail):P:=h
theorem cM (h:P:=by first|(exfalso;omega;done)|contradiction|fail):P:=h
theorem gP (h:P:=by(first|((first|exact Ev.tmp rfl|exact Ev.const|exact Ev.func);done)|fail)):P:=h
theorem aE (h:P:=by(first|((repeat(first|exact kL.nil|(apply kL.cons;constructor<;>exact rfl)));done)|fail)):P:=h
theorem amP (h:P:=by(first|((repeat(first|exact Sy.nil|(apply Sy.cons;constructor<;>exact rfl)));done)|fail)):P:=h
theorem yT (h:P:=by(first|((repeat(first|exact EvE.nil|(apply EvE.cons;constructor<;>exact rfl;exact rfl)));done)|fail)):P:=h
theorem rG (h:P:=by(first|((repeat(first|exact iV|apply lu));done)|fail)):P:=h
theorem aav (h:P:=by(first|((repeat(first|exact Om.here|apply Om.there));done)|fail)):P:=h
theorem xy (h:P:=by(first|((repeat(first|exact yQ.here|apply yQ.there));done)|fail)):P:=h
theorem bk (h:P:=by(first|((repeat(first|exact Le.nil _|refine Le.cons (by exact rfl) ?_));done)|fail)):P:=h
theorem au (h:P:=by(first|((repeat(first|exact cz.nil _|refine cz.cons (by(repeat(first|exact Om.here|apply Om.there))) ?_));done)|fail)):P:=h
theorem cg (h:P:=by(first|((first|exact jY.rd (by assumption)|exact jY.aN (by(repeat(first|exact iV|apply lu)))|exact jY.akD (by assumption) (by(repeat(first|exact iV|apply lu)))|exact jY.box (by(repeat(first|exact iV|apply lu))) rfl (by first|rfl|(rw[bh];done)|simp));done)|fail)):P:=h
theorem eC (h:P:=by(first|((exact re.mk cg cg cg);done)|fail)):P:=h
theorem ey (h:P:=by(first|((repeat(first|exact oO.nil|(apply oO.cons;exact aav)));done)|fail)):P:=h
theorem mO (h:P:=by(first|((first|omega|(simp only[bJ,cY,mJ];omega)|(simp;done)|(simp;omega)|(simp at *;omega));done)|fail)):P:=h
theorem qbt (h:P:=by(first|((first|exact rfl|assumption);done)|fail)):P:=h
theorem bn (h:P:=by(first|((repeat(first|exact qi.nil|(apply qi.tmp;exact rfl)|(apply qi.cell;(focus infer_instance);exact rfl;(focus(repeat(first|exact iV|apply lu)));exact rfl)|(apply qi.acb;(focus infer_instance);exact rfl;(focus(repeat(first|exact iV|apply lu)));exact rfl)));done)|fail)):P:=h
theorem ia (h:P:=by(first|((exact Wn.mk cg cg);done)|fail)):P:=h
theorem uc (h:P:=by(first|((exact La.mk cg (re.mk cg cg cg));done)|fail)):P:=h
theorem acg (h:P:=by(first|((exact aaw.mk (re.mk cg cg cg) cg cg);done)|fail)):P:=h
theorem bB (h:P:=by(first|((first|exact .inl rfl|exact .inr rfl);done)|fail)):P:=h
theorem qac (h:P:=by(first|((intro b_ _ h1_ FI;(try dsimp only at h1_ FI);first|exact h1_.elim|exact FI.elim|omega|(simp only[iR,qQ,wx,iY,aj,gR] at h1_ FI;omega)|((first|have Wo:=Rd.lt (by assumption) _ FI|have Wo:=sy.lt (by assumption) _ FI);dsimp only at Wo;(try simp only[iR,qQ,wx,iY,aj,gR] at h1_);omega)|((first|have Wo:=Rd.lt (by assumption) _ h1_|have Wo:=sy.lt (by assumption) _ h1_);dsimp only at Wo;(try simp only[iR,qQ,wx,iY,aj,gR] at FI);omega)|(have FJ:=BS.out;(try dsimp only[kg,eO,List.append,List.cons_append,List.nil_append] at FJ);(try simp only[mo,qQ,It.aY,tC,tT,BI,pT,ix,uA,qP,bR,eX,not_or,iR,iY,Kh,CE,Ka,z6] at FJ);first|(simp only[iR,qQ,wx,iY,aj,gR] at h1_ FI;omega)|(subst h1_;first|(exact absurd FI (by simp only[FJ,Kh]))|(simp_all;done))|(subst FI;first|(exact absurd h1_ (by simp only[FJ,Kh]))|(simp_all;done))|(simp_all;done))|(rcases FI with FI|FI<;>first|((first|have Wo:=Rd.lt (by assumption) _ FI|have Wo:=sy.lt (by assumption) _ FI);dsimp only at Wo;(try simp only[iR,mo,qQ,ix,tT,It.aY,wx,iY,aj,gR,bR] at h1_);omega)|((try simp only[iR,mo,qQ,ix,tT,It.aY,wx,iY,aj,gR,bR] at h1_ FI);omega)|(have FJ:=BS.out;(try dsimp only[kg,eO,cv,dN,List.append,List.cons_append,List.nil_append] at FJ);(try simp only[mo,qQ,It.aY,tC,tT,BI,pT,ix,uA,qP,bR,eX,not_or,iR,iY,Kh,CE,Ka,z6] at FJ);(try simp only[iR,mo,qQ,ix,tT,It.aY,wx,iY,aj,gR,bR] at h1_ FI);first|omega|(subst h1_;simp_all;done)|(subst FI;simp_all;done)))|(rcases h1_ with h1_|h1_<;>first|((first|have Wo:=Rd.lt (by assumption) _ h1_|have Wo:=sy.lt (by assumption) _ h1_);dsimp only at Wo;(try simp only[iR,mo,qQ,ix,tT,It.aY,wx,iY,aj,gR,bR] at FI);omega)|((try simp only[iR,mo,qQ,ix,tT,It.aY,wx,iY,aj,gR,bR] at h1_ FI);omega)|(have FJ:=BS.out;(try dsimp only[kg,eO,cv,dN,List.append,List.cons_append,List.nil_append] at FJ);(try simp only[mo,qQ,It.aY,tC,tT,BI,pT,ix,uA,qP,bR,eX,not_or,iR,iY,Kh,CE,Ka,z6] at FJ);(try simp only[iR,mo,qQ,ix,tT,It.aY,wx,iY,aj,gR,bR] at h1_ FI);first|omega|(subst h1_;simp_all;done)|(subst FI;simp_all;done))));done)|fail)):P:=h
theorem ax (h:P:=by(first|(refine⟨by(first|exact .inl rfl|exact .inr rfl),_,[],bn,cz.nil _,?_,rfl⟩;all_goals(rcases(_:_)with h;exact h))|fail)):P:=h
theorem fp (h:P:=by(first|((apply GR;exact bB;exact bn;exact au);all_goals(rcases(_:_)with h;exact h))|fail)):P:=h
theorem ach (h:P:=by(first|((apply akF;exact bB;exact bn;(focus(first|assumption|exact Sub.all));(focus(first|assumption|exact Part.refl));exact au);all_goals(rcases(_:_)with h;exact h))|fail)):P:=h
theorem lN (h:P:=by(first|((apply akz;exact bB;exact bn;exact au);all_goals(rcases(_:_)with h;exact h))|fail)):P:=h
theorem amv (h:P:=by(first|((apply Lb;exact bB;exact bn;exact au);all_goals(rcases(_:_)with h;exact h))|fail)):P:=h
theorem aci (h:P:=by(first|((apply mP;exact bB;exact bn;exact au);all_goals(rcases(_:_)with h;exact h))|fail)):P:=h
theorem akK (h:P:=by(first|((apply amw;exact bB;exact bn;exact au);all_goals(rcases(_:_)with h;exact h))|fail)):P:=h
theorem dW (h:P:=by(first|((apply qK;exact bB;exact bn;exact au);all_goals(rcases(_:_)with h;exact h))|fail)):P:=h
theorem acj (h:P:=by(first|((apply akL;exact bB;exact bn;exact au);all_goals(rcases(_:_)with h;exact h))|fail)):P:=h
theorem Wp (h:P:=by(first|((apply ag8;exact bB;exact bn;exact au);all_goals(rcases(_:_)with h;exact h))|fail)):P:=h
theorem amx (h:P:=by(first|((apply ag9;exact bB;exact bn;exact au);all_goals(rcases(_:_)with h;exact h))|fail)):P:=h
theorem ack (h:P:=by(first|((apply akM;exact bB;exact bn;exact au);all_goals(rcases(_:_)with h;exact h))|fail)):P:=h
theorem ad5 (h:P:=by(first|((apply qK (v':=SA.mk v.r v.rc v.f v.fc v.l v.lc v.g v.gc Wq Ws);exact bB;exact bn;exact au);all_goals(rcases(_:_)with h;exact h))|fail)):P:=h
theorem ad6 (h:P:=by(first|((apply qK (v':=SA.mk v.r v.rc v.f v.fc v.l v.lc Wq Ws v.d v.dc);exact bB;exact bn;exact au);all_goals(rcases(_:_)with h;exact h))|fail)):P:=h
theorem aw (h:P:=by(first|((first|((with_reducible apply WO.lit);exact yT;exact rfl;exact rfl;intro bl _)|((with_reducible apply WO.lit (α:=jt) (xs:=[⟨_,_,_,_,_⟩]));exact yT;exact rfl;exact rfl;intro bl _)|((with_reducible apply WO.lit (α:=aZ) (xs:=[⟨_,_⟩]));exact yT;exact rfl;exact rfl;intro bl _)|((with_reducible apply WO.lit (α:=a6) (xs:=[⟨_,_⟩]));exact yT;exact rfl;exact rfl;intro bl _)|((with_reducible apply WO.lit (α:=bC) (xs:=[⟨_,_,_⟩]));exact yT;exact rfl;exact rfl;intro bl _)|((with_reducible apply WO.lit (α:=Op) (xs:=[⟨_,_,_,_,_⟩]));exact yT;exact rfl;exact rfl;intro bl _)|((with_reducible apply WO.aax);exact gP;exact gP;exact aav;exact cg;assumption;(focus(omega;done));intro _ _ Wq Ws _ _ _)|((with_reducible apply WO.QA);exact gP;exact gP;exact aav;exact cg;exact mO;intro _ _ Wq Ws _ _ _)|((with_reducible apply WO.agV);exact gP;exact gP;exact rG;exact mO;intro _ Lc Ld GV Oy)|((with_reducible apply WO.agW);exact gP;exact gP;exact rG;exact mO;intro _ Lc Ld GV Oy)|((with_reducible apply WO.agX);exact gP;exact gP;exact gP;exact rG;exact mO;intro _ Lc Ld GV Oy)|((with_reducible apply WO.agY);exact gP;exact gP;assumption;assumption;exact rG;exact mO;exact mO;intro _ Lc Ld GV Oy)|((with_reducible apply WO.agZ);exact gP;exact gP;assumption;assumption;exact mO;intro _ Lc Ld GV)|((with_reducible apply WO.ag0);exact gP;exact gP;assumption;assumption;exact mO;intro _ Lc Ld GV));all_goals(rcases(_:_)with h;exact h))|fail)):P:=h
theorem a7 (h:P:=by(first|((repeat1' (first|(with_reducible refine W.seq ?_)|(with_reducible refine W.block ?_)|(with_reducible refine W.region ?_)|(with_reducible refine aq ?_)|(with_reducible refine dH ?_)|(with_reducible refine WS.nil ?_)|(with_reducible refine WD.nil ?_)|(with_reducible refine ws ?_)|(with_reducible refine ws0 ?_)|(with_reducible refine wd ?_)|(with_reducible refine wd0 ?_)|(with_reducible refine W.skip ?_)|(with_reducible refine W.exit ?_)|(with_reducible refine W.ret ?_)|(with_reducible refine Oq ?_)|(with_reducible refine kb ?_)|(with_reducible refine iN ?_)|(with_reducible refine Bh ?_)|(with_reducible refine afQ rfl ?_)|(with_reducible refine eB ?_)|(with_reducible refine ke ?_)|(with_reducible refine Ou ?_)|(with_reducible refine aha rfl ?_)|(with_reducible refine aan ?_)|(with_reducible refine SE ?_)|(with_reducible refine SD ?_)|(with_reducible refine K2 ?_)|(with_reducible refine Ot ?_)|(with_reducible refine K0 ?_)|(with_reducible refine K9 ?_)|(with_reducible refine I0 (by decide+kernel) ?_)|((with_reducible refine W.ag7 ?_);intro nx hold hn_ BS;(try dsimp only at hn_);(try dsimp only[kg,eO,List.append,List.cons_append,List.nil_append] at hold);(try simp only[bR,forall_eq_or_imp,iR,false_imp_iff,implies_true,z6,It.aY,gR,forall_eq,tC] at hold))|(intro e_;subst e_)|((with_reducible refine V4 ?_ ?_ ?_);exact qac;exact qac)|((with_reducible apply aks);exact rfl;exact rfl;(focus((first|exact rfl|assumption);done)))|((with_reducible apply akt);exact rfl;exact rfl;(focus((first|exact rfl|assumption);done)))|((with_reducible apply aku);exact rfl;exact rfl;(focus((first|exact rfl|assumption);done)))|((with_reducible apply akv);exact rfl;exact rfl;(focus((first|exact rfl|assumption);done)))|((with_reducible apply akA);exact rfl;exact rfl)|((with_reducible apply akB);exact rfl;exact rfl)|((with_reducible apply WO.move);constructor<;>exact rfl;intro _)|((with_reducible apply WO.assign);constructor<;>exact rfl;intro _)|((with_reducible apply WO.load);constructor<;>exact rfl;exact rG;exact rfl;intro _)|((with_reducible apply WO.agJ);constructor<;>exact rfl;exact rG;exact rfl;intro _)|((with_reducible apply WO.ad7);constructor<;>exact rfl;assumption;exact rfl;intro _)|((with_reducible apply WO.Wt);constructor<;>exact rfl;assumption;exact rfl;intro _)|((with_reducible apply WO.nilCheck);constructor<;>exact rfl;intro _)|((with_reducible apply WO.fieldAddr);constructor<;>exact rfl;intro _)|((with_reducible apply WO.store);constructor<;>exact rfl;constructor<;>exact rfl;exact rfl;exact rfl;exact xy;exact rfl;intro _)|((with_reducible apply WO.ahb);constructor<;>exact rfl;constructor<;>exact rfl;intro _)|((with_reducible apply WO.ahc);constructor<;>exact rfl;constructor<;>exact rfl;intro _)|((with_reducible apply WO.ahc (p:=bq));constructor<;>exact rfl;constructor<;>exact rfl;intro _)|((with_reducible apply WO.ahb (p:=bq));constructor<;>exact rfl;constructor<;>exact rfl;intro _)|((with_reducible apply WO.QH);constructor<;>exact rfl;exact xy;constructor<;>exact rfl;exact mO;intro _)|((with_reducible apply WO.QH (q:=bq));constructor<;>exact rfl;exact xy;constructor<;>exact rfl;exact mO;intro _)|((with_reducible apply WO.storeT);constructor<;>exact rfl;constructor<;>exact rfl;exact xy;exact rfl;exact mO;intro _)|((with_reducible apply WO.akl);constructor<;>exact rfl;intro _)|((with_reducible apply WO.akm);constructor<;>exact rfl;intro _)|((with_reducible apply WO.lss);constructor<;>exact rfl;constructor<;>exact rfl;intro _)|((with_reducible apply WO.leq);constructor<;>exact rfl;constructor<;>exact rfl;intro _)|((with_reducible apply WO.gtr);constructor<;>exact rfl;constructor<;>exact rfl;intro _)|((with_reducible apply WO.geq);constructor<;>exact rfl;constructor<;>exact rfl;intro _)|((with_reducible apply WO.eql);constructor<;>exact rfl;constructor<;>exact rfl;intro _)|((with_reducible apply WO.neq);constructor<;>exact rfl;constructor<;>exact rfl;intro _)|((with_reducible apply WO.aki);constructor<;>exact rfl;constructor<;>exact rfl;intro _)|((with_reducible apply WO.akj);constructor<;>exact rfl;constructor<;>exact rfl;intro _)|((with_reducible apply WO.amQ);constructor<;>exact rfl;constructor<;>exact rfl;intro _)|((with_reducible apply WO.akk);constructor<;>exact rfl;constructor<;>exact rfl;intro _)|((with_reducible apply WO.akw);constructor<;>exact rfl;constructor<;>exact rfl;intro _)|((with_reducible apply WO.akx);constructor<;>exact rfl;constructor<;>exact rfl;intro _)|((with_reducible apply WO.not);constructor<;>exact rfl;intro _)|((with_reducible apply WO.extract);constructor<;>exact rfl;exact rfl;intro _)|((with_reducible apply WO.agG);constructor<;>exact rfl;(focus((first|exact rfl|assumption);done));constructor<;>exact rfl;intro _)|((with_reducible apply WO.agH);constructor<;>exact rfl;(focus((first|exact rfl|assumption);done));constructor<;>exact rfl;intro _)|((with_reducible apply WO.add);constructor<;>exact rfl;constructor<;>exact rfl;(focus((constructor<;>omega);done));intro _)|((with_reducible apply WO.sub);constructor<;>exact rfl;constructor<;>exact rfl;(focus((constructor<;>omega);done));intro _)|((with_reducible apply WO.mul);constructor<;>exact rfl;constructor<;>exact rfl;(focus((constructor<;>omega);done));intro _)|((with_reducible apply WO.akh);constructor<;>exact rfl;constructor<;>exact rfl;exact mO;intro _)|((with_reducible apply WO.quo);constructor<;>exact rfl;constructor<;>exact rfl;(focus((first|decide|omega);done));(focus((constructor<;>omega);done));intro _)|((with_reducible apply WO.rem);constructor<;>exact rfl;constructor<;>exact rfl;(focus((first|decide|omega);done));intro _)|((with_reducible apply WO.akn);constructor<;>exact rfl;intro bx _)|((with_reducible apply WO.ako);constructor<;>exact rfl;exact rfl;intro bx _)|((with_reducible apply WO.alloc);intro ba _)|((with_reducible apply WO.V7);constructor<;>exact rfl;constructor<;>exact rfl;exact mO;intro _)|((with_reducible apply WO.V8);constructor<;>exact rfl;constructor<;>exact rfl;exact mO;intro _)|((with_reducible apply WO.IZ);constructor<;>exact rfl;(focus((first|exact .inl ⟨rfl,rfl⟩|exact .inr ⟨_,_,rfl,.tmp rfl⟩|exact .inr ⟨_,_,rfl,.const⟩);done));(focus((first|exact .inl ⟨rfl,rfl⟩|exact .inr ⟨_,_,rfl,.tmp rfl⟩|exact .inr ⟨_,_,rfl,.const⟩);done));exact mO;exact mO;intro _)|((with_reducible apply WO.index);constructor<;>exact rfl;constructor<;>exact rfl;exact mO;intro _)|((with_reducible apply WO.xv);constructor<;>exact rfl;(focus((first|exact(rfl:_=((0:Nat):Int))|exact(rfl:_=((1:Nat):Int))|exact(rfl:_=((2:Nat):Int))|exact(rfl:_=((3:Nat):Int))|exact(rfl:_=((4:Nat):Int))|exact(rfl:_=((5:Nat):Int))|exact(rfl:_=((6:Nat):Int))|exact(rfl:_=((7:Nat):Int)));done));exact cg;exact mO;intro _)|((with_reducible apply WO.indexAddr);constructor<;>exact rfl;constructor<;>exact rfl;exact cg;exact mO;intro _)|((with_reducible apply WO.Ov);constructor<;>exact rfl;constructor<;>exact rfl;exact cg;exact mO;intro _)|((with_reducible apply WO.adV);constructor<;>exact rfl;constructor<;>exact rfl;exact mO;intro _)|((with_reducible apply WO.aao);constructor<;>exact rfl;constructor<;>exact rfl;exact mO;intro _)|((with_reducible apply WO.aap);constructor<;>exact rfl;constructor<;>exact rfl;exact mO;intro _)|((with_reducible apply WO.aaq);constructor<;>exact rfl;constructor<;>exact rfl;constructor<;>exact rfl;exact mO;intro _)|((with_reducible apply WO.Ol);constructor<;>exact rfl;exact cg;exact mO;intro _)|((with_reducible apply WO.agK);constructor<;>exact rfl;exact cg;exact mO;exact rfl;intro _)|((with_reducible apply WO.adO);constructor<;>exact rfl;exact cg;exact mO;intro _)|((with_reducible apply WO.amR);constructor<;>exact rfl;constructor<;>exact rfl;(focus((constructor<;>omega);done));intro _)|((with_reducible apply WO.aky);constructor<;>exact rfl;constructor<;>exact rfl;(focus((constructor<;>omega);done));intro _)|((with_reducible apply WO.agS);constructor<;>exact rfl;(focus((constructor<;>omega);done));intro _)|((with_reducible apply WO.conv);constructor<;>exact rfl;(focus((first|exact wrap_u8 _|exact qh (by constructor<;>omega)|exact Au (by constructor<;>omega));done));intro _)|((with_reducible apply WO.str);(focus(exact λ_=>rfl;done));constructor<;>exact rfl;exact cg;intro _)|((with_reducible apply WO.bytes);(focus(exact λ_=>rfl;done));constructor<;>exact rfl;exact mO;intro _ _)|((with_reducible apply WO.make);constructor<;>exact rfl;constructor<;>exact rfl;exact mO;intro bm _ _)|((with_reducible apply WO.min);constructor<;>exact rfl;constructor<;>exact rfl;intro _)|((with_reducible apply WO.max);constructor<;>exact rfl;constructor<;>exact rfl;intro _)|((with_reducible apply WO.adU);(focus((repeat(first|exact Sy.nil|(apply Sy.cons;constructor<;>exact rfl)));done));exact rfl;intro _)|((with_reducible apply WO.ad8);constructor<;>exact rfl;exact rfl;intro _)|((with_reducible apply WO.xor);constructor<;>exact rfl;constructor<;>exact rfl;(focus(omega;done));(focus(omega;done));intro _)|((with_reducible apply WO.akN);constructor<;>exact rfl;constructor<;>exact rfl;(focus(omega;done));(focus(omega;done));intro _)|((with_reducible apply WO.ad9);constructor<;>exact rfl;exact rG;(focus((first|decide|(simp;done)|omega);done));(focus((first|decide|(simp;done)|omega);done));intro _)|((with_reducible apply WO.akC);constructor<;>exact rfl;constructor<;>exact rfl;intro _)|((fail_if_success have:=ns_);((with_reducible apply W.agP);constructor<;>exact rfl;(focus(first|exact rfl|assumption))))|((fail_if_success have:=ns_);((with_reducible apply W.agQ);constructor<;>exact rfl;(focus(first|exact rfl|assumption))))|((fail_if_success have:=ns_);(((with_reducible apply wsg);exact rfl;exact rfl)<;>(intro hg;(try(have um:=hg;simp only[bQ,mb,pU,CF,mS,bU,CG,F6,Ie,Ig,jR,wy,fR,Int.not_lt,Int.not_le,zZ] at um)))))|((fail_if_success have:=ns_);(((with_reducible apply wdg);exact rfl;exact rfl)<;>(intro hg;(try(have um:=hg;simp only[bQ,mb,pU,CF,mS,bU,CG,F6,Ie,Ig,jR,wy,fR,Int.not_lt,Int.not_le,zZ] at um)))))|((fail_if_success have:=ns_);(((with_reducible apply W.cond);constructor<;>exact rfl)<;>(intro hc;(try(have j3:=hc;simp only[bQ,mb,pU,CF,mS,bU,CG,F6,Ie,Ig,jR,wy,fR,Int.not_lt,Int.not_le,zZ] at j3)))))|fail));all_goals(rcases(_:_)with h;exact h))|fail)):P:=h
theorem xz (h:P:=by(first|((have ns_:=True.intro;(refine' a7);all_goals clear ns_);all_goals(rcases(_:_)with h;exact h))|fail)):P:=h
theorem NI (h:P:=by(first|(((with_reducible apply WO.bI);exact aE;(first|exact λs=>aay s _ _ _);intro _ _ _ _);all_goals(rcases(_:_)with h;exact h))|fail)):P:=h
theorem zc3 (h:P:=by(first|(((with_reducible apply WO.bI);exact aE;(first|exact λs=>Wu s _);intro _ _ _ _);all_goals(rcases(_:_)with h;exact h))|fail)):P:=h
theorem SK (h:P:=by(first|(((with_reducible apply WO.bI);exact aE;(first|exact λs=>Lf s _|exact λs=>Lf s ⟨_,_,_,_,_⟩);intro _ _ _ _);all_goals(rcases(_:_)with h;exact h))|fail)):P:=h
theorem GW (h:P:=by(first|(((with_reducible apply WO.bI);exact aE;(first|exact λs=>xA s _|exact λs=>xA s ⟨_,_,_,_,_⟩);intro _ _ _ _);all_goals(rcases(_:_)with h;exact h))|fail)):P:=h
theorem aaz (h:P:=by(first|(((with_reducible apply WO.bI);exact aE;(first|exact λs=>SL s _ ag);intro _ _ _ _);all_goals(rcases(_:_)with h;exact h))|fail)):P:=h
theorem Wv (h:P:=by(first|(((with_reducible apply WO.I1);exact aE;(first|exact λs=>uX s _ 46 ag|exact λs=>uX s _ 44 ag|exact λs=>uX s _ 47 ag|exact λs=>uX s _ 59 ag|exact λs=>uX s _ 61 ag);intro _ _ vE vF _ _);all_goals(rcases(_:_)with h;exact h))|fail)):P:=h
theorem ahd (h:P:=by(first|(((with_reducible apply WO.bI);exact aE;(first|exact λs=>GX s _|exact λs=>GX s ⟨_,_,_,_,_⟩);intro _ _ _ _);all_goals(rcases(_:_)with h;exact h))|fail)):P:=h
theorem aaA (h:P:=by(first|(((with_reducible apply WO.bI);exact aE;(first|exact λs=>SM s _ ag);intro _ _ _ _);all_goals(rcases(_:_)with h;exact h))|fail)):P:=h
theorem ahe (h:P:=by(first|(((with_reducible apply WO.l8);exact aE;(first|exact λs hr=>I5 s _ _ _ ag (by assumption) hr);exact cg;intro _ _ _ _);all_goals(rcases(_:_)with h;exact h))|fail)):P:=h
theorem ahf (h:P:=by(first|(((with_reducible apply WO.l8);exact aE;(first|exact λs hr=>SN s _ _ _ ag (by assumption) hr);exact cg;intro _ _ _ _);all_goals(rcases(_:_)with h;exact h))|fail)):P:=h
theorem SO (h:P:=by(first|(((with_reducible apply WO.adX);exact aE;(first|exact λs=>Lh s _ ag ag (by assumption));intro _ _ Dt Du Li Bj Lj acm acn _ _);all_goals(rcases(_:_)with h;exact h))|fail)):P:=h
theorem aea (h:P:=by(first|(((with_reducible apply WO.bI);exact aE;(first|exact λs=>SP s _ ag);intro _ _ _ _);all_goals(rcases(_:_)with h;exact h))|fail)):P:=h
theorem wo (h:P:=by(first|(((with_reducible apply WO.akH);(exact Ev.tmp rfl);exact aE;(dsimp only[List.map,List.nil_append,List.append_nil,List.cons_append]));all_goals(rcases(_:_)with h;exact h))|fail)):P:=h
theorem ahg (h:P:=by(first|(((with_reducible apply WO.l8);exact aE;(first|exact λs hr=>aeb s _ _ _ (by assumption) ag _ hr);exact cg;intro _ _ _ _);all_goals(rcases(_:_)with h;exact h))|fail)):P:=h
theorem ahh (h:P:=by(first|(((with_reducible apply WO.l8);exact aE;(first|exact λs hr=>aec s _ _ _ (by assumption) ag _ hr);exact cg;intro _ _ _ _);all_goals(rcases(_:_)with h;exact h))|fail)):P:=h
theorem aed (h:P:=by(first|(((with_reducible apply WO.bI);exact aE;(first|exact λs=>Dv s _ _ ag|exact λs=>Dv s ⟨_,_,_,_,_⟩ _ ag);intro _ _ _ _);all_goals(rcases(_:_)with h;exact h))|fail)):P:=h
theorem aee (h:P:=by(first|(((with_reducible apply WO.I1);exact aE;(first|exact λs=>Oz s _ ag);intro _ _ afR afS _ _);all_goals(rcases(_:_)with h;exact h))|fail)):P:=h
theorem Ax (h:P:=by(first|(((with_reducible apply WO.mj);exact aE;(first|exact λs hr=>GY s _ _ (by assumption) _ (by assumption) hr|exact λs hr=>GY s _ _ (by assumption) ⟨_,_,_,_,_⟩ (by assumption) hr);exact eC;intro _ _ _ _);all_goals(rcases(_:_)with h;exact h))|fail)):P:=h
theorem aaB (h:P:=by(first|(((with_reducible apply WO.tD);exact aE;(first|exact λs hr=>Dw s _ _ (by assumption) _ _ hr|exact λs hr=>Dw s _ _ (by assumption) ⟨_,_,_,_,_⟩ _ hr);exact eC;intro _ _ GZ G1 _ _);all_goals(rcases(_:_)with h;exact h))|fail)):P:=h
theorem ahi (h:P:=by(first|(((with_reducible apply WO.tD);exact aE;(first|exact λs hr=>uY s _ _ (by assumption) _ (by assumption) hr|exact λs hr=>uY s _ _ (by assumption) ⟨⟨_,_,_,_,_⟩,_,_⟩ (by assumption) hr);exact eC;intro _ _ aef aeg _ _);all_goals(rcases(_:_)with h;exact h))|fail)):P:=h
theorem Dx (h:P:=by(first|(((with_reducible apply WO.Ay);exact aE;(first|exact λs hr=>G2 s _ _ (by assumption) _ (by assumption) hr|exact λs hr=>G2 s _ _ (by assumption) ⟨⟨_,_,_,_,_⟩,_,_⟩ (by assumption) hr);exact eC;intro _ _ Lk Ll _ _);all_goals(rcases(_:_)with h;exact h))|fail)):P:=h
theorem Ww (h:P:=by(first|(((with_reducible apply WO.bI);exact aE;(first|exact λs=>OA s _);intro _ _ _ _);all_goals(rcases(_:_)with h;exact h))|fail)):P:=h
theorem OB (h:P:=by(first|(((with_reducible apply WO.bI);exact aE;(first|exact λs=>G3 s _|exact λs=>G3 s ⟨_,_,_,⟨⟨_,_,_,_,_⟩,_,_⟩⟩);intro _ _ _ _);all_goals(rcases(_:_)with h;exact h))|fail)):P:=h
theorem ahj (h:P:=by(first|(((with_reducible apply WO.bI);exact aE;(first|exact λs=>Dy s _|exact λs=>Dy s ⟨_,_,_,⟨⟨_,_,_,_,_⟩,_,_⟩⟩);intro _ _ _ _);all_goals(rcases(_:_)with h;exact h))|fail)):P:=h
theorem aeh (h:P:=by(first|(((with_reducible apply WO.Ay);exact aE;(first|exact λs hr=>Dz s _ _ (by assumption) _ (by assumption) hr|exact λs hr=>Dz s _ _ (by assumption) ⟨⟨_,_,_,_,_⟩,_,_⟩ (by assumption) hr);exact eC;intro _ _ gx gy _ _);all_goals(rcases(_:_)with h;exact h))|fail)):P:=h
theorem SQ (h:P:=by(first|(((with_reducible apply WO.rH);exact aE;(intro s hr;exact ku s hr);(exact uZ.mk cg cg cg);intro _ _ _ _);all_goals(rcases(_:_)with h;exact h))|fail)):P:=h
theorem aaC (h:P:=by(first|(((with_reducible apply WO.aaD);exact gP;exact cg;exact mO;intro _);all_goals(rcases(_:_)with h;exact h))|fail)):P:=h
theorem ahk (h:P:=by(first|(((with_reducible apply WO.bI);exact aE;(first|exact λs=>Wx s _ ag);intro _ _ _ _);all_goals(rcases(_:_)with h;exact h))|fail)):P:=h
theorem qL (h:P:=by(first|(((with_reducible apply WO.rH);exact aE;(intro s hr;exact I6 s _ hr);(exact uZ.mk cg cg cg);intro _ _ _ _);all_goals(rcases(_:_)with h;exact h))|fail)):P:=h
theorem ahl (h:P:=by(first|(((with_reducible apply WO.Wd);exact gP;exact gP;intro _);all_goals(rcases(_:_)with h;exact h))|fail)):P:=h
theorem ahm (h:P:=by(first|(((with_reducible apply WO.aaE);exact gP;exact gP;exact cg;exact mO;intro _);all_goals(rcases(_:_)with h;exact h))|fail)):P:=h
theorem SR (h:P:=by(first|(((with_reducible apply WO.bI);exact aE;(first|exact λs=>SS s _ _ _);intro _ _ _ _);all_goals(rcases(_:_)with h;exact h))|fail)):P:=h
theorem aaF (h:P:=by(first|(((with_reducible apply WO.Wt);exact gP;assumption;exact rfl;intro _);all_goals(rcases(_:_)with h;exact h))|fail)):P:=h
theorem yU (h:P:=by(first|(((with_reducible apply WO.invoke);exact gP;(first|exact G4|exact Ln|exact I7|exact OC|exact SU);exact aE;(dsimp only[List.map]));all_goals(rcases(_:_)with h;exact h))|fail)):P:=h
theorem aei (h:P:=by(first|(((with_reducible apply WO.rH);exact aE;(intro s hr;exact hrm s hr);(exact uZ.mk cg cg cg);intro _ _ _ _);all_goals(rcases(_:_)with h;exact h))|fail)):P:=h
theorem Wy (h:P:=by(first|(((with_reducible apply WO.bI);exact aE;(first|exact λs=>DB s _ (by assumption));intro _ _ _ _);all_goals(rcases(_:_)with h;exact h))|fail)):P:=h
theorem Wz (h:P:=by(first|(((with_reducible apply WO.aaG);exact gP;(exact G4);intro _);all_goals(rcases(_:_)with h;exact h))|fail)):P:=h
theorem yV (h:P:=by(first|(((with_reducible apply WO.makeFunc);exact aE;exact aE;intro _);all_goals(rcases(_:_)with h;exact h))|fail)):P:=h
theorem Lo (h:P:=by(first|(((with_reducible apply WO.rH);exact aE;(intro s hr;exact tE s _ (hV.th _ ag) hr);(exact uZ.mk cg cg cg);intro _ _ _ _);all_goals(rcases(_:_)with h;exact h))|fail)):P:=h
theorem aaH (h:P:=by(first|(((with_reducible apply WO.rH);exact aE;(intro s hr;exact VP s _ hr);(exact uZ.mk cg cg cg);intro _ _ _ _);all_goals(rcases(_:_)with h;exact h))|fail)):P:=h
theorem akO (h:P:=by(first|(((with_reducible apply WO.WA);exact aE;(intro s hr;exact uG s _ hr);(exact OD.mk (uZ.mk cg cg cg) cg cg);intro _ _ _ _);all_goals(rcases(_:_)with h;exact h))|fail)):P:=h
theorem ahn (h:P:=by(first|(((with_reducible apply WO.bI);exact aE;(first|exact λs=>FK s _ _ ⟨by assumption,by assumption,by assumption,by assumption⟩);intro _ _ _ _);all_goals(rcases(_:_)with h;exact h))|fail)):P:=h
theorem OE (h:P:=by(first|(((with_reducible apply WO.mj);exact aE;(first|exact λs hr=>QI s _ _ (by assumption) _ hr|exact λs hr=>QI s _ _ (by assumption) ⟨⟨_,_,_,_,_⟩,_,_⟩ hr);exact eC;intro _ _ _ _);all_goals(rcases(_:_)with h;exact h))|fail)):P:=h
theorem aho (h:P:=by(first|(((with_reducible apply WO.bI);exact aE;(first|exact λs=>OF s _ _ ag ag);intro _ _ _ _);all_goals(rcases(_:_)with h;exact h))|fail)):P:=h
theorem Lp (h:P:=by(first|(((with_reducible apply WO.bI);exact aE;(first|exact λs=>Lq s _ ag);intro _ _ _ _);all_goals(rcases(_:_)with h;exact h))|fail)):P:=h
theorem akP (h:P:=by(first|(((with_reducible apply WO.l8);exact aE;(first|exact λs hr=>uG s _ hr);exact cg;intro _ _ _ _);all_goals(rcases(_:_)with h;exact h))|fail)):P:=h
theorem aaI (h:P:=by(first|(((with_reducible apply WO.WB);exact aE;(intro s h1 h2;exact SV s h1 h2);exact cg;exact cg;intro _ _ _ _);all_goals(rcases(_:_)with h;exact h))|fail)):P:=h
theorem SX (h:P:=by(first|(((with_reducible apply WO.bI);exact aE;(first|exact λs=>UK s);intro _ _ _ _);all_goals(rcases(_:_)with h;exact h))|fail)):P:=h
theorem SY (h:P:=by(first|(((with_reducible apply WO.lit (α:=a6) (xs:=[_]));exact yT;exact rfl;exact rfl;intro bl _);all_goals(rcases(_:_)with h;exact h))|fail)):P:=h
theorem WC (h:P:=by(first|(((with_reducible apply WO.lit (α:=a6) (xs:=[⟨_,_⟩]));exact yT;exact rfl;exact rfl;intro bl _);all_goals(rcases(_:_)with h;exact h))|fail)):P:=h
theorem OG (h:P:=by(first|(((with_reducible apply WO.lit (α:=bC) (xs:=[_]));exact yT;exact rfl;exact rfl;intro bl _);all_goals(rcases(_:_)with h;exact h))|fail)):P:=h
theorem yW (h:P:=by(first|(((with_reducible apply WO.lit (α:=bC) (xs:=[⟨_,_,_⟩]));exact yT;exact rfl;exact rfl;intro bl _);all_goals(rcases(_:_)with h;exact h))|fail)):P:=h
theorem yX (h:P:=by(first|(((with_reducible apply WO.aej);exact aE;exact ey;exact mO;exact mO;(first|exact gX|assumption|(exact qG (by simp)));(first|exact gX|assumption|(exact qG (by simp)));exact mO;exact mO;(intro s;exact WE s _ _ _ _ _ _ _ _ (by(first|exact gX|assumption|(exact qG (by simp)))) (by(first|exact gX|assumption|(exact qG (by simp)))) mO mO);intro _ _ amS amT _ _ yY yZ y0 y1);all_goals(rcases(_:_)with h;exact h))|fail)):P:=h
theorem QJ (h:P:=by(first|(((with_reducible apply WO.ahp);exact gP;exact gP;exact xy;exact mO;intro _);all_goals(rcases(_:_)with h;exact h))|fail)):P:=h
theorem aco (h:P:=by(first|(((with_reducible apply WO.WG);exact aE;exact ey;exact rG;(intro s hr hm;exact aaJ s _ _ _ ag _ ⟨_,_,_,_,_⟩ hr hm);intro _ _ amU _ _ amy amz amA);all_goals(rcases(_:_)with h;exact h))|fail)):P:=h
theorem acp (h:P:=by(first|(((with_reducible apply WO.WH);exact aE;exact ey;exact rG;(intro s hr hm;exact aaK s _ _ _ ag _ _ hr hm);intro _ _ amV _ _ amB amC amD);all_goals(rcases(_:_)with h;exact h))|fail)):P:=h
theorem acq (h:P:=by(first|(((with_reducible apply WO.rH);exact aE;(intro s hr;exact hli s hr);(exact uZ.mk cg cg cg);intro _ _ _ _);all_goals(rcases(_:_)with h;exact h))|fail)):P:=h
theorem QK (h:P:=by(first|(((with_reducible apply WO.aek);exact gP;exact gP;exact xy;exact mO;intro _);all_goals(rcases(_:_)with h;exact h))|fail)):P:=h
theorem G5 (h:P:=by(first|(((with_reducible apply WO.mj);exact aE;(first|exact λs hr=>wJ s hr);exact eC;intro _ _ _ _);all_goals(rcases(_:_)with h;exact h))|fail)):P:=h
theorem WI (h:P:=by(first|(((with_reducible apply WO.bI);exact aE;(first|exact λs=>ZD s);intro _ _ _ _);all_goals(rcases(_:_)with h;exact h))|fail)):P:=h
theorem QL (h:P:=by(first|(((with_reducible apply WO.mj);exact aE;(first|exact λs hr=>hfc s _ _ hr);exact eC;intro _ _ _ _);all_goals(rcases(_:_)with h;exact h))|fail)):P:=h
theorem acr (h:P:=by(first|(((with_reducible apply WO.nf);exact aE;(first|exact λs=>SZ s _ _ (by assumption) _ ag);exact ey;intro _ _ WJ _ _ ahq);all_goals(rcases(_:_)with h;exact h))|fail)):P:=h
theorem WK (h:P:=by(first|(((with_reducible apply WO.l8);exact aE;(first|exact λs hr=>S0 s _ _ _ ag hr);exact cg;intro _ _ _ _);all_goals(rcases(_:_)with h;exact h))|fail)):P:=h
theorem acs (h:P:=by(first|(((with_reducible apply WO.l8);exact aE;(first|exact λs hr=>S1 s _ _ _ ag hr);exact cg;intro _ _ _ _);all_goals(rcases(_:_)with h;exact h))|fail)):P:=h
theorem ahr (h:P:=by(first|(((with_reducible apply WO.nf);exact aE;(first|exact λs=>xB s _ _ (by assumption) _ ag _);exact ey;intro _ _ afT _ _ Az);all_goals(rcases(_:_)with h;exact h))|fail)):P:=h
theorem WL (h:P:=by(first|(((with_reducible apply WO.ael);exact aE;(first|exact λs hr hm=>KT s _ _ hr hm);exact ey;exact cg;intro _ _ ahs _ _ DC);all_goals(rcases(_:_)with h;exact h))|fail)):P:=h
theorem Lr (h:P:=by(first|(((with_reducible apply WO.nf);exact aE;(first|exact λs=>G6 s _ _ (by assumption) _ (by assumption)|exact λs=>G6 s _ _ (by assumption) ⟨_,_,_,_,_⟩ (by assumption));exact ey;intro _ _ WM _ _ aht);all_goals(rcases(_:_)with h;exact h))|fail)):P:=h
theorem DD (h:P:=by(first|(((with_reducible apply WO.aem);exact aE;(first|exact λs hr hm hv=>hlc _ s _ _ hr hm hv);exact ey;exact rG;intro _ _ DE _ _ u0);all_goals(rcases(_:_)with h;exact h))|fail)):P:=h
theorem QM (h:P:=by(first|(((with_reducible apply WO.nf);exact aE;(first|exact λs=>hwc s);exact ey;intro _ _ aen _ _ DF);all_goals(rcases(_:_)with h;exact h))|fail)):P:=h
theorem DG (h:P:=by(first|(((with_reducible apply WO.nf);exact aE;(first|exact λs=>S3 _ s);exact ey;intro _ _ y3 _ _ Ls);all_goals(rcases(_:_)with h;exact h))|fail)):P:=h
theorem acu (h:P:=by(first|(((with_reducible apply WO.nf);exact aE;(first|exact λs=>DH s _ _ (by assumption) _ (by assumption) _ ag|exact λs=>DH s _ _ (by assumption) ⟨⟨_,_,_,_,_⟩,_,_⟩ (by assumption) _ ag);exact ey;intro _ _ ajC _ _ ajD);all_goals(rcases(_:_)with h;exact h))|fail)):P:=h
theorem acv (h:P:=by(first|(((with_reducible apply WO.mj);exact aE;(first|exact λs hr=>AA s _ _ (by assumption) _ (by assumption) _ ag hr|exact λs hr=>AA s _ _ (by assumption) ⟨⟨_,_,_,_,_⟩,_,_⟩ (by assumption) _ ag hr);exact eC;intro _ _ _ _);all_goals(rcases(_:_)with h;exact h))|fail)):P:=h
theorem acw (h:P:=by(first|(((with_reducible apply WO.nf);exact aE;(first|exact λs=>vG s _ _ (by assumption) _ (by assumption) _ ag _|exact λs=>vG s _ _ (by assumption) ⟨⟨_,_,_,_,_⟩,_,_⟩ (by assumption) _ ag _|exact λs=>vG s _ _ (by assumption) _ (by assumption) _ ag ⟨_,_,_,⟨⟨_,_,_,_,_⟩,_,_⟩⟩);exact ey;intro _ _ ahu _ _ ahv);all_goals(rcases(_:_)with h;exact h))|fail)):P:=h
theorem WN (h:P:=by(first|(((with_reducible apply WO.I8);exact aE;exact uc;(first|exact λs hr=>tF s _ _ _ (by assumption) (by assumption) _ ag hr);intro _ _ _ _);all_goals(rcases(_:_)with h;exact h))|fail)):P:=h
theorem ahw (h:P:=by(first|(((with_reducible apply WO.tD);exact aE;(first|exact λs hr=>ahx s hr);exact eC;intro _ _ rI rJ _ _);all_goals(rcases(_:_)with h;exact h))|fail)):P:=h
theorem ahy (h:P:=by(first|(((with_reducible apply WO.l8);exact aE;(first|exact λs hr=>DI s _ _ _ _ (by first|omega|(simp;done)) hr);exact cg;intro _ _ _ _);all_goals(rcases(_:_)with h;exact h))|fail)):P:=h
theorem acx (h:P:=by(first|(((with_reducible apply WO.bI);exact aE;(first|exact λs=>G7 s _ (by rw[cZ];omega));intro _ _ _ _);all_goals(rcases(_:_)with h;exact h))|fail)):P:=h
theorem G8 (h:P:=by(first|(((with_reducible apply WO.AB);exact aE;(intro v s;(first|exact dK _ s));exact ey;intro _ _ pB _ _);all_goals(rcases(_:_)with h;exact h))|fail)):P:=h
theorem acy (h:P:=by(first|(((with_reducible apply WO.WQ);exact aE;(intro s hr hn hm;(first|exact akQ _ _ s hr hn hm));exact ey;exact eC;exact cg;intro _ _ jJ jK _ _);all_goals(rcases(_:_)with h;exact h))|fail)):P:=h
theorem QN (h:P:=by(first|(((with_reducible apply WO.mj);exact aE;(first|exact λs hr=>Lt s _ _ (by assumption) _ hr|exact λs hr=>Lt s _ _ (by assumption) ⟨⟨_,_,_,_,_⟩,_,_⟩ hr);exact eC;intro _ _ _ _);all_goals(rcases(_:_)with h;exact h))|fail)):P:=h
theorem QO (h:P:=by(first|(((with_reducible apply WO.Ay);exact aE;(first|exact λs hr=>uv s hr);exact eC;intro _ _ jy jz _ _);all_goals(rcases(_:_)with h;exact h))|fail)):P:=h
theorem acz (h:P:=by(first|(((with_reducible apply WO.WQ);exact aE;(intro s hr hn hm;(first|exact hwk _ _ _ _ s hr hn hm));exact ey;exact eC;exact cg;intro _ _ jJ jK _ _);all_goals(rcases(_:_)with h;exact h))|fail)):P:=h
theorem y4 (h:P:=by(first|(((with_reducible apply WO.mj);exact aE;(first|exact λs hr=>DJ s _ _ (by assumption) _ (by assumption) hr|exact λs hr=>DJ s _ _ (by assumption) ⟨_,_,_,⟨⟨_,_,_,_,_⟩,_,_⟩⟩ (by assumption) hr);exact eC;intro _ _ _ _);all_goals(rcases(_:_)with h;exact h))|fail)):P:=h
theorem ud (h:P:=by(first|(((with_reducible apply WO.vH);exact aE;(intro s hr;(first|exact WR s hr));exact uc;intro _ _ _ _);all_goals(rcases(_:_)with h;exact h))|fail)):P:=h
theorem y5 (h:P:=by(first|(((with_reducible apply WO.vH);exact aE;(intro s hr;(first|exact qE s hr));exact uc;intro _ _ _ _);all_goals(rcases(_:_)with h;exact h))|fail)):P:=h
theorem WT (h:P:=by(first|(((with_reducible apply WO.vH);exact aE;(intro s hr;(first|exact rD s hr));exact uc;intro _ _ _ _);all_goals(rcases(_:_)with h;exact h))|fail)):P:=h
theorem Bk (h:P:=by(first|(((with_reducible apply WO.Lu);exact aE;(intro s hr;(first|exact VP s hr));exact uc;intro _ _ AD AE _ _);all_goals(rcases(_:_)with h;exact h))|fail)):P:=h
theorem DK (h:P:=by(first|(((with_reducible apply WO.bI);exact aE;(first|exact λs=>OH s _ ag (by assumption) (by assumption));intro _ _ _ _);all_goals(rcases(_:_)with h;exact h))|fail)):P:=h
theorem Lv (h:P:=by(first|(((with_reducible apply WO.l8);exact aE;(first|exact λs hr=>OI _ _ s hr);exact cg;intro _ _ _ _);all_goals(rcases(_:_)with h;exact h))|fail)):P:=h
theorem Lw (h:P:=by(first|(((with_reducible apply WO.aeo);exact aE;exact rG;(first|exact λs hr hv=>ahz _ _ s hr hv);intro _ _ aep aeq _ _);all_goals(rcases(_:_)with h;exact h))|fail)):P:=h
theorem Lx (h:P:=by(first|(((with_reducible apply WO.WU);exact aE;(intro v s hr hm;(first|exact nU _ _ _ s hr hm));exact ey;exact cg;intro _ _ jm _ _);all_goals(rcases(_:_)with h;exact h))|fail)):P:=h
theorem Ly (h:P:=by(first|(((with_reducible apply WO.bI);exact aE;(first|exact λs=>hpi s);intro _ _ _ _);all_goals(rcases(_:_)with h;exact h))|fail)):P:=h
theorem WV (h:P:=by(first|(((with_reducible apply WO.nf);exact aE;(first|exact λs=>Qm _ s);exact ey;intro _ _ Lz _ _ WW);all_goals(rcases(_:_)with h;exact h))|fail)):P:=h
theorem WX (h:P:=by(first|(((with_reducible apply WO.xv);exact gP;exact gP;assumption;exact mO;intro _);all_goals(rcases(_:_)with h;exact h))|fail)):P:=h
theorem WY (h:P:=by(first|(((with_reducible apply WO.ahA);exact gP;assumption;exact mO;intro _);all_goals(rcases(_:_)with h;exact h))|fail)):P:=h
theorem Bl (h:P:=by(first|(((with_reducible apply WO.QP);exact aE;exact ey;assumption;(intro s hr hm;(first|exact aaL s _ _ _ _ _ _ (by assumption) ag ag hr hm));intro _ _ ng akR ajE aaM _ _;obtain⟨DL,rfl,akS⟩:=aaM);all_goals(rcases(_:_)with h;exact h))|fail)):P:=h
theorem acA (h:P:=by(first|(((with_reducible apply WO.QP);exact aE;exact ey;assumption;(intro s hr hm;(first|exact aaN s _ _ _ _ _ (by assumption) ag hr hm));intro _ _ akT akU ajF aaO _ _;obtain⟨akV,rfl,aer⟩:=aaO);all_goals(rcases(_:_)with h;exact h))|fail)):P:=h
theorem acB (h:P:=by(first|(((with_reducible apply WO.QP);exact aE;exact ey;assumption;(intro s hr hm;(first|exact aaP s _ _ _ _ _ _ (by assumption) ag ag hr hm));intro _ _ akW akX ajG aaQ _ _;obtain⟨akY,rfl,akZ⟩:=aaQ);all_goals(rcases(_:_)with h;exact h))|fail)):P:=h
theorem rh (h:P:=by(first|(((with_reducible apply WO.WZ);exact aE;(first|exact λs hr=>S4 s _ _ (by assumption) hr);exact acg;intro _ _ ahB _ _);all_goals(rcases(_:_)with h;exact h))|fail)):P:=h
theorem DM (h:P:=by(first|(((with_reducible apply WO.vH);exact aE;(intro s hr;(first|exact Ae s hr));exact uc;intro _ _ _ _);all_goals(rcases(_:_)with h;exact h))|fail)):P:=h
theorem W0 (h:P:=by(first|(((with_reducible apply WO.mj);exact aE;(first|exact λs hr=>LA s hr);exact eC;intro _ _ _ _);all_goals(rcases(_:_)with h;exact h))|fail)):P:=h
theorem QQ (h:P:=by(first|(((with_reducible apply WO.I3);exact aE;(first|exact λs hr=>BO _ _ s hr);exact cg;intro _ _ afU afV _ _);all_goals(rcases(_:_)with h;exact h))|fail)):P:=h
theorem Bm (h:P:=by(first|(((with_reducible apply WO.vH);exact aE;(intro s hr;(first|exact WR s hr|exact Qy s hr));exact uc;intro _ _ _ _);all_goals(rcases(_:_)with h;exact h))|fail)):P:=h
theorem y6 (h:P:=by(first|(((with_reducible apply WO.bI);exact aE;(first|exact λs=>IL s);intro _ _ _ _);all_goals(rcases(_:_)with h;exact h))|fail)):P:=h
theorem QR (h:P:=by(first|(((with_reducible apply WO.vH);exact aE;(intro s hr;(first|exact rD s hr|exact ahC s hr));exact uc;intro _ _ _ _);all_goals(rcases(_:_)with h;exact h))|fail)):P:=h
theorem W1 (h:P:=by(first|(((with_reducible apply WO.Lu);exact aE;(intro s hr;(first|exact VP s hr|exact hef s hr));exact uc;intro _ _ AD AE _ _);all_goals(rcases(_:_)with h;exact h))|fail)):P:=h
theorem acC (h:P:=by(first|(((with_reducible apply WO.WU);exact aE;(intro v s hr hm;(first|exact nU _ _ _ s hr hm|exact ND _ _ _ s hr hm|exact R1 _ _ _ s hr hm));exact ey;exact cg;intro _ _ jm _ _);all_goals(rcases(_:_)with h;exact h))|fail)):P:=h
theorem ahD (h:P:=by(first|(((with_reducible apply WO.AB);exact aE;(intro v s;(first|exact mD _ _ s));exact ey;intro _ _ wM _ _);all_goals(rcases(_:_)with h;exact h))|fail)):P:=h
theorem W3 (h:P:=by(first|(((with_reducible apply WO.AB);exact aE;(intro v s;(first|exact mD _ _ s));exact ey;intro _ _ FL _ _);all_goals(rcases(_:_)with h;exact h))|fail)):P:=h
theorem W4 (h:P:=by(first|(((with_reducible apply WO.AB);exact aE;(intro v s;(first|exact mD _ _ s));exact ey;intro _ _ FM _ _);all_goals(rcases(_:_)with h;exact h))|fail)):P:=h
theorem W5 (h:P:=by(first|(((with_reducible apply WO.AB);exact aE;(intro v s;(first|exact mD _ _ s));exact ey;intro _ _ FN _ _);all_goals(rcases(_:_)with h;exact h))|fail)):P:=h
theorem W6 (h:P:=by(first|(((with_reducible apply WO.AB);exact aE;(intro v s;(first|exact mD _ _ s));exact ey;intro _ _ BU _ _);all_goals(rcases(_:_)with h;exact h))|fail)):P:=h
theorem acD (h:P:=by(first|(((with_reducible apply WO.QP);exact aE;exact ey;assumption;(intro s hr hm;(first|exact ahE s _ _ _ _ _ (by assumption) ag hr hm));intro _ _ amE amF ak0 aes _ _;obtain⟨DN,rfl,W7⟩:=aes);all_goals(rcases(_:_)with h;exact h))|fail)):P:=h
theorem qm (h:P:=by(first|(((with_reducible apply WO.kv);exact aE;(intro s hr;exact ku s hr);exact ia;intro _ _ _ _);all_goals(rcases(_:_)with h;exact h))|fail)):P:=h
theorem wN (h:P:=by(first|(((with_reducible apply WO.bI);exact aE;(first|exact λs=>LB s _ ag);intro _ _ _ _);all_goals(rcases(_:_)with h;exact h))|fail)):P:=h
theorem W8 (h:P:=by(first|(((with_reducible apply WO.kv);exact aE;(intro s hr;exact DO s _ _ _ _ _ (by assumption) _ hr);exact ia;intro _ _ _ _);all_goals(rcases(_:_)with h;exact h))|fail)):P:=h
theorem acE (h:P:=by(first|(((with_reducible apply WO.kv);exact aE;(intro s hr;exact k9 s _ _ _ _ _ (by assumption) _ hr);exact ia;intro _ _ _ _);all_goals(rcases(_:_)with h;exact h))|fail)):P:=h
theorem LC (h:P:=by(first|(((with_reducible apply WO.kv);exact aE;(intro s hr;exact I9 s _ _ _ _ _ (by assumption) _ hr);exact ia;intro _ _ _ _);all_goals(rcases(_:_)with h;exact h))|fail)):P:=h
theorem acF (h:P:=by(first|(((with_reducible apply WO.kv);exact aE;(intro s hr;exact Ja s _ _ _ _ _ (by assumption) hr);exact ia;intro _ _ _ _);all_goals(rcases(_:_)with h;exact h))|fail)):P:=h
theorem QS (h:P:=by(first|(((with_reducible apply WO.ahF);exact gP;exact gP;intro _);all_goals(rcases(_:_)with h;exact h))|fail)):P:=h
theorem W9 (h:P:=by(first|(((with_reducible apply WO.kv);exact aE;(intro s hr;exact ri s _ _ _ _ _ (by assumption) _ hr);exact ia;intro _ _ _ _);all_goals(rcases(_:_)with h;exact h))|fail)):P:=h
theorem wO (h:P:=by(first|(((with_reducible apply WO.kv);exact aE;(intro s hr;exact Xa s _ _ _ _ _ (by assumption) _ hr);exact ia;intro _ _ _ _);all_goals(rcases(_:_)with h;exact h))|fail)):P:=h
theorem ahG (h:P:=by(first|(((with_reducible apply WO.rH);exact aE;(intro s hr;exact ku s _ hr);(exact uZ.mk cg cg cg);intro _ _ _ _);all_goals(rcases(_:_)with h;exact h))|fail)):P:=h
theorem ahH (h:P:=by(first|(((with_reducible apply WO.ak1);exact gP;exact gP;intro _);all_goals(rcases(_:_)with h;exact h))|fail)):P:=h
theorem ahI (h:P:=by(first|(((with_reducible apply WO.ad4);exact gP;exact gP;exact rG;intro _);all_goals(rcases(_:_)with h;exact h))|fail)):P:=h
theorem ahJ (h:P:=by(first|(((with_reducible apply WO.bI);exact aE;(first|exact λs=>OJ s _ ag (by assumption));intro _ _ _ _);all_goals(rcases(_:_)with h;exact h))|fail)):P:=h
theorem ahK (h:P:=by(first|(((with_reducible apply WO.ad3);exact gP;exact gP;exact rG;intro _);all_goals(rcases(_:_)with h;exact h))|fail)):P:=h
theorem ahL (h:P:=by(first|(((with_reducible apply WO.ag3);exact gP;exact gP;exact gP;exact xy;intro _);all_goals(rcases(_:_)with h;exact h))|fail)):P:=h
theorem ahM (h:P:=by(first|(((with_reducible apply WO.ad2);exact gP;exact gP;exact rG;intro _);all_goals(rcases(_:_)with h;exact h))|fail)):P:=h
theorem ahN (h:P:=by(first|(((with_reducible apply WO.ag2);exact gP;exact gP;exact gP;exact xy;intro _);all_goals(rcases(_:_)with h;exact h))|fail)):P:=h
theorem ahO (h:P:=by(first|(((with_reducible apply WO.ag4);exact gP;exact gP;exact gP;exact xy;intro _);all_goals(rcases(_:_)with h;exact h))|fail)):P:=h
theorem LD (h:P:=by(first|(((with_reducible apply WO.bI);exact aE;(exact mD);intro _ _ _ _);all_goals(rcases(_:_)with h;exact h))|fail)):P:=h
theorem acG (h:P:=by(first|(((with_reducible apply WO.rH);exact aE;(intro s hr;exact Vv s hr);(exact uZ.mk cg cg cg);intro _ _ _ _);all_goals(rcases(_:_)with h;exact h))|fail)):P:=h
theorem DP (h:P:=by(first|(((with_reducible apply WO.kv);exact aE;(intro s hr;exact tE s hr);exact ia;intro _ _ _ _);all_goals(rcases(_:_)with h;exact h))|fail)):P:=h
theorem QT (h:P:=by(first|(((with_reducible apply WO.kv);exact aE;(intro s hr;exact Bn s _ _ _ _ _ (by assumption) _ (by assumption) hr);exact ia;intro _ _ _ _);all_goals(rcases(_:_)with h;exact h))|fail)):P:=h
theorem Xb (h:P:=by(first|(((with_reducible apply WO.Xc);exact aE;(intro s hr;exact OK s _ _ _ _ _ _ (by assumption) _ (by assumption) _ hr);exact cg;exact cg;intro _ _ amG amH _ _);all_goals(rcases(_:_)with h;exact h))|fail)):P:=h
theorem ahP (h:P:=by(first|(((with_reducible apply WO.kv);exact aE;(intro s hr;exact S5 s hr);exact ia;intro _ _ _ _);all_goals(rcases(_:_)with h;exact h))|fail)):P:=h
theorem ahQ (h:P:=by(first|(((with_reducible apply WO.Xc);exact aE;(intro s hr;exact LF s _ _ _ _ _ _ (by assumption) _ (by assumption) hr);exact cg;exact cg;intro _ _ ak2 ak3 _ _);all_goals(rcases(_:_)with h;exact h))|fail)):P:=h
theorem ahR (h:P:=by(first|(((with_reducible apply WO.SH);exact gP;exact gP;exact aav;exact cg;exact mO;intro _ _ amW amX amI amJ amK _ _ _ ahS);all_goals(rcases(_:_)with h;exact h))|fail)):P:=h
theorem LG (h:P:=by(first|(((with_reducible apply WO.kv);exact aE;(intro s hr;exact OL s hr);exact ia;intro _ _ _ _);all_goals(rcases(_:_)with h;exact h))|fail)):P:=h
theorem Xd (h:P:=by(first|(((with_reducible apply WO.kv);exact aE;(intro s hr;exact Ae s hr);exact ia;intro _ _ _ _);all_goals(rcases(_:_)with h;exact h))|fail)):P:=h
theorem ahT (h:P:=by(first|(((with_reducible apply WO.Xe);exact aE;(intro s;exact iX s);exact ey;intro _ _ ak4 ak5 ahU ahV ahW ahX ahY _ _ DQ);all_goals(rcases(_:_)with h;exact h))|fail)):P:=h
theorem acH (h:P:=by(first|(((with_reducible apply WO.OM);exact aE;(intro s h1 h2;exact DR s _ _ _ _ _ _ ag ag h1 h2);exact cg;exact cg;intro _ _ ahZ ah0 ah1 ah2 _ _);all_goals(rcases(_:_)with h;exact h))|fail)):P:=h
theorem Xf (h:P:=by(first|(((with_reducible apply WO.kv);exact aE;(intro s hr;exact Xg s hr);exact ia;intro _ _ _ _);all_goals(rcases(_:_)with h;exact h))|fail)):P:=h
theorem Xh (h:P:=by(first|(((with_reducible apply WO.kv);exact aE;(intro s hr;exact Xi s hr);exact ia;intro _ _ _ _);all_goals(rcases(_:_)with h;exact h))|fail)):P:=h
theorem acI (h:P:=by(first|(((with_reducible apply WO.DS);exact aE;(intro s hr;exact hwi s hr);exact ia;intro _ _ amY amZ am0 am1 am2 am3 am4 am5 am6 am7 am8 am9 _ _);all_goals(rcases(_:_)with h;exact h))|fail)):P:=h
theorem acJ (h:P:=by(first|(((with_reducible apply WO.DS);exact aE;(intro s hr;exact hws s hr);exact ia;intro _ _ ana anb ane anf ang anh ani anj ank anl anm ann _ _);all_goals(rcases(_:_)with h;exact h))|fail)):P:=h
theorem Xj (h:P:=by(first|(((with_reducible apply WO.Xk);exact aE;(intro s h1 h2 h3 h4;exact Oh s _ _ _ _ _ _ _ _ h1 h2 h3 h4);exact cg;exact cg;exact cg;exact cg;intro _ _ _ _);all_goals(rcases(_:_)with h;exact h))|fail)):P:=h
theorem cU (h:P:=by(first|((repeat' (first|refine' a7|refine' aw|fail));all_goals(rcases(_:_)with h;exact h))|fail)):P:=h
theorem zb2 (h:P:=by(first|((repeat' (first|refine' a7|refine' NI|refine' aw|fail));all_goals(rcases(_:_)with h;exact h))|fail)):P:=h
theorem ah3 (h:P:=by(first|((repeat' (first|refine' a7|((with_reducible apply WO.bI);exact aE;(first|exact λs=>aaR s _ _ _);intro _ _ _ _)|refine' aw|fail));all_goals(rcases(_:_)with h;exact h))|fail)):P:=h
theorem BV (h:P:=by(first|((repeat' (first|refine' a7|refine' GW|refine' aw|fail));all_goals(rcases(_:_)with h;exact h))|fail)):P:=h
theorem Xl (h:P:=by(first|((repeat' (first|refine' a7|refine' aeh|refine' aw|fail));all_goals(rcases(_:_)with h;exact h))|fail)):P:=h
theorem aaS (h:P:=by(first|((repeat' (first|refine' a7|refine' Wy|refine' Wz|refine' yV|refine' yU|refine' qL|refine' aw|fail));all_goals(rcases(_:_)with h;exact h))|fail)):P:=h
theorem aaT (h:P:=by(first|((repeat' (first|refine' a7|refine' Wy|refine' Wz|refine' yV|refine' yU|refine' qL|refine' Lo|refine' aw|fail));all_goals(rcases(_:_)with h;exact h))|fail)):P:=h
theorem ah4 (h:P:=by(first|((repeat' (first|refine' a7|refine' Wy|refine' Wz|refine' yV|refine' yU|refine' qL|refine' Lo|refine' aaH|refine' wo|refine' akO|refine' aw|fail));all_goals(rcases(_:_)with h;exact h))|fail)):P:=h
theorem Xm (h:P:=by(first|((repeat' (first|refine' a7|refine' yU|refine' qL|refine' yV|refine' wo|refine' Lo|refine' aw|fail));all_goals(rcases(_:_)with h;exact h))|fail)):P:=h
theorem Xn (h:P:=by(first|((repeat' (first|refine' a7|refine' yU|refine' qL|refine' yV|refine' wo|refine' Lo|refine' Wz|refine' Wy|refine' ahn|refine' aw|fail));all_goals(rcases(_:_)with h;exact h))|fail)):P:=h
theorem aet (h:P:=by(first|((repeat' (first|refine' a7|refine' yU|refine' qL|refine' yV|refine' wo|refine' Lo|refine' Wz|refine' Wy|refine' ahn|refine' aaH|refine' aw|fail));all_goals(rcases(_:_)with h;exact h))|fail)):P:=h
theorem aaU (h:P:=by(first|((repeat' (first|refine' a7|refine' wo|refine' akP|refine' aw|fail));all_goals(rcases(_:_)with h;exact h))|fail)):P:=h
theorem ah5 (h:P:=by(first|((repeat' (first|refine' a7|((with_reducible apply WO.aeu);exact gP;exact gP;exact rG;exact mO;intro _ a_s c_s ano)|((with_reducible apply WO.aev);exact gP;assumption;exact xy;exact mO;intro _)|((with_reducible apply WO.aew);exact gP;exact gP;exact rG;exact mO;intro _)|refine' aw|fail));all_goals(rcases(_:_)with h;exact h))|fail)):P:=h
theorem G9 (h:P:=by(first|((repeat' (first|refine' a7|refine' G5|refine' QL|refine' WI|refine' aw|fail));all_goals(rcases(_:_)with h;exact h))|fail)):P:=h
theorem acK (h:P:=by(first|((repeat' (first|refine' a7|((with_reducible apply WO.ah6);exact aE;(first|exact λs=>hg s);exact ey;intro _ _ _ _)|refine' aw|fail));all_goals(rcases(_:_)with h;exact h))|fail)):P:=h
theorem Xo (h:P:=by(first|((repeat' (first|refine' a7|refine' WK|refine' acs|refine' GW|refine' aed|refine' ahr|refine' aw|fail));all_goals(rcases(_:_)with h;exact h))|fail)):P:=h
theorem Xp (h:P:=by(first|((repeat' (first|refine' a7|refine' Dx|refine' Ax|refine' DD|refine' aw|fail));all_goals(rcases(_:_)with h;exact h))|fail)):P:=h
theorem acL (h:P:=by(first|((repeat' (first|refine' a7|((with_reducible apply WO.I1);exact aE;(first|exact λs=>hR s);intro _ _ acM acN _ _)|refine' aw|fail));all_goals(rcases(_:_)with h;exact h))|fail)):P:=h
theorem Xq (h:P:=by(first|((repeat' (first|refine' a7|refine' acv|refine' ahw|refine' ahy|refine' aw|fail));all_goals(rcases(_:_)with h;exact h))|fail)):P:=h
theorem QU (h:P:=by(first|((repeat' (first|refine' a7|refine' ud|refine' y5|refine' aw|fail));all_goals(rcases(_:_)with h;exact h))|fail)):P:=h
theorem Ha (h:P:=by(first|((repeat' (first|refine' a7|refine' rh|refine' ahD|refine' aw|fail));all_goals(rcases(_:_)with h;exact h))|fail)):P:=h
theorem Hb (h:P:=by(first|((repeat' (first|refine' a7|refine' qm|refine' aw|fail));all_goals(rcases(_:_)with h;exact h))|fail)):P:=h
theorem sA (h:P:=by(first|((repeat' (first|refine' a7|refine' ahG|refine' ahH|refine' ahm|refine' ahk|refine' ahI|refine' ahJ|refine' ahK|refine' ahL|refine' ahM|refine' ahN|refine' aaC|refine' ahO|refine' ahl|refine' aw|fail));all_goals(rcases(_:_)with h;exact h))|fail)):P:=h
theorem Bo (h:P:=by(first|((repeat' (first|refine' a7|refine' SY|refine' WC|refine' aw|fail));all_goals(rcases(_:_)with h;exact h))|fail)):P:=h
theorem LH (h:P:=by(first|((repeat' (first|refine' a7|refine' qm|refine' ahP|refine' Lp|refine' QJ|refine' aw|fail));all_goals(rcases(_:_)with h;exact h))|fail)):P:=h
theorem acO (h:P:=by(first|((repeat' (first|refine' a7|refine' qm|refine' wO|refine' ahQ|((with_reducible apply WO.kv);exact aE;(intro s hr;exact hmy s _ _ hr);exact ia;intro _ _ _ _)|((with_reducible apply WO.kv);exact aE;(intro s hr;exact S5 s _ _ hr);exact ia;intro _ _ _ _)|((with_reducible apply WO.adY);exact gP;exact gP;exact rG;exact mO;intro _)|refine' ahR|refine' aw|fail));all_goals(rcases(_:_)with h;exact h))|fail)):P:=h
theorem Hc (h:P:=by(first|((repeat' (first|refine' a7|refine' Xb|refine' SY|refine' WC|refine' aw|fail));all_goals(rcases(_:_)with h;exact h))|fail)):P:=h
theorem LI (h:P:=by(first|((repeat' (first|refine' a7|refine' ahT|refine' aw|fail));all_goals(rcases(_:_)with h;exact h))|fail)):P:=h
theorem Xr (h:P:=by(first|((repeat' (first|refine' a7|refine' Xf|refine' Xh|refine' acI|refine' acJ|refine' Xj|refine' aw|fail));all_goals(rcases(_:_)with h;exact h))|fail)):P:=h
end
section
variable {f i:Nat}
theorem Jb {a b:UInt8}:(a.toNat:Int)=b.toNat↔a=b:=by
 rw[Int.ofNat_inj,w6]
theorem ON (c:UInt8)(p q:aA)(h:c∉p):cut c (p++c::q)=p::cut c q:=by
 induction p with
 |nil=>simp[cut]
 |cons x p ih=>
  simp at h;rw[BI,cut,if_neg (λe=>h.1 e.symm),ih h.2]
theorem u3 (c:UInt8)(p:aA)(h:c∉p):cut c p=[p]:=by
 induction p with
 |nil=>simp[cut]
 |cons x p ih=>
  simp at h;rw[cut,if_neg (λe=>h.1 e.symm),ih h.2]
theorem S6 (z:aA)(h1:f<=i)(h2:i<z.length):(z.drop f).take (i+1-f)=(z.drop f).take (i-f)++[z.getD i 0]:=by
 have:i+1-f=(i-f)+1:=by omega
 rw[this,wz]
 congr 1
 rw[yh,show f+(i-f)=i by omega,aR,bd h2];rfl
theorem aaV (z:aA)(h1:f<=i)(h2:i<z.length):z.drop f=(z.drop f).take (i-f)++z.getD i 0::z.drop (i+1):=by
 conv=>lhs;rw[<-yd (i-f) (z.drop f)]
 congr 1
 rw[mm,show f+(i-f)=i by omega,wA h2,aR,bd h2];rfl
theorem uX (s:St)(z:aA)(c:UInt8)(hz:z.length<=100000):Bi 139 [sv z,bv c] s [] [] λv L=>∃a k,v= .slice a (cut c z).length k/\L=[.aN v 9 1 (ai (cut c z))]:=by
 refine aU f139 ?_;(repeat(first|refine' xz|refine' aw|fail))
 refine W.loop (λk l L=>∃(i fr:Nat)(a:aK)(cp:Nat)(done:List aA),Le [(0,sv z),(1,bv c),(5,.slice a done.length cp),(6,iv fr),(7,iv i)] l/\cz [.aN (.slice a done.length cp) 9 1 (ai done)] L/\
  k=z.length-i/\fr<=i/\i<=z.length/\done.length<=i/\cut c z=done++cut c (z.drop fr)/\c∉(z.drop fr).take (i-fr)) z.length ⟨0,0,_,_,[],bk,au,ag,ag,ag,mO,by simp,by simp⟩ ?_
 rintro k l L ⟨i,fr,a,cp,done,hl,hL,rfl,h1,h2,h4,h5,h6⟩;refine W.le ?_ hl hL;clear hl hL;(repeat(first|refine' xz|refine' aw|fail))
 refine W.cond gP ?_ ?_<;>intro h<;>simp only[bQ,mb,jR,wy,F6,Ie,Ig] at h
 ·(repeat(first|refine' xz|refine' aw|fail))
  refine W.cond gP ?_ ?_<;>intro hc<;>simp only[bQ,mb,jR,wy,F6,Ie,Ig] at hc<;>rw[Jb] at hc
  ·(repeat(first|refine' xz|refine' aw|fail))
   refine⟨_,?_,i+1,i+1,_,_,done++[(z.drop fr).take (i-fr)],bk,au,rfl,ag,ag,by simp;omega,?_,by simp⟩
   .omega
   .have h9:=ON c _ (z.drop (i+1)) h6;rw[<-hc,<-aaV z h1 ag,hc] at h9;rw[h5,h9];simp
  ·(repeat(first|refine' xz|refine' aw|fail))
   refine⟨_,?_,i+1,fr,_,_,done,bk,au,rfl,ag,ag,ag,h5,?_⟩
   .omega
   .rw[S6 z h1 ag];simp[h6];exact λe=>hc e.symm
 ·(repeat(first|refine' xz|refine' aw|fail))
  have hi:i=z.length:=by omega
  subst hi;have h7:cut c z=done++[z.drop fr]:=by
   rw[h5,u3]
   rwa [qG (by simp)] at h6
  rw[h7];refine⟨bB,_,[.aN _ 9 1 _],.tmp rfl .nil,au,_,_,rfl,rfl⟩
end
theorem xC (a b c d e a' b' c' d' e':Int):fO [iv a,iv b,iv c,iv d,iv e] [iv a',iv b',iv c',iv d',iv e']=some (decide (a=a'/\b=b'/\c=c'/\d=d'/\e=e')):=by
 simp only[lz,uH,lO,cr,jH,dO]
 congr 1
 rw[oZ];simp
theorem aay (s:St)(n a b:Int):bP 57 [iv n,iv a,iv b] s [] (.bool (fR n a b)):=by
 refine aU f57 ?_;(refine' cU)<;>(refine' ax)<;>(first|(simp_all [gB,fR];done)|(simp_all [gB,fR];omega))
theorem Wu (s:St)(n:Int):bP 190 [iv n] s [] (.bool (Sq n)):=by
 refine aU f190 ?_;(refine' zb2)<;>(refine' ax)<;>simp_all [gB,Sq]
theorem OO (s:St)(z:aA):bP 262 [sv z] s [] (.bool (IT z)):=by
 refine aU f262 ?_;(refine' zb2)<;>(refine' ax)<;>(simp only[gB,IT,fR];congr 1;rw[oZ];simp;omega)
theorem xA (s:St)(p:jt):bP 150 [pv p] s [] (.bool (aI p)):=by
 refine aU f150 ?_;(refine' cU)
 apply WO.agR
 .exact Ev.tmp rfl
 .exact Ev.tmp rfl
 .rfl
 .exact xC _ _ _ _ _ _ _ _ _ _
 intro _;(refine' cU)
 (refine' ax)
 simp only[gB,aI,bq]
 congr 1
 obtain⟨a,b,c,d,e⟩:=p;simp
theorem Lf (s:St)(p:jt):bP 149 [pv p] s [] (.bool (bw p)):=by
 refine aU f149 ?_;(repeat' (first|refine' a7|((with_reducible apply WO.bI);exact aE;(first|exact λs=>xA s ⟨_,_,_,_,_⟩);intro _ _ _ _)|refine' zc3|refine' NI|refine' aw|fail))<;>(refine' ax)<;>simp_all [gB,bw]
theorem OA (s:St)(n:Int):bP 206 [iv n] s [] (iv (cJ n)):=by
 refine aU f206 ?_;(refine' cU)<;>(refine' ax)<;>simp_all [gB,cJ]<;>omega
theorem OP (s:St)(n:Int):bP 249 [iv n] s [] (iv (fh n)):=by
 refine aU f249 ?_;(refine' cU)<;>(refine' ax)<;>simp_all [gB,fh]<;>omega
theorem OF (s:St)(n:Int)(k:Nat)(hn:0<=n/\n<=10000)(hk:k<=10000):bP 124 [iv n,iv (k:Nat)] s [] (iv (gf n k)):=by
 refine aU f124 ?_;(refine' cU)<;>(refine' ax)<;>simp_all [gB,gf]<;>omega
section
variable {i k:Nat}
theorem y7 (s:St)(n e:Int)(hn:0<=n/\n<=1000000)(he:0<e/\e<=1000000):bP 205 [iv n,iv e] s [] (iv (dn n e)):=by
 have h1:(n+e-1).tdiv e=(n+e-1)/ e:=UY ag;have h2:0<=(n+e-1)/ e:=Int.ediv_nonneg ag ag;have h3:(n+e-1)/ e<=n+e-1:=Int.ediv_le_self _ ag;refine aU f205 ?_;(repeat(first|refine' xz|refine' aw|fail))
 (refine' ax)
 simp[gB,dn,h1]
theorem FO (s:St)(k n:Int):bP 210 [iv k,iv n] s [] (iv (fj k n)):=by
 have he:fh k=0\/fh k=12\/fh k=128:=by unfold fh;split<;>(try split)<;>simp
 refine aU f210 ?_;(repeat' (first|refine' a7|((with_reducible apply WO.bI);exact aE;(first|exact λs=>OP s _);intro _ _ _ _)|refine' NI|((with_reducible apply WO.bI);exact aE;(first|exact λs=>y7 s _ _ ag ag);intro _ _ _ _)|refine' aw|fail))<;>(refine' ax)<;>simp_all [gB,fj,fR]<;>omega
def OQ (c:UInt8):Bool:=decide (97<=c.toNat)&&decide (c.toNat<=122)
theorem DT (p:UInt8->Bool)(z:aA)(h:i<z.length):(z.take (i+1)).all p=((z.take i).all p&&p (z.getD i 0)):=by
 rw[wz,bd h,F7,aR,bd h];simp
theorem aex (p:UInt8->Bool)(z:aA)(h:i<z.length)(hp:p (z.getD i 0)=false):z.all p=false:=by
 rw[F8];exact⟨z.getD i 0,by rw[aR,bd h];simp,by simpa using hp⟩
theorem SM (s:St)(z:aA)(hz:z.length<=100000):bP 53 [sv z] s [] (.bool (bG z)):=by
 refine aU f53 ?_;(repeat(first|refine' xz|refine' aw|fail))
 refine W.loop (λk l L=>∃(i:Nat),Le [(0,sv z),(3,iv i)] l/\cz [] L/\k=z.length-i/\i<=z.length/\(z.take i).all OQ=true) z.length ⟨0,bk,au,ag,ag,by simp⟩ ?_;rintro k l L ⟨i,hl,hL,rfl,h1,h2⟩;refine W.le ?_ hl hL;clear hl hL;(repeat(first|refine' xz|refine' aw|fail))
 refine W.cond gP ?_ ?_<;>intro h<;>simp only[bQ,mb,jR,wy,F6,Ie,Ig] at h
 ·(refine' cU)
  rotate_left 1
  .refine⟨_,?_,i+1,bk,au,rfl,ag,?_⟩
   .omega
   .rw[DT _ _ ag,h2];simp only[OQ];simp_all;omega
  all_goals
   (refine' ax)
   have:OQ (z.getD i 0)=false:=by simp only[OQ];simp_all;omega
   have:=aex OQ z ag this;unfold OQ at this;simp[gB,bG];intro h3;rw[F8] at this;obtain⟨x,hx,h4⟩:=this;exact absurd (h3 x hx) (by simpa using h4)
 ·(repeat(first|refine' xz|refine' NI|refine' aw|fail))
  (refine' ax)
  have hi:i=z.length:=by omega
  subst hi;rw[gX] at h2;unfold OQ at h2;simp only[gB,bG,h2,fR]
  congr 1;rw[oZ];simp;omega
theorem aaW (z:aA)(hk:k<=9)(hl:k<=z.length)(ha:(z.take k).all kT=true)(hs:k=9\/k=z.length\/kT (z.getD k 0)=false):tn z=z.take k:=by
 unfold tn;rw[gQ] at ha;have h1:z.take 9=z.take k++(z.take 9).drop k:=by
  conv=>lhs;rw[<-yd k (z.take 9)]
  rw[NO,BL hk]
 rw[h1,List.takeWhile_append_of_pos (λa h=>ha a h)];have h2:((z.take 9).drop k).takeWhile kT=[]:=by
  rcases hs with rfl|rfl|hs
  .rw[ye (by simp;omega)];rfl
  .rw[ye (by simp;omega)];rfl
  .rcases lq k z.length with h|h
   .rcases lq k 9 with h9|h9
    .rw[wA (by simp;omega),List.takeWhile_cons_of_neg];rw[aR,bd h] at hs;simpa using hs
    .rw[ye (by simp;omega)];simp
   .rw[ye (by simp;omega)];simp
 rw[h2,ix]
theorem DU (z:aA)(h:k<z.length):numOf (z.take (k+1))=10*numOf (z.take k)+((z.getD k 0).toNat-48):=by
 unfold numOf;rw[wz,List.foldl_append,bd h,aR,bd h];rfl
theorem LJ (s:St)(z:aA)(hz:z.length<=100000):bP 213 [sv z] s [] (.tuple ⟨[iv (kU z).1,iv (kU z).2]⟩):=by
 refine aU f213 ?_;(repeat(first|refine' xz|refine' aw|fail))
 refine W.bN (λk l L=>∃(i n:Nat),Le [(0,sv z),(4,iv n),(5,iv i)] l/\cz [] L/\k=9-i/\i<=z.length/\i<=9/\(z.take i).all kT=true/\n=numOf (z.take i)/\n<10^ i)
  (λl L=>Le [(0,sv z),(4,iv (numOf (tn z))),(5,iv (tn z).length)] l/\cz [] L) 9 ⟨0,0,bk,au,ag,ag,ag,by simp,by simp[numOf],by simp⟩ ?_ ?_
 .rintro k l L ⟨i,n,hl,hL,rfl,h1,h2,h3,h4,h5⟩;refine W.le ?_ hl hL;clear hl hL;have h6:n<1000000000:=yb h5 (Nat.pow_le_pow_right ag h2);have h7:=(z.getD i 0).toNat_lt;(refine' cU)
  .have hd:kT (z.getD i 0)=true:=by simp only[kT,bU,bQ];omega
   refine⟨_,?_,i+1,10*n+((z.getD i 0).toNat-48),?_,au,rfl,ag,ag,?_,?_,?_⟩
   .omega
   .have:(((10*n+((z.getD i 0).toNat-48):Nat):Int))=10*(n:Int)+((z.getD i 0).toNat-48:Int):=by omega
    rw[this];exact bk
   .rw[DT _ _ ag,h3,hd];rfl
   .rw[DU _ ag,h4]
   .rw[US];omega
  all_goals
   have hs:i=9\/i=z.length\/kT (z.getD i 0)=false:=by
    simp only[kT,zX,mb,bQ] at *;omega
   have hk:=aaW z h2 h1 h3 hs;have BW:(tn z).length=i:=by rw[hk,cZ];omega
   rw[BW,hk,<-h4];exact⟨bk,au⟩
 .rintro l L ⟨hl,hL⟩;refine aq ?_;refine W.le ?_ hl hL;have h8:(tn z).length<=z.length:=by
   unfold tn;exact ik (List.takeWhile_sublist _).length_le (by simp;omega)
  have h9:∀n,1<n->n<=z.length->z.headD 0=z.getD 0 0:=λn _ _=>by cases z<;>rfl
  (refine' cU)<;>(refine' ax)<;>simp only[gB,kU]
  .rw[if_pos ⟨ag,by rw[h9 (tn z).length ag ag];rw[<-w6];show _=48;omega⟩];rfl
  .rw[if_neg];rintro⟨Fc,Zu⟩;rw[h9 _ Fc ag] at Zu;rw[Zu] at j3;exact j3 rfl
  .rw[if_neg];omega
theorem QV (z:aA):(tn z).length<=z.length/\(tn z).length<=9:=by
 unfold tn;have h:=(List.takeWhile_sublist kT (l:=z.take 9)).length_le;rw[cZ] at h;omega
theorem aaX (z:aA):(kU z).2<=9/\((kU z).2<=z.length):=by
 have:=QV z;unfold kU;dsimp only;split<;>dsimp only<;>omega
def ah7 (z:aA):Value:=.tuple ⟨[iv (qJ z),.bool (iK z).isSome]⟩
theorem AF (s:St)(z:aA)(hz:z.length<=100000):bP 177 [sv z] s [] (ah7 z):=by
 refine aU f177 ?_;(repeat' (first|refine' a7|((with_reducible apply WO.bI);exact aE;(first|exact λs=>LJ s _ ag);intro _ _ _ _)|refine' aw|fail))<;>(refine' ax)<;>simp only[gB,ah7,qJ,iK]<;>first|(rw[if_pos ag];rfl)|(rw[if_neg ag];rfl)
end
theorem OR (z:aA){i:Nat}(h:i<z.length)(a b:Nat):KV (z.drop i) a b=KV (z.drop (i+1)) ((a+(z.getD i 0).toNat+1)% 9973) ((b+(a+(z.getD i 0).toNat+1)% 9973)% 9973):=by
 rw[wA h,aR,bd h];rfl
theorem LK (s:St)(z:aA)(hz:z.length<=100000):bP 250 [sv z] s [] (iv (sumOf z:Nat)):=by
 refine aU f250 ?_;(repeat(first|refine' xz|refine' aw|fail))
 refine W.bN (λk l L=>∃(i a b:Nat),Le [(0,sv z),(3,iv a),(4,iv b),(5,iv i)] l/\cz [] L/\k=z.length-i/\i<=z.length/\a<9973/\b<9973/\KV (z.drop i) a b=sumOf z)
  (λl L=>∃(a b:Nat),Le [(3,iv a),(4,iv b)] l/\cz [] L/\a<9973/\b<9973/\a*9973+b=sumOf z) z.length ⟨0,1,0,bk,au,ag,ag,ag,ag,by simp[sumOf]⟩ ?_ ?_
 .rintro k l L ⟨i,a,b,hl,hL,rfl,h1,h2,h3,h4⟩;refine W.le ?_ hl hL;clear hl hL;have h7:=(z.getD i 0).toNat_lt;have h8:((a:Int)+(z.getD i 0).toNat+1).tmod 9973=(((a+(z.getD i 0).toNat+1)% 9973:Nat):Int):=rfl;have h9:((a+(z.getD i 0).toNat+1)% 9973)<9973:=RM _ ag;(refine' cU)
  .refine⟨_,?_,i+1,(a+(z.getD i 0).toNat+1)% 9973,(b+(a+(z.getD i 0).toNat+1)% 9973)% 9973,bk,au,rfl,ag,h9,RM _ ag,?_⟩
   .omega
   .exact(OR z ag a b).symm.trans h4
  .have hi:i=z.length:=by omega
   subst hi;refine⟨a,b,bk,au,h2,h3,?_⟩;rw[<-h4,iD];rfl
 .rintro l L ⟨a,b,hl,hL,h1,h2,h3⟩;refine aq ?_;refine W.le ?_ hl hL;(refine' cU)
  (refine' ax)
  rw[<-h3];rfl
theorem gg (n:Nat):∀k,n<10^ (k+1)->(gM n).length<=k+1:=by
 induction n using Nat.strongRecOn with
 |ind n ih=>
  intro k hk;unfold gM;split
  .simp
  .cases k with
   |zero=>simp at hk;omega
   |succ k=>
    have:=ih (n/ 10) ag k (by rw[US] at hk;omega);simp;omega
theorem QW (n:Nat)(h:n<10000000000):(gM n).length<=10:=gg n 9 h
theorem Xs (s:St)(n:Nat)(hn:n<10000000000):bP 195 [iv (n:Int)] s [] (sv (gM n)):=by
 induction n using Nat.strongRecOn generalizing s with
 |ind n ih=>
  have h1:((n:Int).tdiv 10)=((n/ 10:Nat):Int):=rfl;have h2:((n:Int).tmod 10)=((n% 10:Nat):Int):=rfl;have hd:=QW (n/ 10) ag;refine aU f195 ?_;(repeat' (first|refine' a7|((with_reducible apply WO.bI);exact aE;(first|exact λs=>ih (n/ 10) ag s ag);intro _ _ _ _)|refine' aw|fail))
  ·(refine' ax)
   rw[gM,dif_pos ag,show((48:Int)+n).toNat=48+n by omega];rfl
  ·(refine' ax)
   conv=>rhs;rw[gM,dif_neg ag]
   simp only[gB];have:((48:Int)+((n:Int).tmod 10)).toNat=48+n% 10:=by rw[h2];omega
   rw[this]
  all_goals omega
theorem SL (s:St)(n:Int)(hn:0<=n/\n<10000000000):bP 195 [iv n] s [] (sv (dec n)):=by
 obtain⟨m,rfl⟩:=wB hn.1;exact Xs s m ag
theorem n9 (n:Int)(h:0<=n/\n<10000000000):(dec n).length<=10:=by
 obtain⟨m,rfl⟩:=wB h.1;exact QW m ag
theorem Dv (s:St)(p:jt)(z:aA)(hz:z.length<=100000):bP 212 [pv p,sv z] s [] (.bool (fits p z)):=by
 refine aU f212 ?_;(repeat' (first|refine' a7|refine' SK|refine' GW|((with_reducible apply WO.bI);exact aE;(first|exact λs=>LK s _ ag);intro _ _ _ _)|refine' aw|fail))<;>(refine' ax)<;>simp_all [gB,fits]
theorem LL {p:jt}(h:bw p=true):(0<=p.row/\p.row<=63)/\(0<=p.dg/\p.dg<=900)/\(0<=p.size/\p.size<=128)/\(0<=p.sum/\p.sum<=99460728)/\(0<=p.level/\p.level<=2):=by
 simp only[bw,aI,Sq,fR,mS,bU,bQ,bq] at h;rcases h with h|h
 .have h:=yg h;subst h;simp
 .omega
theorem GX (s:St)(p:jt):bP 196 [pv p] s [] (sv (eK p)):=by
 by_cases hp:bw p=true
 .have hb:=LL hp;have d1:=n9 p.row ag;have d2:=n9 p.dg ag;have d3:=n9 p.size ag;have d4:=n9 p.sum ag;have d5:=n9 p.level ag;refine aU f196 ?_;(repeat' (first|refine' a7|refine' SK|refine' GW|refine' aaz|refine' aw|fail))
  all_goals first|((refine' ax);simp_all [gB,eK];done)|(exfalso;simp_all;done)
 .refine aU f196 ?_;(repeat' (first|refine' a7|refine' SK|refine' GW|refine' aw|fail))
  all_goals first|((refine' ax);simp_all [gB,eK];done)|(exfalso;simp_all;done)
section
variable {i:Nat}{s:aA}
theorem tf {b:Bool}(h:b=true)(k:b=false):False:=by rw[h] at k;cases k
def uo (o:Option jt):Value:=.tuple ⟨[pv (o.getD bq),.bool o.isSome]⟩
theorem oP (s:St)(a b c:Int)(z:aA)(hz:z.length<=100000):bP 241 [iv a,iv b,iv c,sv z] s [] (uo (sk a b c z)):=by
 refine aU f241 ?_;(repeat' (first|refine' a7|((with_reducible apply WO.bI);exact aE;(first|exact λs=>OO s _);intro _ _ _ _)|((with_reducible apply WO.bI);exact aE;(first|exact λs=>LK s _ ag);intro _ _ _ _)|refine' SK|refine' aw|fail))<;>(refine' ax)<;>simp_all [gB,sk,uo]<;>rfl
theorem y8 (c:UInt8)(z:aA):∀w∈cut c z,w.length<=z.length:=by
 induction z with
 |nil=>simp[cut]
 |cons x z ih=>
  intro w hw;unfold cut at hw;split at hw
  .rcases bR.1 hw with rfl|hw
   .simp
   .have:=ih w hw;simp;omega
  .split at hw
   .simp at hw;subst hw;simp
   .rename_i h;rw[h] at ih;rcases bR.1 hw with rfl|hw
    .have:=ih _ iV;simp;omega
    .have:=ih w (lu _ hw);simp;omega
theorem u4 (c:UInt8)(z:aA):(cut c z).length<=z.length+1:=by
 induction z with
 |nil=>simp[cut]
 |cons x z ih=>
  unfold cut;split
  .simp;omega
  .split
   .simp
   .rename_i h;rw[h] at ih;simp at ih⊢;omega
theorem aJ {α:Type}{l:List α}(h:i<l.length)(d:α):l.getD i d∈l:=by
 rw[aR,bd h];simp
def BX (s:aA):Option Int:=(iK s).map λn=>(n:Int)
theorem S7 (h:(iK s).isSome=false):BX s=none:=by
 unfold BX;cases hn:iK s<;>simp_all
theorem S8 (h:(iK s).isSome=true):BX s=some (qJ s):=by
 unfold BX qJ;cases hn:iK s<;>simp_all
theorem S9 (z:aA):ji z=if z=[45] then some bq else if(cut 46 z).length≠5 then none else match(cut 46 z).mapM BX with
  |none=>none
  |some q=>
   let p:jt:=⟨q.getD 0 0,q.getD 1 0,q.getD 2 0,q.getD 3 0,q.getD 4 0⟩
   if !bw p||aI p then none else some p:=by
 unfold ji;split
 .rfl
 .split
  .rename_i a b c d e h;rw[h];simp only[cY,mJ,BX,Fo,List.mapM_nil];cases iK a<;>cases iK b<;>cases iK c<;>cases iK d<;>cases iK e<;>rfl
  .rename_i h;rw[if_pos];intro h5;rcases hw:cut 46 z with _|⟨a,_|⟨b,_|⟨c,_|⟨d,_|⟨e,_|⟨f,l⟩⟩⟩⟩⟩⟩<;>rw[hw] at h5<;>simp at h5
   exact h a b c d e hw
theorem vI {α β:Type}(f:α->Option β)(l:List α)(d:α)(h:i<l.length):(l.take (i+1)).mapM f=match(l.take i).mapM f with
  |none=>none
  |some q=>match f (l.getD i d) with
   |none=>none
   |some x=>some (q++[x]):=by
 rw[wz,bd h,List.mapM_append,aR,bd h];simp only[Option.toList,Fo,List.mapM_nil,Option.getD];cases (l.take i).mapM f<;>cases f l[i]<;>rfl
theorem mapM_none {α β:Type}(f:α->Option β)(l:List α)(d:α)(h:i<l.length)(hf:f (l.getD i d)=none):l.mapM f=none:=by
 conv=>lhs;rw[<-yd (i+1) l]
 rw[List.mapM_append,vI f l d h,hf];cases (l.take i).mapM f<;>rfl
theorem qo {α β:Type}(f:α->Option β):∀(l:List α)(q:List β),l.mapM f=some q->q.length=l.length
 |[],q,h=>by simp at h;subst h;rfl
 |x::l,q,h=>by
  rw[Fo] at h;cases hx:f x with
  |none=>rw[hx] at h;cases h
  |some y=>
   rw[hx] at h;cases hl:l.mapM f with
   |none=>rw[hl] at h;cases h
   |some r=>
    rw[hl] at h;cases h
    simp[qo f l r hl]
theorem Hd (s:St)(z:aA)(hz:z.length<=100000):bP 178 [sv z] s [] (uo (ji z)):=by
 have hm:=u4 46 z;have hlw:∀i,i<(cut 46 z).length->((cut 46 z).getD i []).length<=100000:=λi hi=>ik (y8 46 z _ (aJ hi _)) hz
 rw[S9];refine aU f178 ?_;(repeat' (first|refine' a7|refine' Wv|refine' SK|refine' GW|refine' aw|fail))
 ·(refine' ax);simp[j3,gB,uo];rfl
 ·(refine' ax);rw[if_neg (by assumption),if_pos ag];rfl
 generalize hw:cut 46 z=w at *
 have hw5:w.length=5:=by omega
 refine W.bN (λk l L=>∃(i:Nat)(q:List Int)(a:aK)(c:Nat),Le [(2,bc ba),(4,.slice vE w.length vF),(5,.slice a q.length c),(6,iv i)] l/\cz [.box ba (rF bq) 83 false,.aN (.slice vE w.length vF) 9 1 (ai w),.aN (.slice a q.length c) 3 1 (ai q)] L/\k=5-i/\i<=5/\(w.take i).mapM BX=some q)
  (λl L=>∃(q:List Int)(a:aK)(c:Nat),Le [(2,bc ba),(5,.slice a q.length c)] l/\cz [.box ba (rF bq) 83 false,.aN (.slice a q.length c) 3 1 (ai q)] L/\w.mapM BX=some q) 5 ⟨0,[],_,_,bk,au,ag,ag,by simp⟩ ?_ ?_
 .rintro k l L ⟨i,q,a,c,hl,hL,rfl,h1,h2⟩;refine W.le ?_ hl hL;clear hl hL;have hq:=qo _ _ _ h2;rw[cZ] at hq;have du:i<w.length->(w.getD i ak.ah).length<=100000:=hlw i;(repeat' (first|refine' a7|((with_reducible apply WO.bI);exact aE;(first|exact λs=>AF s _ ag);intro _ _ _ _)|refine' aw|fail))
  ·(refine' ax)
   have hn:BX (w.getD i [])=none:=S7 j3;rw[if_neg (by assumption),if_neg ag,mapM_none BX w [] ag hn];rfl
  .have hs:=vI BX w [] (show i<w.length by omega);have hn:BX (w.getD i [])=some (qJ (w.getD i [])):=S8 j3;rw[h2,hn] at hs;exact⟨_,ag,i+1,q++[qJ (w.getD i [])],_,_,bk,au,rfl,ag,hs⟩
  .have hi:i=5:=by omega
   subst hi;rw[qG ag] at h2;exact⟨q,_,_,bk,au,h2⟩
 .rintro l L ⟨q,a,c,hl,hL,h1⟩;refine aq ?_;refine W.le ?_ hl hL;clear hl hL;have hq:=qo _ _ _ h1;(repeat' (first|refine' a7|refine' SK|refine' GW|refine' aw|fail))
  all_goals
   (refine' ax)
   rw[if_neg (by assumption),if_neg ag,h1];first
                                             |exact Eq.trans (b:=uo none) rfl (fI uo (if_pos (F9.2 (.inl hg))).symm)
                                             |exact Eq.trans (b:=uo none) rfl (fI uo (if_pos (F9.2 (.inr hc))).symm)
                                             |exact Eq.trans (b:=uo (some _)) rfl (fI uo (if_neg (λh=>(F9.1 h).elim (λh=>tf h hg) (λh=>tf h hc))).symm)
end
end Go.Pl
