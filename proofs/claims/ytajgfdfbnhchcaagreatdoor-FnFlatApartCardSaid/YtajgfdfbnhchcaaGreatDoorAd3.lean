/- Lemmas of the proof. No conditions. -/
import Derived.Test.YtajgfdfbnhchcaaGreatDoorAd2
set_option maxRecDepth 100000
set_option maxHeartbeats 4000000
set_option linter.unusedVariables false
set_option linter.unusedSimpArgs false
open Go.Proofs.Tryz
namespace Go.Pl
open Go Go.Ev Go.Lg Go.Proofs
theorem Ph (s:St)(b:Nat)(a:aK)(c:Nat)(p:List a6)(a':aK)(c':Nat)(q:eG)(hV:Jp p q)(o:Op)(hz:o.af∈Ev.cB)(ht:o.to∈Ev.cB)(hk7:1<=o.kind/\o.kind<=7)(ho1:aT o.af=true)(Oa:o.kind=7->aT o.to=true)(nJ:0<=o.at_/\o.at_<=192)(Br:o.aW.length<=24)(hr:iQ s b a c p a' c' q):bP 48 [Tx b,ov o] s (qN b a a') (iv (jB p q o)):=by
 obtain⟨kd,pa,to,at_,tx⟩:=o;dsimp only at hz ht hk7 ho1 Oa nJ Br;show bP 48 [Tx b,.agg ⟨[iv kd,sv pa,sv to,iv at_,sv tx]⟩] s (qN b a a') (iv (jB p q ⟨kd,pa,to,at_,tx⟩));have hdx:=Ht.x hr;have oR:=Ht.n hr;have qI:=Ht.t hr;have I6:=Mj (b:=b) (a:=a) (c:=c) (a':=a') (c':=c') hV;have tE:=XV (b:=b) (a:=a) (c:=c) (a':=a') (c':=c') hV;have VP:=XW (b:=b) (a:=a) (c:=c) (a':=a') (c':=c') hV;have ak9:∀s b2 b5,wu s b a c p a' c' q b2 b5 (dy p pa)->bP 82 [Tx b,sv pa,.func (.func 83) ⟨[]⟩ ⟨[bc b2]⟩] s (J4 b a a' b2 b5) (iv (uw p q pa (decide (zU q 16 0<0)))):=λs b2 b5 hr=>Mk s b a c p a' c' q b2 b5 _ hV pa hz hr
 have ala:∀s b2 b5,wu s b a c p a' c' q b2 b5 (dy p pa)->bP 82 [Tx b,sv to,.func (.func 84) ⟨[]⟩ ⟨[bc b2,bc b5]⟩] s (J4 b a a' b2 b5) (iv (uw p q to (decide (9<=rQ p (dy p pa))))):=λs b2 b5 hr=>Ml s b a c p a' c' q b2 b5 _ hV to ht hr
 by_cases k1:kd=1\/kd=2
 .have e:jB p q ⟨kd,pa,to,at_,tx⟩=uw p q pa (decide (zU q 16 0<0)):=by unfold jB;dsimp only;rw[if_pos k1]
  rw[e];refine aU f48 ?_;(repeat' (first|refine' a7|refine' yU|refine' qL|refine' yV|refine' wo|((with_reducible apply WO.XY);exact aE;(exact OD.mk (uZ.mk cg cg cg) cg cg);(intro s hr;exact ak9 s _ _ hr);intro _ _ _ _)|refine' aw|fail))
  all_goals try refine rO
  all_goals(refine' ax)
  all_goals rfl
 by_cases hk:dy p pa<0
 .have e:jB p q ⟨kd,pa,to,at_,tx⟩=2:=by unfold jB;dsimp only;rw[if_neg k1,if_pos hk]
  rw[e];refine aU f48 ?_;(repeat' (first|refine' a7|refine' yU|refine' qL|refine' yV|refine' wo|refine' aw|fail))
  all_goals try refine rO
  all_goals(refine' ax)
  all_goals rfl
 have R9:0<=dy p pa:=by omega
 by_cases k3:kd=3\/kd=4
 .cases hf:gC q (dy p pa) with
  |true=>
   have e:jB p q ⟨kd,pa,to,at_,tx⟩=4:=by unfold jB;dsimp only;rw[if_neg k1,if_neg hk,if_pos k3,if_pos hf]
   refine' zaJ
  |false=>
   by_cases h9:192<at_+(tx.length:Int)
   .have e:jB p q ⟨kd,pa,to,at_,tx⟩=6:=by unfold jB;dsimp only;rw[if_neg k1,if_neg hk,if_pos k3,if_neg (by rw[hf];exact jT),if_pos h9]
    rw[e];refine aU f48 ?_;(refine' Xm)
    all_goals try refine rO
    all_goals(refine' ax)
    all_goals rfl
   .have e:jB p q ⟨kd,pa,to,at_,tx⟩=0:=by unfold jB;dsimp only;rw[if_neg k1,if_neg hk,if_pos k3,if_neg (by rw[hf];exact jT),if_neg h9]
    rw[e];refine aU f48 ?_;(refine' Xm)
    all_goals try refine rO
    all_goals(refine' ax)
    all_goals rfl
 by_cases k5:kd=5
 .subst k5;by_cases h0:dy p pa=0
  .have e:jB p q ⟨5,pa,to,at_,tx⟩=5:=by unfold jB;dsimp only;rw[if_neg k1,if_neg hk,if_neg k3,if_pos rfl,if_pos (.inl h0)]
   rw[e];refine aU f48 ?_;(repeat' (first|refine' a7|refine' yU|refine' qL|refine' yV|refine' wo|refine' aw|fail))
   all_goals try refine rO
   all_goals(refine' ax)
   all_goals rfl
  cases hf:gC q (dy p pa) with
  |false=>
   have e:jB p q ⟨5,pa,to,at_,tx⟩=0:=by unfold jB;dsimp only;rw[if_neg k1,if_neg hk,if_neg k3,if_pos rfl,if_neg (by rintro(h|h)<;>first|exact h0 h|(rw[hf] at h;cases h.1))]
   refine' zaJ
  |true=>
   by_cases he:0<NJ p (dy p pa)
   .have e:jB p q ⟨5,pa,to,at_,tx⟩=5:=by unfold jB;dsimp only;rw[if_neg k1,if_neg hk,if_neg k3,if_pos rfl,if_pos (.inr ⟨hf,he⟩)]
    rw[e];refine aU f48 ?_;(repeat' (first|refine' a7|refine' yU|refine' qL|refine' yV|refine' wo|refine' Lo|refine' aaH|refine' aw|fail))
    all_goals try refine rO
    all_goals(refine' ax)
    all_goals rfl
   .have e:jB p q ⟨5,pa,to,at_,tx⟩=0:=by unfold jB;dsimp only;rw[if_neg k1,if_neg hk,if_neg k3,if_pos rfl,if_neg (by rintro(h|h)<;>first|exact h0 h|exact he h.2)]
    rw[e];refine aU f48 ?_;(repeat' (first|refine' a7|refine' yU|refine' qL|refine' yV|refine' wo|refine' Lo|refine' aaH|refine' aw|fail))
    all_goals try refine rO
    all_goals(refine' ax)
    all_goals rfl
 by_cases k6:kd=6
 .subst k6;cases hf:gC q (dy p pa) with
  |true=>
   have e:jB p q ⟨6,pa,to,at_,tx⟩=4:=by unfold jB;dsimp only;rw[if_neg k1,if_neg hk,if_neg k3,if_neg k5,if_pos rfl,if_pos hf]
   refine' zaJ
  |false=>
   have e:jB p q ⟨6,pa,to,at_,tx⟩=uw p q to (decide (9<=rQ p (dy p pa))):=by unfold jB;dsimp only;rw[if_neg k1,if_neg hk,if_neg k3,if_neg k5,if_pos rfl,if_neg (by rw[hf];exact jT)]
   rw[e];refine aU f48 ?_;(repeat' (first|refine' a7|refine' yU|refine' qL|refine' yV|refine' wo|refine' Lo|((with_reducible apply WO.XY);exact aE;(exact OD.mk (uZ.mk cg cg cg) cg cg);(intro s hr;exact ala s _ _ hr);intro _ _ _ _)|refine' aw|fail))
   all_goals try refine rO
   all_goals(refine' ax)
   all_goals rfl
 have Oa:=Oa ag;obtain rfl:kd=7:=by omega
 by_cases h0:dy p pa=0
 .have e:jB p q ⟨7,pa,to,at_,tx⟩=5:=by unfold jB;dsimp only;rw[if_neg k1,if_neg hk,if_neg k3,if_neg k5,if_neg k6,if_pos h0]
  rw[e];refine aU f48 ?_;(refine' Xn)
  all_goals try refine rO
  all_goals(refine' ax)
  all_goals rfl
 by_cases h1:0<=dy p to
 .have e:jB p q ⟨7,pa,to,at_,tx⟩=3:=by unfold jB;dsimp only;rw[if_neg k1,if_neg hk,if_neg k3,if_neg k5,if_neg k6,if_neg h0,if_pos h1]
  rw[e];refine aU f48 ?_;(refine' Xn)
  all_goals try refine rO
  all_goals(refine' ax)
  all_goals rfl
 cases hu:under to pa with
 |true=>
  have e:jB p q ⟨7,pa,to,at_,tx⟩=5:=by unfold jB;dsimp only;rw[if_neg k1,if_neg hk,if_neg k3,if_neg k5,if_neg k6,if_neg h0,if_neg h1,if_pos hu]
  refine' zbf
 |false=>
 by_cases h2:dy p (Ev.db to)<0
 .have e:jB p q ⟨7,pa,to,at_,tx⟩=2:=by unfold jB;dsimp only;rw[if_neg k1,if_neg hk,if_neg k3,if_neg k5,if_neg k6,if_neg h0,if_neg h1,if_neg (by rw[hu];exact jT),if_pos h2]
  rw[e];refine aU f48 ?_;(refine' Xn)
  all_goals try refine rO
  all_goals(refine' ax)
  all_goals rfl
 cases hg:gC q (dy p (Ev.db to)) with
 |false=>
  have e:jB p q ⟨7,pa,to,at_,tx⟩=4:=by unfold jB;dsimp only;rw[if_neg k1,if_neg hk,if_neg k3,if_neg k5,if_neg k6,if_neg h0,if_neg h1,if_neg (by rw[hu];exact jT),if_neg h2,if_pos hg]
  refine' zbf
 |true=>
 by_cases h3:dy p (Ev.db to)≠dy p (Ev.db pa)
 .by_cases h4:12<=NJ p (dy p (Ev.db to))
  .have e:jB p q ⟨7,pa,to,at_,tx⟩=6:=by unfold jB;dsimp only;rw[if_neg k1,if_neg hk,if_neg k3,if_neg k5,if_neg k6,if_neg h0,if_neg h1,if_neg (by rw[hu];exact jT),if_neg h2,if_neg (by rw[hg];decide),if_pos ⟨h3,h4⟩]
   rw[e];refine aU f48 ?_;(refine' aet)
   all_goals try refine rO
   all_goals(refine' ax)
   all_goals rfl
  .have e:jB p q ⟨7,pa,to,at_,tx⟩=0:=by unfold jB;dsimp only;rw[if_neg k1,if_neg hk,if_neg k3,if_neg k5,if_neg k6,if_neg h0,if_neg h1,if_neg (by rw[hu];exact jT),if_neg h2,if_neg (by rw[hg];decide),if_neg (λh=>h4 h.2)]
   rw[e];refine aU f48 ?_;(refine' aet)
   all_goals try refine rO
   all_goals(refine' ax)
   all_goals rfl
 .have e:jB p q ⟨7,pa,to,at_,tx⟩=0:=by unfold jB;dsimp only;rw[if_neg k1,if_neg hk,if_neg k3,if_neg k5,if_neg k6,if_neg h0,if_neg h1,if_neg (by rw[hu];exact jT),if_neg h2,if_neg (by rw[hg];decide),if_neg (λh=>h3 h.1)]
  rw[e];refine aU f48 ?_;(refine' aet)
  all_goals try refine rO
  all_goals(refine' ax)
  all_goals rfl
end Go.Pl
namespace Go.Lg
open Go Go.Ev
section
variable {E:dA}{X:dM}{Γ:ij}{l:Kn}{L L' R:bE}{K:KO}{x y o:Operand}{t t2:TypeId}{s:St}{a a':aK}{n c c' sz e i:Nat}{α:Type}{enc:ak α sz}{p q:List α}{k:IntKind}
theorem WO.aeu {cs:aQ}[ht:TT E t e sz α enc](hx:Ev l x (.slice a n c))(ho:Ev l o (.int k (i:Int)))(hm:It.aN (.slice a n c) e sz cs∈L)(hj:i<=n)
  (h:∀m a' c',Dl sz a i (n-i) a'->K (.slice a' (n-i) c') L m m (λb=>b∈aj a) Z):WO E X Γ l (.slice t x (some o) none none) L K:=λtm s hl hi=>by
 have h1:∀b∈aj a,Fi Γ s b:=λb hb=>hi.may hm (by
  cases a with
  |none=>simp[aj] at hb
  |some a=>simpa[It.aY,na,aj] using hb)
 have hv:=yN.slv (hi.it _ hm) λb hb=>(h1 b hb).1
 obtain⟨a',c',s',h2,h3,h4,h5⟩:=Cl (ht:=ht) (i:=i) (j:=n) (lo:=some o) (hi:=none) ⟨.inr ⟨o,k,rfl,ho⟩,.inl ⟨rfl,rfl⟩,ag⟩ hl hv;have mD:∀call:dJ,Fb E call (aM tm) s (.slice t x (some o) none none)=some (.slice a' (n-i) c',s'):=λcall=>by
  show kj E s t (aM tm x) _ _ none=_;rw[hx.eval hl,h2]
 rcases h3 with rfl|⟨b,lB,rfl⟩
 .exact fS.pure mD ⟨L,_,Z,hi,kJ.id,h _ _ _ h4⟩
 .exact fS.pure mD ⟨L,_,Z,hi.aV (h1 b lB),cX (h1 b lB).1 lB,by rw[cw];exact h _ _ _ h4⟩
theorem WO.aew {cs:aQ}[ht:TT E t e sz α enc](hx:Ev l x (.slice a n c))(ho:Ev l o (.int k (i:Int)))(hm:It.aN (.slice a n c) e sz cs∈L)(hj:i<=n)
  (h:∀m,K (.slice a i c) L m m (λb=>b∈aj a) Z):WO E X Γ l (.slice t x none (some o) none) L K:=λtm s hl hi=>by
 have h1:∀b∈aj a,Fi Γ s b:=λb hb=>hi.may hm (by
  cases a with
  |none=>simp[aj] at hb
  |some a=>simpa[It.aY,na,aj] using hb)
 refine' zar
 .exact fS.pure mD ⟨L,_,Z,hi,kJ.id,h _⟩
 .exact fS.pure mD ⟨L,_,Z,hi.aV (h1 b lB),cX (h1 b lB).1 lB,by rw[cw];exact h _⟩
theorem WO.aev {n0:Nat}{d:α}[ht:TT E t e sz α enc][hd:TD E t sz α enc d](hx:Ev l x (.slice a' n c'))(hs:Dl sz a i n a')(hu:yQ (.aN (.slice a n0 c) e sz (ai (sz:=sz) p)) (.aN (.slice a n0 c) e sz (ai (sz:=sz) (p.take i++List.replicate n d++p.drop (i+n)))) L L')(hn:i+n<=p.length)
  (h:∀m,K (.tuple ⟨[]⟩) L' m m (λb=>b∈aj a) (λb=>b∈aj a)):WO E X Γ l (.call ⟨.builtin .clear,⟨[x]⟩,⟨[t]⟩⟩) L K:=λtm s hl hi=>by
 obtain⟨z,Dq,_⟩:=ht.h;obtain⟨UI,ii,z1,J0,ua,ZC,J2,hi5,hi6,hi7⟩:=Dq.h;obtain⟨e',z',tL,hdz⟩:=hd.h;obtain⟨alb,ii',z1',aii,ant,aij,alc,_⟩:=tL.h;have hee:e'=e:=by
  have:=alb.symm.trans UI
  injection this with this
  injection this
 subst hee;rw[J0] at aii;cases aii;rw[ZC] at aij;cases aij;have hzd:bW z1=ak.cells (sz:=sz) d:=by rw[hdz,<-alc]
 obtain⟨R,p1,p2⟩:=hu.cR;have hm:It.aN (.slice a n0 c) e' sz (ai (sz:=sz) p)∈L:=p1.mem_iff.2 (by simp);have nV:∀call:dJ,Fb E call (aM tm) s (.call ⟨.builtin .clear,⟨[x]⟩,⟨[t]⟩⟩)=Ab E s [t] (.slice a' n c'):=λcall=>by
  show rZ E s .clear [t] (aM tm x)=_;rw[hx.eval hl];rfl
 rcases wc n with x7|x7
 .subst x7;have e1:p.take i++List.replicate 0 d++p.drop (i+0)=p:=by simp
  have e2:L.Perm L':=by rw[e1] at p2;exact p1.trans p2.symm
  have uG:Ab E s [t] (.slice a' 0 c')=some (.tuple ⟨[]⟩,s):=by
   cases a' with
   |none=>
    show Ev.elemOf E (jb [t] 0) (λ_=>aL (Value.tuple ⟨[]⟩) s)=_;unfold Ev.elemOf;show ob (some t) _=_;rw[cr,UI];rfl
   |some a'=>
    obtain⟨b,o',r⟩:=a';show Ev.elemOf E (jb [t] 0) (λe=>bo (Nat.beq 0 0) (aL (Value.tuple ⟨[]⟩) s) _)=_;unfold Ev.elemOf;show ob (some t) _=_;rw[cr,UI];rfl
  exact fS.pure (λcall=>(nV call).trans uG) ⟨L',(λi=>i∈aj a),(λi=>i∈aj a),hi.cR e2,kJ.id,h _⟩
 .rcases hi.it _ hm with⟨h3,h4⟩|⟨b,n',k',w,h3,h4,h5,h6⟩
  .exfalso;have rD:=bh (sz:=sz) p;rw[h4] at rD;have h7:0<p.length*sz:=Nat.mul_pos ag ag;simp at rD;omega
  .cases h3
   have ha':a'=some ⟨b,0+i*sz,none⟩:=by
    rcases hs.h with h|⟨h,_⟩
    .exact h
    .omega
   subst ha';have du:=(hi.may hm (b:=b) (by simp[It.aY,na]));have hr:=hi.aV du;have rD:=bh (sz:=sz) p;have c8:i*sz+n*sz<=p.length*sz:=by rw[<-mK];exact Kc _ hn
   have ald:lU (bW z1) n=ai (sz:=sz) (List.replicate n d):=by rw[hzd,Dh]
   have dK:fP (0+i*sz) (lU (bW z1) n) (ai (sz:=sz) p)=some (ai (sz:=sz) (p.take i++List.replicate n d++p.drop (i+n))):=by
    rw[ald,nF,xw _ _ _ (by rw[bh,ry,rD];exact c8),nc,nc,<-pK,<-su,bh,ry,mK]
   have BR:jv (bW z1)=true:=by rw[hzd];exact(mv _).2 (enc.fl d)
   have hp2:(p.take i++List.replicate n d++p.drop (i+n)).length=p.length:=by rw[bJ,bJ,cZ,ry,gd];omega
   refine fS.pure (v:=.tuple ⟨[]⟩) (s':=(s.aV b).put b (some (.cells (ai (sz:=sz) (p.take i++List.replicate n d++p.drop (i+n))) e' w))) (λcall=>(nV call).trans ?_) ⟨L',(λi=>i∈aj (some ⟨b,0,none⟩)),(λi=>i∈aj (some ⟨b,0,none⟩)),hr.put hu rfl rfl ?_,(kJ.trans (cX du.1 (by simp[aj])) (jZ (by simpa using du.1) (by simp[aj]) (by simp[aj]))),by rw[dZ,cw];exact h _⟩
   .unfold Ab Ev.elemOf;show ob (some t) _=_;rw[cr,UI];show bo (Nat.beq n 0) _ _=_;rw[V0 x7];show eg true _=_;rw[eD];unfold St.row St.look;rw[h4,cr];show ob (size E e') _=_;have Q0:size E e'=some sz:=by unfold size;rw[J0];simp[ua]
    have hze:zero E e'=some z1:=by unfold zero;rw[J0];simp[ZC]
    rw[Q0,cr,hze,cr,dh,show(bW z1).length=sz by rw[J2];exact hi5,lL,il hi6,BR];show ob (fP (0+i*sz) (lU (bW z1) n) (ai (sz:=sz) p)) _=_;rw[dK];rfl
   .refine .inr ⟨b,_,_,w,rfl,by show T.get (St.heap _) b=_;simp,by rw[bh,hp2,<-rD];exact h5,h6⟩
end
end Go.Lg
