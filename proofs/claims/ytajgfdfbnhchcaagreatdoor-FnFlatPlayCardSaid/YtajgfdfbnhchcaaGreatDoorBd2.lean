/- Lemmas of the proof. No conditions. -/
import Derived.Test.YtajgfdfbnhchcaaGreatDoorBd1
set_option maxRecDepth 100000
set_option maxHeartbeats 4000000
set_option linter.unusedVariables false
set_option linter.unusedSimpArgs false
open Go.Proofs.Tryz
namespace Go.Pl
open Go Go.Ev Go.Lg Go.Proofs
variable {i:Nat}{z:az}{E:ig}{X:fR}{Γ:qV}{L R:bZ}{K:KO}{xs:List Operand}{ts:Array TypeId}{vs:a6}{A:List Nat}{st:au}{L':bZ}{x y:Operand}{n c e:Nat}{p:List a7}{w:fg}{m:Int}{b:Bool}{q:dg}
theorem l8 (s:St)(v:SA)(st:au)(h:dA 100000 st)(n:iM)(hr:cS s v st):jQ bh bw 171 [fK v st,nv n] s (iO v) 200 ((bR st n).getD []) (bR st n).isSome:=by
 have tZ:=Rd.EH hr;have uy:=Rd.off hr;have uC:=Rd.CM hr;by_cases hc:(!eD n||decide (n.kind≠2)||!fw st n.aX)=true
 .have he:bR st n=none:=by unfold bR;rw[if_pos hc]
  rw[he];refine aT f171 ?_;repeat' (first|refine' aW|refine' Po|refine' Pr|refine' av|fail)
  all_goals first|((refine' fk)<;>rfl)|(exfalso;simp_all;done)
 .have vN:eD n=true/\n.kind=2/\fw st n.aX=true:=by simpa[and_assoc] using hc
  obtain⟨k1,k2,k3⟩:=vN;have g1:(!eD n)=false:=by rw[k1];rfl
  have g2:(!decide (n.kind=2))=false:=by simp[k2]
  have g3:(!fw st n.aX)=false:=by rw[k3];rfl
  have ht:=ek.of k3;have uG:=(ka.of k1).sz;have aob:=(Pg.lh k1).2.1;have PU:=YL h ht;have he:bR st n=match oK st n.aX with
    |none=>none
    |some s=>if(s.length:Int)≠n.size then none else iS s:=by unfold bR;rw[if_neg hc];rfl
  refine aT f171 ?_;(repeat' (first|refine' aW|refine' Po|refine' Pr|((with_reducible apply WO.mq);exact aC;(first|exact λs hr=>MS s _ _ aL _ aL hr|exact λs hr=>MS s _ _ aL ⟨⟨_,_,_,_,_⟩,_,_⟩ aL hr);exact eF;intros)|((with_reducible apply WO.oM);exact aC;exact λs=>Gm s _ ag;intro _ _ abM abN _ _)|refine' av|fail))
  .obtain⟨z,hz⟩:=jh.1 ur;rw[hz] at he j8;rw[he];simp only;rw[if_pos (show(z.length:Int)≠n.size from j8)];(refine' fk)<;>rfl
  .obtain⟨z,hz⟩:=jh.1 ur;rw[hz] at he j8;rw[he];simp only;rw[if_neg (λhx:(z.length:Int)≠n.size=>hx j8)];(refine' fk)<;>rw[hz]<;>rfl
  .have hz:oK st n.aX=none:=by cases hb:oK st n.aX<;>simp_all
   rw[hz] at he;rw[he];(refine' fk)<;>rfl
theorem Eb (s:St)(v:SA)(st:au)(h:dA 100000 st)(n:iM)(hn:ka n)(hr:cS s v st):bF 80 [fK v st,nv n] s (iO v) (sv (bE st n)):=by
 have tZ:=Rd.EH hr;have uy:=Rd.off hr;have uC:=Rd.CM hr;have ht:=hn.tr;have jd:=hn.sz;obtain⟨hl,dG⟩:=lq h ht;have hm:=ht.mn;refine aT f80 ?_;refine' XZ
 unfold bE;generalize iy st n.aX=w at *
 refine W.bN (λk l L=>∃(i bt:Nat)(z:az),Le [(3,bg bt),(6,.slice gF w.length gG),(5,sv z),(7,iv i)] l/\cC [.aQ (.slice gF w.length gG) 9 1 (ai w),.box bt (xR n) 130 false] L/\k=w.length-i/\i<=w.length/\z.length<=i*3012/\qy n.size 0 w []=qy n.size i (w.drop i) z)
  (λl L=>Le [(5,sv (qy n.size 0 w []))] l/\cC [] L) w.length ⟨0,_,[],bj,ar,ag,ag,ay,rfl⟩ ?_ ?_
 .rintro k l L ⟨i,bt,z,jM,hL,rfl,h1,h2,h3⟩;refine W.le ?_ jM hL;clear jM hL;by_cases hi:i<w.length
  .have RQ:=dG _ (aK hi ak.ah);rw[drop_cons hi,qy] at h3;have hlo:gu n.size i<=12/\ -10000<=gu n.size i:=by unfold gu;omega
   (have hzl:(iz (gu n.size i-((w.getD i ak.ah).length:Int))).length<=12:=by unfold iz;rw[qX];omega);repeat' (first|refine' aW|refine' ahW|refine' L6|refine' av|fail)
   .refine⟨_,?_,i+1,_,_,bj,ar,rfl,ag,?_,h3⟩
    .omega
    .simp only[bL];omega
   .exfalso;omega
  .have fF:i=w.length:=by omega
   subst fF;rw[iI] at h3;have h3:qy n.size 0 w []=z:=h3;refine' cR;all_goals first|(exfalso;omega;done)|(rw[h3];exact⟨bj,ar⟩)
 .rintro l L ⟨jM,hL⟩;refine aq ?_;refine W.le ?_ jM hL;refine' cR
  refine' ax;rfl
theorem BV (s:St)(v:SA)(st:au)(h:dA 100000 st)(t:cB)(ht:ek t)(hr:cS s v st):eU bh bw 79 [fK v st,tv t] s (iO v) 130 (fC st t):=by
 have tZ:=Rd.EH hr;have uy:=Rd.off hr;have uC:=Rd.CM hr;obtain⟨hl,dG⟩:=lq h ht;have hm:=ht.mn;refine aT f79 ?_;refine' XZ
 unfold fC;generalize iy st t=w at *
 refine W.bN (λk l L=>∃(i:Nat)(a2:aM)(c2:Nat)(q:List iM),Le [(6,.slice gF w.length gG),(5,.slice a2 q.length c2),(7,iv i)] l/\cC [.aQ (.slice a2 q.length c2) 130 10 (ai q),.aQ (.slice gF w.length gG) 9 1 (ai w)] L/\k=w.length-i/\i<=w.length/\q=(w.take i).map λs=>(eR s).getD bB)
  (λl L=>∃(a2:aM)(c2:Nat),Le [(5,.slice a2 (w.map λs=>(eR s).getD bB).length c2)] l/\cC [.aQ (.slice a2 (w.map λs=>(eR s).getD bB).length c2) 130 10 (ai (w.map λs=>(eR s).getD bB))] L) w.length ⟨0,_,_,[],bj,ar,ag,ag,rfl⟩ ?_ ?_
 .rintro k l L ⟨i,a2,c2,q,jM,hL,rfl,h1,h2⟩;refine W.le ?_ jM hL;clear jM hL;have hql:q.length<=16:=by rw[h2];simp;omega
  by_cases hi:i<w.length
  .have RQ:=dG _ (aK hi ak.ah);(repeat' (first|refine' aW|((with_reducible apply WO.aV);exact aC;exact λs=>ua s _ ag;intros)|refine' av|fail))
   .refine⟨_,?_,i+1,_,_,q++[(eR (w.getD i ak.ah)).getD bB],bj,ar,rfl,ag,?_⟩
    .omega
    .rw[h2,fI w ak.ah hi];simp
   .exfalso;omega
  .have fF:i=w.length:=by omega
   subst fF;rw[gY] at h2;subst h2;refine' cR;all_goals first|(exfalso;omega;done)|exact⟨_,_,bj,ar⟩
 .rintro l L ⟨a2,c2,jM,hL⟩;refine aq ?_;refine W.le ?_ jM hL;refine' cR
  refine' kL;rfl
theorem A6 {st:au}{p:jF}{n:Int}:((below st p n).getD []).length<=4:=by
 cases hb:below st p n with
 |none=>simp
 |some w=>have:=(Pg.iW hb).1;simp;omega
theorem E0 (s:St)(v:SA)(st:au)(h:dA 100000 st)(t:cB)(hr:cS s v st):eU bh bw 242 [fK v st,tv t] s (iO v) 83 (fL st t):=by
 have tZ:=Rd.EH hr;have uy:=Rd.off hr;have uC:=Rd.CM hr;by_cases h0:t.depth=0
 .have hi:fL st t=[]:=by unfold fL;rw[if_pos (.inl h0)]
  rw[hi];refine aT f242 ?_;refine' Cj;all_goals first|(exfalso;simp_all;done)|((refine' kL);rfl)
 .cases hh:aI t.cI with
  |true=>
   (have hi:fL st t=[]:=by unfold fL;rw[if_pos (.inr hh)]);rw[hi];refine aT f242 ?_;refine' Cj;all_goals first|(exfalso;simp_all;done)|((refine' kL);rfl)
  |false=>
   have hi:fL st t=t.cI::if t.depth=2 then((below st t.cI 2).getD []).filter (λp=>!aI p) else []:=by
    unfold fL;rw[if_neg];rintro(h|h)
    .exact h0 h
    .rw[hh] at h;cases h
   rw[hi];by_cases h2:t.depth=2
   .rw[if_pos h2];have PU:=A6 (st:=st) (p:=t.cI) (n:=2);refine aT f242 ?_;repeat' (first|refine' aW|refine' Hq|refine' aaW|refine' av|fail)
    all_goals first|(exfalso;simp_all;done)|skip
    generalize(below st t.cI 2).getD []=w at *
    refine W.bN (λk l L=>∃(i:Nat)(a2:aM)(c2:Nat)(q:dg),Le [(6,.slice Ht w.length Hu),(5,.slice a2 q.length c2),(8,iv i)] l/\cC [.aQ (.slice a2 q.length c2) 83 5 (ai q),.aQ (.slice Ht w.length Hu) 83 5 (ai w)] L/\k=w.length-i/\i<=w.length/\q.length<=i+1/\q=t.cI::(w.take i).filter λp=>!aI p)
     (λl L=>∃(a2:aM)(c2:Nat),Le [(5,.slice a2 (t.cI::w.filter λp=>!aI p).length c2)] l/\cC [.aQ (.slice a2 (t.cI::w.filter λp=>!aI p).length c2) 83 5 (ai (t.cI::w.filter λp=>!aI p))] L) w.length ⟨0,_,_,[]++[t.cI],bj,ar,ag,ag,ay,rfl⟩ ?_ ?_
    .rintro k l L ⟨i,a2,c2,q,jM,hL,rfl,h3,h4,h5⟩;refine W.le ?_ jM hL;clear jM hL;by_cases hi:i<w.length
     .have e:=fI w ak.ah hi;refine' Cj
      .refine⟨_,?_,i+1,_,_,q++[w.getD i ak.ah],bj,ar,rfl,ag,?_,?_⟩
       .omega
       .simp;omega
       .rw[h5,e,qk,sj,if_pos (by rw[j8];rfl)];rfl
      .refine⟨_,?_,i+1,_,_,q,bj,ar,rfl,ag,ag,?_⟩
       .omega
       .rw[h5,e,qk,sj,if_neg (by rw[j8];simp)];simp
      .exfalso;omega
     .have fF:i=w.length:=by omega
      subst fF;rw[gY] at h5;subst h5;refine' Cj;all_goals first|(exfalso;omega;done)|exact⟨_,_,bj,ar⟩
    .rintro l L ⟨a2,c2,jM,hL⟩;refine aq ?_;refine W.le ?_ jM hL;refine' cR
     refine' kL;rfl
   .rw[if_neg h2];refine aT f242 ?_;refine' Cj
    all_goals first|(exfalso;simp_all;done)|((refine' kL);rfl)
theorem M8 (s:St)(v:SA)(st:au)(h:dA 100000 st)(t:cB)(depth level:Int)(hr:cS s v st):eU bh bw 243 [fK v st,tv t,iv depth,iv level] s (iO v) 83 (jb st t depth level):=by
 have tZ:=Rd.EH hr;have uy:=Rd.off hr;have uC:=Rd.CM hr;unfold jb;refine aT f243 ?_;repeat' (first|refine' aW|refine' aeG|refine' aaW|refine' av|fail)
 .rw[if_pos aL];refine' kL;rfl
 .rw[if_neg (by simp_all),if_pos aL];refine' kL;rfl
 .have hn:below st t.cI depth=none:=by cases hb:below st t.cI depth<;>simp_all
  rw[if_neg (by simp_all),if_neg aL,hn];refine' kL;rfl
 .obtain⟨w,hw⟩:=jh.1 j8;rw[if_neg (by simp_all),if_neg aL,hw];refine' kL;rfl
theorem YM (s:St)(v:SA)(st:au)(h:dA 100000 st)(t:cB)(o:dg)(ho:qw 200 st [t.cI] []=some o)(hr:cS s v st):eU bh bw 202 [fK v st,tv t] s (iO v) 83 o:=by
 have tZ:=Rd.EH hr;have uy:=Rd.off hr;have uC:=Rd.CM hr;refine aT f202 ?_;(repeat(first|refine' xT|refine' av|fail))
 refine W.bN (λk l L=>∃(f bs:Nat)(q r:dg)(a c a2 c2:_),Le [(2,bg bs),(5,.slice a q.length c),(6,.slice a2 r.length c2)] l/\cC [.aQ (.slice a q.length c) 83 5 (ai q),.aQ (.slice a2 r.length c2) 83 5 (ai r),.box bs (se v st) 81 false] L/\k=f/\f<=200/\q.length<=200-f/\r.length<=1+4*(200-f)/\qw f st r q=some o)
  (λl L=>∃(a:_)(c:_),Le [(5,.slice a o.length c)] l/\cC [.aQ (.slice a o.length c) 83 5 (ai o)] L) 200 ⟨200,_,[],[t.cI],_,_,_,_,bj,ar,rfl,ag,ay,ay,ho⟩ ?_ ?_
 .rintro k l L ⟨f,bs,q,r,a,c,a2,c2,jM,hL,rfl,h1,h2,h3,h4⟩;refine W.le ?_ jM hL;clear jM hL;obtain⟨f,rfl⟩:∃g,k=g+1:=by
   cases k with
   |zero=>cases h4
   |succ g=>exact⟨g,rfl⟩
  cases r with
  |nil=>
   (have h4:q=o:=by injection h4);subst h4;refine' cR;all_goals first|(exfalso;simp_all;done)|exact⟨_,_,bj,ar⟩
  |cons p r=>
   rw[qw] at h4;rw[cY] at h3;have PU:=A6 (st:=st) (p:=p) (n:=p.level);cases hh:aI p with
   |true=>
    rw[hh] at h4;have h4:qw f st r q=some o:=h4;refine' Cj
    .refine⟨_,?_,f,_,q,_,_,_,_,_,bj,ar,rfl,ag,ag,?_,h4⟩
     .omega
     .show r.length<=_;omega
    .exfalso;simp_all
   |false=>
    rw[hh] at h4;have h4:qw f st (if 0<p.level then(below st p p.level).getD []++r else r) (q++[p])=some o:=h4;repeat' (first|refine' aW|refine' Hq|refine' aaW|refine' av|fail)
    .have j8:0<p.level:=j8;rw[if_pos j8] at h4;refine⟨_,?_,f,_,_,_,_,_,_,_,bj,ar,rfl,ag,?_,?_,h4⟩
     .omega
     .simp;omega
     .simp at PU⊢;omega
    .have j8:p.level<=0:=j8;rw[if_neg ag] at h4;refine⟨_,?_,f,_,_,_,_,_,_,_,bj,ar,rfl,ag,?_,?_,h4⟩
     .omega
     .simp;omega
     .show r.length<=_;omega
    .exfalso;simp_all
 .rintro l L ⟨a,c,jM,hL⟩;refine aq ?_;refine W.le ?_ jM hL;refine' cR
  refine' kL;rfl
variable {v:SA}{Lm L0:bZ}
section
variable {l:Kn}{f:FuncId}{r:Value}{s:St}
theorem WO.aiQ (hx:kA l xs vs)(h:∀s,fM E X f vs s Lm [] λr' L'=>r'=r/\L'=L0)(hp:oZ Lm L R)(k:∀m m',jX L m->m<=m'->K r (L0++R) m m' (FtR [] Lm m m') (FtW Lm m m')):WC E X Γ l f xs ts L K:=
 WO.call (Lm:=Lm) (R:=R) hx hp.cZ (λs hi b hb=>by cases hb) (λs _=>h s) (by rintro r' L' m m' ho hm ⟨rfl,rfl⟩;exact k m m' ho hm)
structure zP (s:St)(v:SA)(st:au):Prop where
 a:cS s v st
 g:bH s v.g st.cP.length 5 (ai st.cP)
 d:bH s v.d st.eu.length 5 (ai st.eu)
structure aaR (Γ:qV)(L:bZ)(v:SA)(st:au):Prop where
 a:rC Γ L v st
 g:jB Γ L v.g st.cP.length 5 (ai st.cP)
 d:jB Γ L v.d st.eu.length 5 (ai st.eu)
abbrev Gt (v:SA):List Nat:=iO v++(aj v.g++aj v.d)
theorem aaR.row (h:aaR Γ L v st)(hi:Inv Γ s L):zP s v st/\∀b∈Gt v,FT Γ s b:=by
 refine⟨⟨(h.a.row hi).1,(h.g.row hi).1,(h.d.row hi).1⟩,λb hb=>?_⟩;rcases eZ.1 hb with hb|hb
 .exact(h.a.row hi).2 b hb
 .rcases eZ.1 hb with hb|hb
  .exact(h.g.row hi).2 b hb
  .exact(h.d.row hi).2 b hb
abbrev M9 (E:ig)(X:fR)(f:FuncId)(vs:a6)(s:St)(A:List Nat)(da:au)(mk:Value->Value):Prop:=fM E X f vs s [] A λr L=>∃v':SA,r=mk (fK v' da)/\L=eQ v' da
theorem WO.XF {da:au}{mk:Value->Value}(hx:kA l xs vs)(h:∀s,zP s v st->M9 E X f vs s (Gt v) da mk)(hh:aaR Γ L v st)(k:∀m m' v',jX L m->m<=m'->K (mk (fK v' da)) (eQ v' da++L) m m' (FtR (Gt v) [] m m') (FtW [] m m')):WC E X Γ l f xs ts L K:=
 WO.call (Lm:=[]) (R:=L) hx (.refl _) (λs hi=>(hh.row hi).2) (λs hi=>h s (hh.row hi).1) (by rintro r' L' m m' ho hm ⟨v',rfl,rfl⟩;exact k m m' v' ho hm)
theorem WO.afl {da:au}{mk:Value->Value}(hx:kA l xs vs)(h:∀s,M9 E X f vs s [] da mk)(k:∀m m' v',jX L m->m<=m'->K (mk (fK v' da)) (eQ v' da++L) m m' (FtR [] [] m m') (FtW [] m m')):WC E X Γ l f xs ts L K:=
 WO.call (Lm:=[]) (R:=L) hx (.refl _) (λs hi b hb=>by cases hb) (λs _=>h s) (by rintro r' L' m m' ho hm ⟨v',rfl,rfl⟩;exact k m m' v' ho hm)
theorem jB.apart {a:aM}{n sz:Nat}{cs:a6}(hh:jB Γ R a n sz cs)(hi:Inv Γ s (Lm++R)):∀b∈aj a,b∉Lm.flatMap It.a8:=by
 have Ch:=hi.nd;rw[CZ,rh] at Ch;have afm:∀{x:It},x∈R->∀b∈x.a8,b∉Lm.flatMap It.a8:=λhx b hb hm=>Ch.2.2 b hm b (pC.2 ⟨_,hx,hb⟩) rfl
 intro b hb;cases hh with
 |rd h=>
  intro hm;obtain⟨x,hx,hxb⟩:=pC.1 hm;have h1:=(hi.lt x (cT _ hx) b hxb).2;have h2:=Rd.lt h b hb;rcases h1 with h1|h1
  .omega
  .exact h.M b hb h1
 |aQ h=>exact afm h b (by
   cases a with
   |none=>simp[aj] at hb
   |some a=>simpa[It.a8,mZ,aj] using hb)
 |sub h hr lD=>
  rename_i c e n0 a0 cs0;exact afm h b (by
   have:=lD b hb;cases a0 with
   |none=>simp[aj] at this
   |some a=>simpa[It.a8,mZ,aj] using this)
 |box h ha hn=>
  subst ha;exact afm h b (by simpa[It.a8,aj] using hb)
theorem WO.aeN {da:au}{ok:Bool}{mk:Value->Value}{a:aM}{n sz:Nat}{cs:a6}(hx:kA l xs vs)(h:∀s,bH s a n sz cs->(∀b∈aj a,b∉(eQ v st).flatMap It.a8)->eV E X f vs s (aj a) v st da ok mk)(hp:oZ (eQ v st) L R)(hh:jB Γ R a n sz cs)(k:∀m m' v',jX L m->m<=m'->(ok=false->v'=v)->K (mk (fK v' da)) (eQ v' da++R) m m' (FtR (aj a) (eQ v st) m m') (FtW (eQ v st) m m')):WC E X Γ l f xs ts L K:=
 WO.call (Lm:=eQ v st) (R:=R) hx hp.cZ (λs hi=>(hh.row (hi.cZ hp.cZ|>.sub ⟨R,.refl _,nK _ _⟩)).2) (λs hi=>h s (hh.row (hi.cZ hp.cZ|>.sub ⟨R,.refl _,nK _ _⟩)).1 (jB.apart hh (hi.cZ hp.cZ))) (by rintro r L' m m' ho hm ⟨v',hv,rfl,rfl⟩;exact k m m' v' ho hm hv)
theorem ahH {rs:List ResultVar}{x:Ex}{v':SA}{da:au}{mk:Value->Value}{ws:a6}(hx:x= .normal\/x= .ret)(hr:qD E l L rs ws)(hL:cC (eQ v' da) L)(hv:gL ws=mk (fK v' da)):
  vh E rs (λr L=>∃v':SA,r=mk (fK v' da)/\L=eQ v' da) x l L:=⟨hx,ws,_,hr,hL,v',hv,rfl⟩
theorem alx {rs:List ResultVar}{x:Ex}{ws:a6}(hx:x= .normal\/x= .ret)(hr:qD E l L rs ws)(hL:cC L0 L)(hv:gL ws=r):vh E rs (λr' L'=>r'=r/\L'=L0) x l L:=⟨hx,ws,_,hr,hL,hv,rfl⟩
end
theorem Na:∀(new old B:a6),old.length=new.length->Go.Ev.pK new (old++B)=some (new++B)
 |[],[],B,_=>rfl
 |[],_::_,B,h=>by cases h
 |x::new,[],B,h=>by cases h
 |x::new,y::old,B,h=>by
  show ob (Go.Ev.pK new (old++B)) (λr=>some (x::r))=_;rw[Na new old B (by simpa using h)];rfl
theorem Ic:∀(A new old B:a6),old.length=new.length->fT A.length new (A++(old++B))=some (A++(new++B))
 |[],new,old,B,h=>Na new old B h
 |x::A,new,old,B,h=>by
  show ob (fT A.length new (A++(old++B))) (λr=>some (x::r))=_;rw[Ic A new old B h];rfl
theorem YN {α:Type}{sz:Nat}{enc:ak α sz}(p:List α){i:Nat}(q:α)(hi:i<p.length):fT (i*sz) (ak.cells (sz:=sz) q) (ai (sz:=sz) p)=some (ai (sz:=sz) (p.set i q)):=by
 have h1:p=p.take i++(p.getD i (ak.ah (sz:=sz))::p.drop (i+1)):=by
  rw[aZ,bd hi];simp
 have h2:p.set i q=p.take i++q::p.drop (i+1):=by rw[List.set_eq_take_append_cons_drop,if_pos hi]
 have hA:(ai (sz:=sz) (p.take i)).length=i*sz:=by rw[bp,cW,As (si hi)]
 rw[h2]
 conv=>lhs;rw[h1]
 rw[rA,rA,dJ,dJ,<-hA];exact Ic _ _ _ _ (by rw[ak.len,ak.len])
theorem YO {l:a6}(h:∀v∈l,flat v=true):jE l=true:=by
 induction l with
 |nil=>rfl
 |cons x l ih=>
  show bo (flat x) (jE l) false=true;rw[h x ay,ih (λy hy=>h y (by simp[hy]))];rfl
theorem WO.abO {E:ig}{X:fR}{Γ:qV}{l:Kn}{L L':bZ}{K:KO}{x y:Operand}{t:TypeId}{a:aM}{n sz:Nat}{α:Type}{enc:ak α sz}{p:List α}{q:α}{i c e:Nat}[ht:jc E t sz](hx:Ev l x (dr a i sz 0))(hy:Ev l y (.agg ⟨ak.cells (sz:=sz) q⟩))
  (hu:zd (.aQ (.slice a n c) e sz (ai (sz:=sz) p)) (.aQ (.slice a n c) e sz (ai (sz:=sz) (p.set i q))) L L')(hi:i<p.length)(k:∀n,K (.tuple ⟨[]⟩) L' n n (λi=>i∈aj a) (λi=>i∈aj a)):WO E X Γ l (.store t x y) L K:=λtm s h1 h2=>by
 obtain⟨R,p1,p2⟩:=hu.cZ;have hm:It.aQ (.slice a n c) e sz (ai (sz:=sz) p)∈L:=p1.mem_iff.2 ay;rcases h2.it _ hm with⟨h3,h4⟩|⟨b,n',k',w,aS,h3,h4,h5,h6⟩
 .cases h3
  have:=bp (sz:=sz) p;rw[h4] at this;have hp:=enc.pos;have:p.length*sz=0:=by simpa using this.symm
  rcases Nat.mul_eq_zero.1 this with h|h<;>omega
 .cases h3
  have dG:=(h2.may hm (b:=b) (by simp[It.a8,mZ]));have hr:=h2.aY dG;have dM:=YN (enc:=enc) p q hi;refine fW.pure (v:=.tuple ⟨[]⟩) (s':=(s.aY b).put b (some (.cells (ai (sz:=sz) (p.set i q)++aS) e w))) (λcall=>?_) ⟨L',(λi=>i∈aj (jz b)),(λi=>i∈aj (jz b)),hr.put hu rfl rfl ?_,(kP.trans (db dG.1 (by simp[aj])) (j6 (by simpa using dG.1) (by simp[aj]) (by simp[aj]))),by rw[eh,cz];exact k _⟩
  .show(FJ (aO tm x) λb o=>mV E s t b o (aO tm y))=_;rw[hx.eval h1,hy.eval h1];show mV E s t b (0+(i*sz+0)) _=_;unfold mV St.row St.look;rw[h4];simp only[cu,ht.h,mU,xq];show dZ (Nat.beq (ec (ak.cells (sz:=sz) q)) sz) (dZ (jE (ak.cells (sz:=sz) q)) (ob (fT (i*sz) (ak.cells (sz:=sz) q) (ai (sz:=sz) p++aS)) _))=_;rw[aoE aS _ _ _ _ dM,dm,ak.len,kD,YO (ak.fl (sz:=sz) q)];rfl
  .exact .inr ⟨b,_,_,w,aS,rfl,by show T.get (St.heap _) b=_;simp,by rw[bp] at h5⊢;simpa using h5,aoK h6 (by rw[bp,bp,gN])⟩
theorem WO.aaS {E:ig}{X:fR}{Γ:qV}{l:Kn}{L R:bZ}{K:KO}{x y:Operand}{t t2:TypeId}{a a2:aM}{n sz:Nat}{α:Type}{enc:ak α sz}{e c c2:Nat}{q:List α}[ht:TT E t e sz α enc][ht2:TT E t2 e sz α enc](hx:Ev l x (.slice a ([]:List α).length c))(hy:Ev l y (.slice a2 n c2))(hr:O8 (.aQ (.slice a ([]:List α).length c) e sz (ai (sz:=sz) ([]:List α))) L R)(hs:jB Γ L a2 n sz (ai (sz:=sz) q))(hq:q.length=n)(hn:n<=1000000)
  (k:∀b b' a' c',jX L b->b<=b'->(∀i∈aj a',i∈aj a\/i=b)->K (.slice a' n c') (.aQ (.slice a' n c') e sz (ai (sz:=sz) q)::R) b b' (λi=>i∈aj a2\/i∈aj a\/i=b) (λi=>i∈aj a\/i=b)):WO E X Γ l (.call ⟨.builtin .append,⟨[x,y]⟩,⟨[t,t2]⟩⟩) L K:=by
 subst hq;exact WO.Rj (p:=([]:List α)) (q:=q) hx hy hr hs (by simpa using hn) k
theorem WO.Rq {E:ig}{X:fR}{Γ:qV}{l:Kn}{L L':bZ}{K:KO}{x y:Operand}{t:TypeId}{a:aM}{n sz:Nat}{α:Type}{enc:ak α sz}{p:List α}{q:α}{i c e:Nat}[ht:jc E t sz](hx:Ev l x (dr a i sz 0))
  (hu:zd (.aQ (.slice a n c) e sz (ai (sz:=sz) p)) (.aQ (.slice a n c) e sz (ai (sz:=sz) (p.set i q))) L L')(hy:Ev l y (.agg ⟨ak.cells (sz:=sz) q⟩))(hi:i<p.length)(k:∀n,K (.tuple ⟨[]⟩) L' n n (λi=>i∈aj a) (λi=>i∈aj a)):WO E X Γ l (.store t x y) L K:=WO.abO hx hy hu hi k
theorem WO.ahJ {X:fR}{Γ:qV}{l:Kn}{L:bZ}{K:KO}{x y:Operand}{t2:TypeId}{p q:jF}(hx:Ev l x (.agg ⟨rV p⟩))(hy:Ev l y (.agg ⟨rV q⟩))(k:∀n,K (.bool (decide (p=q))) L n n Z Z):WO bh X Γ l (.binOp .eql 83 x y t2) L K:=by
 refine WO.ahp hx hy rfl (xW _ _ _ _ _ _ _ _ _ _) λn=>?_
 have:=k n;obtain⟨a,b,c,d,e⟩:=p;obtain⟨a',b',c',d',e'⟩:=q;simpa[and_assoc] using this
theorem WO.ahK {X:fR}{Γ:qV}{l:Kn}{L:bZ}{K:KO}{x y:Operand}{t2:TypeId}{p q:jF}(hx:Ev l x (.agg ⟨rV p⟩))(hy:Ev l y (.agg ⟨rV q⟩))(k:∀n,K (.bool !(decide (p=q))) L n n Z Z):WO bh X Γ l (.binOp .neq 83 x y t2) L K:=by
 refine WO.ael hx hy rfl (xW _ _ _ _ _ _ _ _ _ _) λn=>?_
 have:=k n;obtain⟨a,b,c,d,e⟩:=p;obtain⟨a',b',c',d',e'⟩:=q;simpa[and_assoc] using this
section
variable {l:Kn}{f:FuncId}{s:St}
theorem WO.aeO {da:au}{ok:Bool}{mk:Value->Value}{a:aM}{n c e sz:Nat}{cs:a6}(hx:kA l xs vs)(h:∀s,bH s a n sz cs->(∀b∈aj a,b∉(eQ v st).flatMap It.a8)->w9 s a n c e sz->eV E X f vs s (aj a) v st da ok mk)(hp:oZ (eQ v st) L R)(hh:It.aQ (.slice a n c) e sz cs∈R)(k:∀m m' v',jX L m->m<=m'->(ok=false->v'=v)->K (mk (fK v' da)) (eQ v' da++R) m m' (FtR (aj a) (eQ v st) m m') (FtW (eQ v st) m m')):WC E X Γ l f xs ts L K:=
 WO.call (Lm:=eQ v st) (R:=R) hx hp.cZ (λs hi=>((jB.aQ hh).row (hi.cZ hp.cZ|>.sub ⟨R,.refl _,nK _ _⟩)).2)
   (λs hi=>by
    have tA:=hi.cZ hp.cZ|>.sub ⟨R,.refl _,nK _ _⟩;have h1:=(jB.aQ hh).row tA;exact h s h1.1 (jB.apart (.aQ hh) (hi.cZ hp.cZ)) (xL.slv (tA.it _ hh) λb hb=>(h1.2 b hb).1))
   (by rintro r L' m m' ho hm ⟨v',hv,rfl,rfl⟩;exact k m m' v' ho hm hv)
end
def wr (st:au)(z:az)(level:Int):au×jF×Bool:=match bk st z level with
 |none=>(st,bA,false)
 |some (st1,p)=>(st1,p,true)
def wrV (p:jF)(ok:Bool):Value->Value:=λV=>.tuple ⟨[V,pv p,.bool ok]⟩
theorem xV (s:St)(v:SA)(st:au)(h:dA 100000 st)(z:az)(hz:z.length<=3000)(level:Int):eV bh bw 191 [fK v st,sv z,iv level] s [] v st (wr st z level).1 false (wrV (wr st z level).2.1 (wr st z level).2.2):=by
 have Lh:=h.lr;have Ce:=h.lf;have hll:=h.ll;refine aT f191 ?_;cases hsm:st.same with
 |true=>
  by_cases hl0:level=0
  .have Up:decide (level=0)=true:=bY hl0;cases hk:Ww st z with
   |some i=>
    have hi:=Pg.lj hk;have w7:∀s,cS s v st->bF 239 [fK v st,sv z] s (iO v) (iv i):=λs hr=>by
     have:=H4 s v st h z hr;rw[hk] at this;exact this
    have afq: -(100000:Int)<=st.bc.getD i ak.ah/\st.bc.getD i ak.ah<=100000:=h.ref i;have hw:bk st z level=match sH i st.fJ level z with
      |none=>none
      |some p=>some ({st with ez:=st.ez.set i z,bc:=st.bc.set i (st.bc.getD i 0+1),dw:=st.dw.set i st.fJ},p):=by
     unfold bk oH;rw[hsm,Up];simp only[GH,if_true];rw[hk];rfl
    cases hp:sH i st.fJ level z with
    |none=>
     (have hpc:∀s,bF 241 [iv i,iv st.fJ,iv level,sv z] s [] (uB none):=λs=>by have:=o7 s i st.fJ level z ag;rwa [hp] at this);rw[hp] at hw;(have nY:wr st z level=(st,bA,false):=by unfold wr;rw[hw]);rw[nY];(repeat' (first|refine' aW|refine' HA|refine' Xr|refine' av|fail));refine' dX
     .rfl
     .exact λ_=>rfl
    |some p=>
     (have hpc:∀s,bF 241 [iv i,iv st.fJ,iv level,sv z] s [] (uB (some p)):=λs=>by have:=o7 s i st.fJ level z ag;rwa [hp] at this);rw[hp] at hw;(have nY:wr st z level=({st with ez:=st.ez.set i z,bc:=st.bc.set i (st.bc.getD i 0+1),dw:=st.dw.set i st.fJ},p,true):=by unfold wr;rw[hw]);rw[nY];(repeat' (first|refine' aW|refine' HA|refine' Xr|refine' av|fail));refine' dX
     .rfl
     .exact λ_=>rfl
   |none=>
    have w7:∀s,cS s v st->bF 239 [fK v st,sv z] s (iO v) (iv (-1)):=λs hr=>by
     have:=H4 s v st h z hr;rw[hk] at this;exact this
    cases hf:DF st with
    |some i=>
     refine' zal
     have afq: -(100000:Int)<=st.bc.getD i ak.ah/\st.bc.getD i ak.ah<=100000:=h.ref i;have hw:bk st z level=match sH i st.fJ level z with
       |none=>none
       |some p=>some ({st with ez:=st.ez.set i z,bc:=st.bc.set i (st.bc.getD i 0+1),dw:=st.dw.set i st.fJ},p):=by
      unfold bk oH;rw[hsm,Up];simp only[GH,if_true];rw[hk];simp only;rw[hf];rfl
     refine' zab
    |none=>
     refine' zam
     have hw:bk st z level=none:=by
      unfold bk oH;rw[hsm,Up];simp only[GH,if_true];rw[hk];simp only;rw[hf]
     refine' zaz
     .rfl
     .exact λ_=>rfl
  .have Up:decide (level=0)=false:=eI hl0;cases hf:DF st with
   |some i=>
    refine' zal
    have afq: -(100000:Int)<=st.bc.getD i ak.ah/\st.bc.getD i ak.ah<=100000:=h.ref i;have hw:bk st z level=match sH i st.fJ level z with
      |none=>none
      |some p=>some ({st with ez:=st.ez.set i z,bc:=st.bc.set i (st.bc.getD i 0+1),dw:=st.dw.set i st.fJ},p):=by
     unfold bk oH;rw[hsm,Up];simp only[Bool.and_false,jY,pB];rw[hf];rfl
    refine' zab
   |none=>
    refine' zam
    have hw:bk st z level=none:=by
     unfold bk oH;rw[hsm,Up];simp only[Bool.and_false,jY,pB];rw[hf]
    refine' zaz
    .rfl
    .exact λ_=>rfl
 |false=>
  cases hf:DF st with
  |some i=>
   refine' zal
   have afq: -(100000:Int)<=st.bc.getD i ak.ah/\st.bc.getD i ak.ah<=100000:=h.ref i;have hw:bk st z level=match sH i st.fJ level z with
     |none=>none
     |some p=>some ({st with ez:=st.ez.set i z,bc:=st.bc.set i (st.bc.getD i 0+1),dw:=st.dw.set i st.fJ},p):=by
    unfold bk oH;rw[hsm];simp only[Bs,jY,pB];rw[hf];rfl
   refine' zab
  |none=>
   refine' zam
   have hw:bk st z level=none:=by
    unfold bk oH;rw[hsm];simp only[Bs,jY,pB];rw[hf]
   refine' zaz
   .rfl
   .exact λ_=>rfl
theorem Uq (s:St)(v:SA)(bc dw:List Int)(i:Nat)(hf:bc.length=64)(hl:dw.length=64)(hi:i<64)(hb: -1000000<=bc.getD i ak.ah/\bc.getD i ak.ah<=1000000):
  BH 169 [.agg ⟨[.slice v.f 64 v.fc,.slice v.l 64 v.lc]⟩,iv i] s [.aQ (.slice v.f 64 v.fc) 3 1 (ai bc),.aQ (.slice v.l 64 v.lc) 3 1 (ai dw)] [] λr' L'=>r'= .agg ⟨[.slice v.f 64 v.fc,.slice v.l 64 v.lc]⟩/\L'=[.aQ (.slice v.f 64 v.fc) 3 1 (ai (bc.set i (bc.getD i 0-1))),.aQ (.slice v.l 64 v.lc) 3 1 (ai (if bc.getD i 0-1=0 then dw.set i 0 else dw))]:=by
 have oT:(bc.set i (bc.getD i ak.ah-1)).getD i ak.ah=bc.getD i ak.ah-1:=by
  show(bc.set i _).getD i 0=_;rw[Pg.j9,if_pos ⟨rfl,ag⟩]
 have RQ:(bc.set i (bc.getD i ak.ah-1)).length=64:=by rw[gN];exact hf
 refine aT f169 ?_;refine' cR
 .rw[if_pos (show bc.getD i 0-1=0 from oT.symm.trans aL)];refine' acP;rfl
 .rw[if_neg (show ¬bc.getD i 0-1=0 from λhx=>(by assumption:¬_) (oT.trans hx))];refine' acP;rfl
theorem TJ (s:St)(v:SA)(st:au)(h:dA 100000 st)(row:Int)(hr:0<=row/\row<64):eV bh bw 118 [fK v st,iv row] s [] v st (drop st row) true id:=by
 obtain⟨i,rfl⟩:=wT hr.1;have hi:i<64:=by omega
 have Lh:=h.lr;have Ce:=h.lf;have hll:=h.ll;have hb: -1000000<=st.bc.getD i ak.ah/\st.bc.getD i ak.ah<=1000000:=by
  have hb0: -(100000:Int)<=st.bc.getD i ak.ah/\st.bc.getD i ak.ah<=100000:=h.ref i;omega
 have hg:∀s,BH 169 [.agg ⟨[.slice v.f 64 v.fc,.slice v.l 64 v.lc]⟩,iv i] s [.aQ (.slice v.f 64 v.fc) 3 1 (ai st.bc),.aQ (.slice v.l 64 v.lc) 3 1 (ai st.dw)] [] λr' L'=>r'= .agg ⟨[.slice v.f 64 v.fc,.slice v.l 64 v.lc]⟩/\L'=[.aQ (.slice v.f 64 v.fc) 3 1 (ai (st.bc.set i (st.bc.getD i 0-1))),.aQ (.slice v.l 64 v.lc) 3 1 (ai (if st.bc.getD i 0-1=0 then st.dw.set i 0 else st.dw))]:=λs=>Uq s v st.bc st.dw i Ce hll hi hb
 have oT:(st.bc.set i (st.bc.getD i 0-1)).getD i ak.ah=st.bc.getD i 0-1:=by
  show(st.bc.set i _).getD i 0=_;rw[Pg.j9,if_pos ⟨rfl,ag⟩]
 have RQ:(st.bc.set i (st.bc.getD i 0-1)).length=64:=by rw[gN];exact Ce
 by_cases hz:st.bc.getD i 0-1=0
 .have hd:drop st i={st with ez:=st.ez.set i [],bc:=st.bc.set i (st.bc.getD i 0-1),dw:=st.dw.set i 0}:=by
   unfold drop;simp only[uK,if_pos hz]
  rw[hd];simp only[if_pos hz] at hg;have hzd:decide ((st.bc.set i (st.bc.getD i 0-1)).getD i ak.ah=0)=true:=bY (oT.trans hz);refine aT f118 ?_;dsimp only[eQ];refine' ade;refine' dX
  .rfl
  .intro hc;cases hc
 .have hd:drop st i={st with bc:=st.bc.set i (st.bc.getD i 0-1)}:=by
   unfold drop;simp only[uK,if_neg hz]
  rw[hd];simp only[if_neg hz] at hg;have hzd:decide ((st.bc.set i (st.bc.getD i 0-1)).getD i ak.ah=0)=false:=eI (λhx=>hz (oT.symm.trans hx));refine aT f118 ?_;dsimp only[eQ];refine' ade;refine' dX
  .rfl
  .intro hc;cases hc
theorem HB (s:St)(v:SA)(st:au)(h:dA 100000 st)(p:jF)(hp:bC p=true):eV bh bw 193 [fK v st,pv p] s [] v st (free st p) true id:=by
 have gP:=h.gl;have uC:=h.dl;cases hh:aI p with
 |true=>
  rw[show free st p=st from Pg.AY hh];refine aT f193 ?_;dsimp only[eQ];refine' Cj;refine' dX
  .rfl
  .intro hc;cases hc
 |false=>
  have hrg:=zE hp hh;have Az:free st p=if p.dt<=st.oV then {st with eu:=st.eu++[p]} else if p.dt<st.fJ then {st with cP:=st.cP++[p]} else drop st p.row:=by
   unfold free;rw[if_neg (by rw[hh];simp)]
  rw[Az];by_cases h1:p.dt<=st.oV
  .rw[if_pos h1];have h1d:=bY h1;refine aT f193 ?_;dsimp only[eQ];refine' Cj
   refine' aex
   .rfl
   .intro hc;cases hc
  .rw[if_neg h1];have h1d:=eI h1;by_cases h2:p.dt<st.fJ
   .rw[if_pos h2];have h2d:=bY h2;refine aT f193 ?_;dsimp only[eQ];refine' Cj
    refine' aey
    .rfl
    .intro hc;cases hc
   .rw[if_neg h2];have h2d:=eI h2;refine aT f193 ?_;dsimp only[eQ];repeat' (first|refine' aW|refine' Hq|refine' acV|refine' av|fail)
    refine' dX
    .rfl
    .intro hc;cases hc
def vy (st:au)(l:dg)(level:Int)(old:jF):au×jF×Bool:=match O5 st l level old with
 |none=>(st,bA,false)
 |some (x,p)=>(x,p,true)
theorem yb {l:dg}(h4:l.length=4):((kx l).getD []).length<=128:=by
 cases h:kx l with
 |none=>simp
 |some s=>
  have:=(Pg.Mz h).2.2.2;subst this;exact(Pg.abn h4).1
theorem Nj (s:St)(v:SA)(st:au)(h:dA 100000 st)(a:aM)(c:Nat)(l:dg)(h4:l.length=4)(level:Int)(old:jF)(hr:bH s a l.length 5 (ai l))(hm:∀b∈aj a,b∉(eQ v st).flatMap It.a8):
  eV bh bw 244 [fK v st,.slice a l.length c,iv level,pv old] s (aj a) v st (vy st l level old).1 false (wrV (vy st l level old).2.1 (vy st l level old).2.2):=by
 have hd:Rd ⟨s,(eQ v st).flatMap It.a8,aj a⟩ a l.length 5 (ai l):=⟨hr,λb hb=>hb,hm⟩;have Lh:=h.lr;have Cg:=yb h4;cases ha:l.all aI with
 |true=>
  have hf:vy st l level old=(st,bA,true):=by unfold vy O5;rw[ha];rfl
  rw[hf];refine aT f244 ?_;dsimp only[eQ] at hd⊢;repeat' (first|refine' aW|refine' Xt|refine' av|fail)
  refine' dX
  .rfl
  .exact λ_=>rfl
 |false=>
  by_cases hc:(!aI old&&fits old ((kx l).getD [])&&decide (gy st old=(kx l).getD []))=true
  .have hf:vy st l level old=(st,old,true):=by unfold vy O5;rw[ha];simp only[jY,pB];rw[if_pos hc]
   rw[hf];simp only[bO,qi,bQ] at hc;obtain⟨⟨h1,h2⟩,h3⟩:=hc;(have yA:bC old=true:=by simp[fits] at h2;exact h2.1.1.1);have hrg:=zE yA h1;have h3d:decide (st.ez.getD old.row.toNat ak.ah=(kx l).getD [])=true:=bY h3;(have hhd:(!aI old)=true:=by rw[h1];rfl);refine aT f244 ?_;dsimp only[eQ] at hd⊢;(repeat' (first|refine' aW|refine' Xt|refine' acW|refine' Hq|refine' aeF|refine' av|fail));refine' dX
   .rfl
   .exact λ_=>rfl
  .have hf:vy st l level old=wr st ((kx l).getD []) level:=by unfold vy O5 wr;rw[ha];simp only[jY,pB];rw[if_neg hc];try rfl
   rw[hf];have hrg:aI old=false->fits old ((kx l).getD [])=true->8<=old.row/\old.row<=63:=λh1 h2=>zE (by simp[fits] at h2;exact h2.1.1.1) h1
   cases hh:aI old with
   |true=>
    (have hhd:(!aI old)=false:=by rw[hh];rfl);refine' zba
    .rfl
    .exact AR
   |false=>
    have hhd:(!aI old)=true:=by rw[hh];rfl
    cases Rh:fits old ((kx l).getD []) with
    |false=>
     refine' zba
     .rfl
     .exact AR
    |true=>
     have hrg:=hrg hh Rh;have h3d:decide (st.ez.getD old.row.toNat ak.ah=(kx l).getD [])=false:=by
      rw[mg];intro hx;apply hc;rw[hh,Rh];exact bY hx
     refine' zba
     .rfl
     .exact AR
variable {level:Int}{was stays out:dg}
section
variable {t:cB}{L:dg}
theorem o9 {α:Type}{l:List α}{x y:α}(h:y∈l.set i x):y∈l\/y=x:=by
 rcases GN h with h|h
 .exact .inl h
 .exact .inr h
theorem dA.bk {n:Nat}{st da:au}{s:az}{p:jF}(h:dA n st)(hs:s.length<=3000)(hw:bk st s level=some (da,p)):dA (n+1) da/\bC p=true/\da.cP=st.cP/\da.eu=st.eu:=by
 unfold Go.Pl.bk at hw;split at hw
 .cases hw
 .rename_i i _;split at hw
  .cases hw
  .rename_i q hq;cases hw
   have hr:=h.ref i;have ht:=h.tx;have hk:=h.kp;refine⟨⟨by simp[h.lr],by simp[h.lf],by simp[h.ll],λx hx=>?_,λx hx=>?_,by show 1<=st.fJ/\st.fJ<=_;omega,by show 0<=st.oV/\st.oV<=_;omega,by have:=h.gl;show st.cP.length<=_;omega,by have:=h.dl;show st.eu.length<=_;omega,h.gr⟩,(Pg.Ez hq).2.2.2,rfl,rfl⟩
   .rcases o9 hx with hx|rfl
    .exact h.rw x hx
    .exact hs
   .rcases o9 hx with hx|rfl
    .have:=h.rf x hx;omega
    .omega
theorem dA.drop {n:Nat}{st:au}{row:Int}(h:dA n st):dA (n+1) (drop st row):=by
 have hr:=h.ref row.toNat;have ht:=h.tx;have hk:=h.kp;unfold Go.Pl.drop;refine⟨?_,by simp[h.lf],?_,λx hx=>?_,λx hx=>?_,by show 1<=st.fJ/\st.fJ<=_;omega,by show 0<=st.oV/\st.oV<=_;omega,by have:=h.gl;show st.cP.length<=_;omega,by have:=h.dl;show st.eu.length<=_;omega,h.gr⟩
 .dsimp only;split<;>simp[h.lr]
 .dsimp only;split<;>simp[h.ll]
 .dsimp only at hx;split at hx
  .rcases o9 hx with hx|rfl
   .exact h.rw x hx
   .simp
  .exact h.rw x hx
 .dsimp only at hx;rcases o9 hx with hx|rfl
  .have:=h.rf x hx;omega
  .omega
theorem dA.free {n:Nat}{st:au}{p:jF}(h:dA n st)(hp:bC p=true):dA (n+1) (free st p):=by
 unfold Go.Pl.free;split
 .exact h.mono ag
 .rename_i hh;have hrg:=zE hp (by simpa using hh);split
  .exact⟨h.lr,h.lf,h.ll,h.rw,λx hx=>by have:=h.rf x hx;omega,by have:=h.tx;show 1<=st.fJ/\st.fJ<=_;omega,by have:=h.kp;show 0<=st.oV/\st.oV<=_;omega,by have:=h.gl;show st.cP.length<=_;omega,by have:=h.dl;show(st.eu++[p]).length<=_;rw[bL,Bt];omega,h.gr⟩
  .split
   .refine⟨h.lr,h.lf,h.ll,h.rw,λx hx=>by have:=h.rf x hx;omega,by have:=h.tx;show 1<=st.fJ/\st.fJ<=_;omega,by have:=h.kp;show 0<=st.oV/\st.oV<=_;omega,by have:=h.gl;show(st.cP++[p]).length<=_;rw[bL,Bt];omega,by have:=h.dl;show st.eu.length<=_;omega,λq hq=>?_⟩;rcases eZ.1 hq with hq|hq
    .exact h.gr q hq
    .have:q=p:=by simpa using hq
     subst this;omega
   .exact h.drop
theorem dA.dI {st:au}:∀{n:Nat}(l:dg){st:au},dA n st->(∀p∈l,bC p=true)->dA (n+l.length) (dI l st)
 |n,[],st,h,_=>h
 |n,p::l,st,h,hp=>by
  have:=dA.dI (st:=st) l (h.free (hp p ay)) (λx hx=>hp x (by simp[hx]));rw[cY,show n+(l.length+1)=n+1+l.length by omega];exact this
theorem YR {n:Nat}{st:au}{l:dg}{old:jF}(h:dA n st)(h4:l.length=4):dA (n+1) (vy st l level old).1/\(vy st l level old).1.cP=st.cP/\(vy st l level old).1.eu=st.eu:=by
 unfold vy;cases hf:O5 st l level old with
 |none=>exact⟨h.mono ag,rfl,rfl⟩
 |some r=>
  obtain⟨da,p⟩:=r;unfold O5 at hf;simp only;split at hf
  .cases hf;exact⟨h.mono ag,rfl,rfl⟩
  .simp only at hf;split at hf
   .cases hf;exact⟨h.mono ag,rfl,rfl⟩
   .have:=h.bk (by have:=yb h4;omega) hf;exact⟨this.1,this.2.2⟩
theorem Nk {st:au}(ht:bC t.cI=true):(fL st t).length<=5/\∀p∈fL st t,bC p=true:=by
 unfold fL;split
 .simp
 .split
  .have hb:=A6 (st:=st) (p:=t.cI) (n:=2);have hf:=yI (λp=>!aI p) ((below st t.cI 2).getD []);refine⟨by rw[cY];omega,λp hp=>?_⟩;rcases bT.1 hp with rfl|hp
   .exact ht
   .have hp:=(pD.1 hp).1;cases PU:below st t.cI 2 with
    |none=>rw[PU] at hp;cases hp
    |some w=>rw[PU] at hp;exact(Pg.iW PU).2.1 p (by simpa using hp)
  .refine⟨ay,λp hp=>?_⟩;have:p=t.cI:=by simpa using hp
   rw[this];exact ht
theorem Ur {st:au}{depth level:Int}(hd:depth=1\/depth=2):(level=depth->1<=(jb st t depth level).length)/\(level≠depth->(jb st t depth level).length=4)/\(jb st t depth level).length<=4:=by
 unfold jb;split
 .exact⟨λ_=>by simp[dh],λ_=>by simp[dh],by simp[dh]⟩
 .split
  .exact⟨λ_=>by simp,λh=>by contradiction,ay⟩
  .have:((below st t.cI depth).getD (dh 4)).length=4:=by
    cases hb:below st t.cI depth with
    |none=>simp[dh]
    |some w=>simpa using(Pg.iW hb).1
   exact⟨λ_=>by omega,λ_=>this,ag⟩
theorem Nl {st:au}(h:4*i+4<=L.length)(hw:i<was.length):kz level (L.drop (4*i)) (was.drop i) st stays out=match O5 st ((L.drop (4*i)).take 4) level (was.getD i ak.ah) with
  |none=>(st,none)
  |some (x,p)=>kz level (L.drop (4*(i+1))) (was.drop (i+1)) x (if p=was.getD i ak.ah then stays++[p] else stays) (out++[p]):=by
 obtain⟨a,b,c,d,r,hr⟩:∃a b c d r,L.drop (4*i)=a::b::c::d::r:=by
  have hl:(L.drop (4*i)).length=L.length-4*i:=eW
  match hh:L.drop (4*i),hl with
  |a::b::c::d::r,_=>exact⟨a,b,c,d,r,rfl⟩
  |[],hl=>simp at hl;omega
  |[a],hl=>simp at hl;omega
  |[a,b],hl=>simp at hl;omega
  |[a,b,c],hl=>simp at hl;omega
 have nC:L.drop (4*(i+1))=r:=by
  rw[show 4*(i+1)=4*i+4 by omega,<-mu,hr];rfl
 rw[nC,hr,drop_cons hw,kz];simp only[List.headD_cons,List.tail_cons,x_5,List.take_zero];cases O5 st [a,b,c,d] level (was.getD i ak.ah) with
 |none=>rfl
 |some r=>rfl
theorem E5 {st:au}(h:L=[]):kz level L was st stays out=(st,some (stays,out)):=by subst h;rw[kz];intros;contradiction
theorem BW (l:dg):(fj l).length% 4=0/\l.length<=(fj l).length/\(fj l).length<l.length+4:=by unfold fj;rw[bL];simp only[dh,qX];omega
end
def YS (o:Option cB):Value->Value:=λV=>.tuple ⟨[V,tv (o.getD fh),.bool o.isSome]⟩
theorem Ig (l:dg)(x y:jF):(l++[x]).contains y=(l.contains y||decide (x=y)):=by
 rw[po,mf,List.contains_iff_mem,List.contains_iff_mem,eZ,ix,bQ];constructor
 .rintro(h|h)
  .exact .inl h
  .exact .inr h.symm
 .rintro(h|h)
  .exact .inl h
  .exact .inr h.symm
theorem zR (s:St)(v:SA)(st:au)(h:dA 90000 st)(t:cB)(ht:bC t.cI=true)(a:aM)(c:Nat)(lv:dg)(JO:lv.length=16)(many:Int)(yx:0<=many/\many<=16)(hr:bH s a lv.length 5 (ai lv))(hm:∀b∈aj a,b∉(eQ v st).flatMap It.a8)(hsv:w9 s a lv.length c 83 5):
  eV bh bw 192 [fK v st,tv t,.slice a lv.length c,iv many] s (aj a) v st (ij st t lv many).1 (ij st t lv many).2.isSome (YS (ij st t lv many).2):=by
 have hd:Rd ⟨s,(eQ v st).flatMap It.a8,aj a⟩ a lv.length 5 (ai lv):=⟨hr,λb hb=>hb,hm⟩;have h1:dA 100000 st:=h.mono ag;have u3:=Nk (st:=st) ht;have hdd:=Pg.fD many;have pz:ij st t lv many=match iB t (cQ many) (cQ many).toNat 1 (lv.take many.toNat) st [] with
  |(x,none)=>(x,none)
  |(x,some (stays,l))=>(dI ((fL st t).filter λp=>!(stays.contains p)) x,some ⟨l.headD bA,cQ many,many⟩):=rfl
 generalize hLV:iB t (cQ many) (cQ many).toNat 1 (lv.take many.toNat) st []=LV at pz;have hL4:(lv.take many.toNat).length<=4^ (cQ many).toNat/\(lv.take many.toNat).length<=16:=by
  rw[cW,JO];unfold cQ;split
  .simp;omega
  .split<;>simp<;>omega
 refine aT f192 ?_;dsimp only[eQ] at hd⊢;(repeat' (first|refine' aW|refine' Xh|((with_reducible apply WO.AQ);exact aC;(first|exact λs hr=>E0 s _ _ aL _ hr|exact λs hr=>E0 s _ _ aL ⟨⟨_,_,_,_,_⟩,_,_⟩ hr);exact eF;intro _ _ agy agz _ _)|refine' av|fail))
 generalize hD:cQ many=D at *
 refine W.bN (λk l L=>∃(n:Nat)(level:Int)(x:au)(ll stays:dg)(a1:aM)(c1:Nat)(a2:aM)(c2:Nat)(ao:aM)(co b4 b5 b8 b9:Nat),Le [(3,iv many),(4,bg b4),(5,bg b5),(8,bg b8),(9,bg b9),(11,iv D),(12,.slice ao (fL st t).length co),(13,.slice a1 ll.length c1),(14,.slice a2 stays.length c2),(15,iv level)] l/\cC [.aQ (.slice a1 ll.length c1) 83 5 (ai ll),.aQ (.slice a2 stays.length c2) 83 5 (ai stays),.aQ (.slice ao (fL st t).length co) 83 5 (ai (fL st t)),.box b4 (se v x) 81 false,.box b5 (im t) 85 false,.box b8 [eT,eT,eT,cr,eT,cr,eT,.bool false] 81 false,.box b9 [cr,cr,cr,cr,cr,cr,cr] 85 false,.aQ (.slice v.r 64 v.rc) 9 1 (ai x.ez),.aQ (.slice v.f 64 v.fc) 3 1 (ai x.bc),.aQ (.slice v.l 64 v.lc) 3 1 (ai x.dw),.aQ (.slice v.g x.cP.length v.gc) 83 5 (ai x.cP),.aQ (.slice v.d x.eu.length v.dc) 83 5 (ai x.eu)] L/\k=n/\level=D+1-n/\n<=D.toNat/\ll.length<=4^ n/\ll.length<=16/\stays.length<=8*(2-n)/\dA (90000+8*(2-n)) x/\LV=iB t D n level ll x stays)
  (λl L=>∃(x:au)(ll stays:dg)(a1:aM)(c1:Nat)(a2:aM)(c2:Nat)(ao:aM)(co b4 b5 b8 b9:Nat),Le [(3,iv many),(4,bg b4),(5,bg b5),(8,bg b8),(9,bg b9),(11,iv D),(12,.slice ao (fL st t).length co),(13,.slice a1 ll.length c1),(14,.slice a2 stays.length c2)] l/\cC [.aQ (.slice a1 ll.length c1) 83 5 (ai ll),.aQ (.slice a2 stays.length c2) 83 5 (ai stays),.aQ (.slice ao (fL st t).length co) 83 5 (ai (fL st t)),.box b4 (se v x) 81 false,.box b5 (im t) 85 false,.box b8 [eT,eT,eT,cr,eT,cr,eT,.bool false] 81 false,.box b9 [cr,cr,cr,cr,cr,cr,cr] 85 false,.aQ (.slice v.r 64 v.rc) 9 1 (ai x.ez),.aQ (.slice v.f 64 v.fc) 3 1 (ai x.bc),.aQ (.slice v.l 64 v.lc) 3 1 (ai x.dw),.aQ (.slice v.g x.cP.length v.gc) 83 5 (ai x.cP),.aQ (.slice v.d x.eu.length v.dc) 83 5 (ai x.eu)] L/\stays.length<=16/\ll.length<=16/\dA 90016 x/\LV=(x,some (stays,ll))) D.toNat ⟨D.toNat,1,st,[]++lv.take many.toNat,[],_,_,_,_,_,_,_,_,_,_,bj,ar,rfl,ag,cG _,by simpa using hL4.1,by simpa using hL4.2,ay,h.mono ag,hLV.symm⟩ ?_ ?_
 .rintro k l L ⟨n,level,x,ll,stays,a1,c1,a2,c2,ao,co,b4,b5,b8,b9,hl,hL,hk,ae6,hnD,hl4,aod,iK,hx,afr⟩;refine W.le ?_ hl hL;clear hl hL;subst hk;have hx1:dA 100000 x:=hx.mono ag;cases k with
  |zero=>
   refine' cR;(all_goals try exact pJ);exact⟨x,ll,stays,_,_,_,_,_,_,_,_,_,_,bj,ar,ag,ag,hx.mono ag,afr⟩
  |succ n=>
   (have hDD:D=1\/D=2:=by omega);have YB:=Ur (st:=x) (t:=t) (level:=level) hDD;(repeat' (first|refine' aW|((with_reducible apply WO.AQ);exact aC;(first|exact λs hr=>M8 s _ _ aL _ _ _ hr|exact λs hr=>M8 s _ _ aL ⟨⟨_,_,_,_,_⟩,_,_⟩ _ _ hr);exact eF;intro _ _ akq akr _ _)|refine' av|fail));all_goals try exact pJ
   refine W.bN (λk l L=>∃(j:Nat)(p:dg)(a1:aM)(c1:Nat)(a2:aM)(c2:Nat)(a3:aM)(c3:Nat)(a4:aM)(c4:Nat)(ao:aM)(co b4 b5 b8 b9:Nat),Le [(3,iv many),(4,bg b4),(5,bg b5),(8,bg b8),(9,bg b9),(11,iv D),(12,.slice ao (fL st t).length co),(13,.slice a1 p.length c1),(14,.slice a2 stays.length c2),(15,iv level),(16,.slice a3 (jb x t D level).length c3),(17,.slice a4 ([]:dg).length c4)] l/\cC [.aQ (.slice a1 p.length c1) 83 5 (ai p),.aQ (.slice a2 stays.length c2) 83 5 (ai stays),.aQ (.slice a3 (jb x t D level).length c3) 83 5 (ai (jb x t D level)),.aQ (.slice a4 ([]:dg).length c4) 83 5 (ai ([]:dg)),.aQ (.slice ao (fL st t).length co) 83 5 (ai (fL st t)),.box b4 (se v x) 81 false,.box b5 (im t) 85 false,.box b8 [eT,eT,eT,cr,eT,cr,eT,.bool false] 81 false,.box b9 [cr,cr,cr,cr,cr,cr,cr] 85 false,.aQ (.slice v.r 64 v.rc) 9 1 (ai x.ez),.aQ (.slice v.f 64 v.fc) 3 1 (ai x.bc),.aQ (.slice v.l 64 v.lc) 3 1 (ai x.dw),.aQ (.slice v.g x.cP.length v.gc) 83 5 (ai x.cP),.aQ (.slice v.d x.eu.length v.dc) 83 5 (ai x.eu)] L/\k=4-j/\p=ll++dh j/\j<=3/\∀i,i<j->(ll.length+i)% 4≠0)
    (λl L=>∃(a1:aM)(c1:Nat)(a2:aM)(c2:Nat)(a3:aM)(c3:Nat)(a4:aM)(c4:Nat)(ao:aM)(co b4 b5 b8 b9:Nat),Le [(3,iv many),(4,bg b4),(5,bg b5),(8,bg b8),(9,bg b9),(11,iv D),(12,.slice ao (fL st t).length co),(13,.slice a1 (fj ll).length c1),(14,.slice a2 stays.length c2),(15,iv level),(16,.slice a3 (jb x t D level).length c3),(17,.slice a4 ([]:dg).length c4)] l/\cC [.aQ (.slice a1 (fj ll).length c1) 83 5 (ai (fj ll)),.aQ (.slice a2 stays.length c2) 83 5 (ai stays),.aQ (.slice a3 (jb x t D level).length c3) 83 5 (ai (jb x t D level)),.aQ (.slice a4 ([]:dg).length c4) 83 5 (ai ([]:dg)),.aQ (.slice ao (fL st t).length co) 83 5 (ai (fL st t)),.box b4 (se v x) 81 false,.box b5 (im t) 85 false,.box b8 [eT,eT,eT,cr,eT,cr,eT,.bool false] 81 false,.box b9 [cr,cr,cr,cr,cr,cr,cr] 85 false,.aQ (.slice v.r 64 v.rc) 9 1 (ai x.ez),.aQ (.slice v.f 64 v.fc) 3 1 (ai x.bc),.aQ (.slice v.l 64 v.lc) 3 1 (ai x.dw),.aQ (.slice v.g x.cP.length v.gc) 83 5 (ai x.cP),.aQ (.slice v.d x.eu.length v.dc) 83 5 (ai x.eu)] L) 4 ⟨0,ll,_,_,_,_,_,_,_,_,_,_,_,_,_,_,bj,ar,rfl,by simp[dh],ag,by intro i hi;omega⟩ ?_ ?_
   .rintro k l L ⟨j,p,a1,c1,a2,c2,a3,c3,a4,c4,ao,co,b4,b5,b8,b9,hl,hL,rfl,hp,hj,Ta⟩;refine W.le ?_ hl hL;clear hl hL;have rS:p.length=ll.length+j:=by rw[hp,bL];simp[dh]
    (have htm:((p.length:Int)).tmod 4=((p.length% 4:Nat):Int):=by rw[Int.tmod_eq_emod_of_nonneg ag];omega);refine' cR
    .have fY:p.length% 4≠0:=by omega
     have hj3:j<3\/j=3:=by omega
     have S6:j<=2:=by
      rcases hj3 with h|h
      .omega
      .exfalso;have h0:=Ta 0;have h1:=Ta 1;have h2:=Ta 2;omega
     refine⟨_,?_,j+1,p++[bA],_,_,_,_,_,_,_,_,_,_,_,_,_,_,bj,ar,rfl,?_,ag,?_⟩
     .omega
     .rw[hp,ku];congr 1;rw[show [bA]=dh 1 from rfl];simp only[dh,VE]
     .intro i hi;by_cases nD:i=j
      .subst nD;omega
      .exact Ta i ag
    .have he:p=fj ll:=by
      rw[hp];unfold fj;congr 2;have h0:=Ta 0;have h1:=Ta 1;have h2:=Ta 2;omega
     subst he;exact⟨_,_,_,_,_,_,_,_,_,_,_,_,_,_,bj,ar⟩
   .rintro l L ⟨a1,c1,a2,c2,a3,c3,a4,c4,ao,co,b4,b5,b8,b9,hl,hL⟩;refine aq ?_;refine W.le ?_ hl hL;clear hl hL;obtain⟨hP1,hP2,hP3⟩:=BW ll;generalize hPe:fj ll=P at *
    generalize hWe:jb x t D level=ow at *
    refine' cR
    refine W.bN (λk l L=>∃(i:Nat)(y:au)(Gu out:dg)(a1:aM)(c1:Nat)(a2:aM)(c2:Nat)(a3:aM)(c3:Nat)(a4:aM)(c4:Nat)(ao:aM)(co b4 b5 b8 b9:Nat),Le [(3,iv many),(4,bg b4),(5,bg b5),(8,bg b8),(9,bg b9),(11,iv D),(12,.slice ao (fL st t).length co),(13,.slice a1 P.length c1),(14,.slice a2 Gu.length c2),(15,iv level),(16,.slice a3 ow.length c3),(17,.slice a4 out.length c4),(18,iv i)] l/\cC [.aQ (.slice a1 P.length c1) 83 5 (ai P),.aQ (.slice a2 Gu.length c2) 83 5 (ai Gu),.aQ (.slice a3 ow.length c3) 83 5 (ai ow),.aQ (.slice a4 out.length c4) 83 5 (ai out),.aQ (.slice ao (fL st t).length co) 83 5 (ai (fL st t)),.box b4 (se v y) 81 false,.box b5 (im t) 85 false,.box b8 [eT,eT,eT,cr,eT,cr,eT,.bool false] 81 false,.box b9 [cr,cr,cr,cr,cr,cr,cr] 85 false,.aQ (.slice v.r 64 v.rc) 9 1 (ai y.ez),.aQ (.slice v.f 64 v.fc) 3 1 (ai y.bc),.aQ (.slice v.l 64 v.lc) 3 1 (ai y.dw),.aQ (.slice v.g y.cP.length v.gc) 83 5 (ai y.cP),.aQ (.slice v.d y.eu.length v.dc) 83 5 (ai y.eu)] L/\k=P.length-4*i/\4*i<=P.length/\out.length=i/\Gu.length<=stays.length+i/\dA (90000+8*(1-n)+i) y/\kz level P ow x stays []=kz level (P.drop (4*i)) (ow.drop i) y Gu out)
     (λl L=>∃(y:au)(Gu out:dg)(a2:aM)(c2:Nat)(a4:aM)(c4:Nat)(ao:aM)(co b4 b5 b8 b9:Nat),Le [(3,iv many),(4,bg b4),(5,bg b5),(8,bg b8),(9,bg b9),(11,iv D),(12,.slice ao (fL st t).length co),(14,.slice a2 Gu.length c2),(15,iv level),(17,.slice a4 out.length c4)] l/\cC [.aQ (.slice a2 Gu.length c2) 83 5 (ai Gu),.aQ (.slice a4 out.length c4) 83 5 (ai out),.aQ (.slice ao (fL st t).length co) 83 5 (ai (fL st t)),.box b4 (se v y) 81 false,.box b5 (im t) 85 false,.box b8 [eT,eT,eT,cr,eT,cr,eT,.bool false] 81 false,.box b9 [cr,cr,cr,cr,cr,cr,cr] 85 false,.aQ (.slice v.r 64 v.rc) 9 1 (ai y.ez),.aQ (.slice v.f 64 v.fc) 3 1 (ai y.bc),.aQ (.slice v.l 64 v.lc) 3 1 (ai y.dw),.aQ (.slice v.g y.cP.length v.gc) 83 5 (ai y.cP),.aQ (.slice v.d y.eu.length v.dc) 83 5 (ai y.eu)] L/\4*out.length=P.length/\Gu.length<=stays.length+4/\dA (90000+8*(1-n)+4) y/\kz level P ow x stays []=(y,some (Gu,out))) P.length ⟨0,x,stays,[],_,_,_,_,_,_,_,_,_,_,_,_,_,_,bj,ar,ag,ag,rfl,ag,hx.mono ag,rfl⟩ ?_ ?_
    .rintro k l L ⟨i,y,Gu,out,a1,c1,a2,c2,a3,c3,a4,c4,ao,co,b4,b5,b8,b9,hl,hL,rfl,KE,Li,RQ,hy,hg⟩;refine W.le ?_ hl hL;clear hl hL;have Vu:dA 100000 y:=hy.mono ag;have aiW:4^ (n+1)=4*4^ n:=by rw[Vy,GO]
     (have hPl:P.length<=4*4^ n/\P.length<=16:=by omega);(have aoe:Gu.length<=100:=by omega);(have aof:out.length<=100:=by omega);by_cases hi:4*i<P.length
     .have al5:4*i+4<=P.length:=by omega
      have hiw:i<ow.length:=by
       rcases wD n with hn|hn
       .subst hn;have:=YB.1 ag;have:4*4^ 0=4:=rfl;omega
       .have:=YB.2.1 ag;omega
      generalize hl4:(P.drop ((i:Int)*4).toNat).take ((((i:Int)+1)*4).toNat-((i:Int)*4).toNat)=l4;have ai7:l4=(P.drop (4*i)).take 4:=by
       rw[<-hl4];congr 1
       .omega
       .congr 1;omega
      have afs:l4.length=4:=by rw[ai7,cW,eW];omega
      have hgs:=Nl (level:=level) (L:=P) (was:=ow) (st:=y) (stays:=Gu) (out:=out) (i:=i) al5 hiw;rw[<-ai7] at hgs;have pr:=YR (level:=level) (old:=ow.getD i ak.ah) hy afs;cases abT:O5 y l4 level (ow.getD i ak.ah) with
      |none=>
       have Az:vy y l4 level (ow.getD i ak.ah)=(y,bA,false):=by unfold vy;rw[abT]
       have Lw:∀s a c,bH s a l4.length 5 (ai l4)->(∀b∈aj a,b∉(eQ v y).flatMap It.a8)->eV bh bw 244 [fK v y,.slice a l4.length c,iv level,pv (ow.getD i ak.ah)] s (aj a) v y y false (wrV bA false):=λs a c hr hm=>by
        have:=Nj s v y Vu a c l4 afs level (ow.getD i ak.ah) hr hm;rw[Az] at this;exact this
       subst hl4;rw[abT] at hgs;(have al6:LV=(y,none):=by rw[afr,iB,hPe,hWe,hg,hgs]);rw[al6] at pz;rw[pz];(repeat' (first|refine' aW|refine' Xu|refine' av|fail));(all_goals try exact pJ);obtain rfl:=D4 rfl;refine' dX
       .rfl
       .exact λ_=>rfl
      |some r=>
       obtain⟨z,p⟩:=r;have Az:vy y l4 level (ow.getD i ak.ah)=(z,p,true):=by unfold vy;rw[abT]
       have Lw:∀s a c,bH s a l4.length 5 (ai l4)->(∀b∈aj a,b∉(eQ v y).flatMap It.a8)->eV bh bw 244 [fK v y,.slice a l4.length c,iv level,pv (ow.getD i ak.ah)] s (aj a) v y z false (wrV p true):=λs a c hr hm=>by
        have:=Nj s v y Vu a c l4 afs level (ow.getD i ak.ah) hr hm;rw[Az] at this;exact this
       subst hl4;rw[abT] at hgs;rw[Az] at pr;by_cases hpw:p=ow.getD i ak.ah
       .have al7:=bY hpw;repeat' (first|refine' aW|refine' Xu|refine' av|fail)
        (all_goals try exact pJ);obtain rfl:=D4 rfl;refine⟨_,?_,i+1,z,Gu++[p],out++[p],_,_,_,_,_,_,_,_,_,_,_,_,_,_,bj,ar,rfl,ag,by simp[Li],by rw[bL,Bt];omega,pr.1,?_⟩
        .omega
        .rw[hg,hgs];simp only;rw[if_pos hpw]
       .have al7:=eI hpw;repeat' (first|refine' aW|refine' Xu|refine' av|fail)
        (all_goals try exact pJ);obtain rfl:=D4 rfl;refine⟨_,?_,i+1,z,Gu,out++[p],_,_,_,_,_,_,_,_,_,_,_,_,_,_,bj,ar,rfl,ag,by simp[Li],ag,pr.1,?_⟩
        .omega
        .rw[hg,hgs];simp only;rw[if_neg hpw]
     .have fF:4*i=P.length:=by omega
      have tZ:P.drop (4*i)=[]:=yE ag;rw[tZ,E5 rfl] at hg;refine' cR;(all_goals try exact pJ);exact⟨y,Gu,out,_,_,_,_,_,_,_,_,_,_,bj,ar,ag,ag,hy.mono ag,hg⟩
    .rintro l L ⟨y,Gu,out,a2,c2,a4,c4,ao,co,b4,b5,b8,b9,hl,hL,Li,RQ,hy,hg⟩;refine aq ?_;refine W.le ?_ hl hL;clear hl hL;have aiW:4^ (n+1)=4*4^ n:=by rw[Vy,GO]
     refine' cR;refine⟨_,?_,n,level+1,y,out,Gu,_,_,_,_,_,_,_,_,_,_,bj,ar,rfl,ag,ag,?_,ag,ag,hy.mono ag,?_⟩
     .omega
     .omega
     .rw[afr,iB,hPe,hWe,hg]
 .rintro l L ⟨x,ll,stays,a1,c1,a2,c2,ao,co,b4,b5,b8,b9,hl,hL,iK,hll,hx,ai8⟩;refine aq ?_;refine W.le ?_ hl hL;clear hl hL;have hx1:dA 100000 x:=hx.mono ag;rw[ai8] at pz;simp only at pz;rw[pz];clear pz ai8 hLV;generalize hOe:fL st t=old at *
  refine' cR
  refine W.bN (λk l L=>∃(i:Nat)(y:au)(v':SA)(a1:aM)(c1:Nat)(a2:aM)(c2:Nat)(ao:aM)(co b4 b8 b9:Nat),Le [(3,iv many),(4,bg b4),(8,bg b8),(9,bg b9),(11,iv D),(12,.slice ao old.length co),(13,.slice a1 ll.length c1),(14,.slice a2 stays.length c2),(22,iv i)] l/\cC [.aQ (.slice a1 ll.length c1) 83 5 (ai ll),.aQ (.slice a2 stays.length c2) 83 5 (ai stays),.aQ (.slice ao old.length co) 83 5 (ai old),.box b4 (se v' y) 81 false,.box b8 [eT,eT,eT,cr,eT,cr,eT,.bool false] 81 false,.box b9 [cr,cr,cr,cr,cr,cr,cr] 85 false,.aQ (.slice v'.r 64 v'.rc) 9 1 (ai y.ez),.aQ (.slice v'.f 64 v'.fc) 3 1 (ai y.bc),.aQ (.slice v'.l 64 v'.lc) 3 1 (ai y.dw),.aQ (.slice v'.g y.cP.length v'.gc) 83 5 (ai y.cP),.aQ (.slice v'.d y.eu.length v'.dc) 83 5 (ai y.eu)] L/\k=old.length-i/\i<=old.length/\dA (90016+i) y/\dI (old.filter λp=>!(stays.contains p)) x=dI ((old.drop i).filter λp=>!(stays.contains p)) y)
   (λl L=>∃(y:au)(v':SA)(a1:aM)(c1:Nat)(b4 b8 b9:Nat),Le [(3,iv many),(4,bg b4),(8,bg b8),(9,bg b9),(11,iv D),(13,.slice a1 ll.length c1)] l/\cC [.aQ (.slice a1 ll.length c1) 83 5 (ai ll),.box b4 (se v' y) 81 false,.box b8 [eT,eT,eT,cr,eT,cr,eT,.bool false] 81 false,.box b9 [cr,cr,cr,cr,cr,cr,cr] 85 false,.aQ (.slice v'.r 64 v'.rc) 9 1 (ai y.ez),.aQ (.slice v'.f 64 v'.fc) 3 1 (ai y.bc),.aQ (.slice v'.l 64 v'.lc) 3 1 (ai y.dw),.aQ (.slice v'.g y.cP.length v'.gc) 83 5 (ai y.cP),.aQ (.slice v'.d y.eu.length v'.dc) 83 5 (ai y.eu)] L/\dI (old.filter λp=>!(stays.contains p)) x=y) old.length ⟨0,x,v,_,_,_,_,_,_,_,_,_,bj,ar,ag,ag,hx,rfl⟩ ?_ ?_
  .rintro k l L ⟨i,y,v',a1,c1,a2,c2,ao,co,b4,b8,b9,hl,hL,rfl,hi,hy,YT⟩;refine W.le ?_ hl hL;clear hl hL;have Vu:dA 100000 y:=hy.mono ag;by_cases tA:i<old.length
   .have yA:bC (old.getD i ak.ah)=true:=u3.2 _ (aK tA _);rw[drop_cons tA,sj] at YT;refine' cR
    all_goals try exact pJ
    refine W.bN (λk l L=>∃(j:Nat)(kept:Bool)(a1:aM)(c1:Nat)(a2:aM)(c2:Nat)(ao:aM)(co b4 b8 b9:Nat),Le [(3,iv many),(4,bg b4),(8,bg b8),(9,bg b9),(11,iv D),(12,.slice ao old.length co),(13,.slice a1 ll.length c1),(14,.slice a2 stays.length c2),(22,iv i),(23,.bool kept),(24,iv j)] l/\cC [.aQ (.slice a1 ll.length c1) 83 5 (ai ll),.aQ (.slice a2 stays.length c2) 83 5 (ai stays),.aQ (.slice ao old.length co) 83 5 (ai old),.box b4 (se v' y) 81 false,.box b8 [eT,eT,eT,cr,eT,cr,eT,.bool false] 81 false,.box b9 [cr,cr,cr,cr,cr,cr,cr] 85 false,.aQ (.slice v'.r 64 v'.rc) 9 1 (ai y.ez),.aQ (.slice v'.f 64 v'.fc) 3 1 (ai y.bc),.aQ (.slice v'.l 64 v'.lc) 3 1 (ai y.dw),.aQ (.slice v'.g y.cP.length v'.gc) 83 5 (ai y.cP),.aQ (.slice v'.d y.eu.length v'.dc) 83 5 (ai y.eu)] L/\k=stays.length-j/\j<=stays.length/\kept=(stays.take j).contains (old.getD i ak.ah))
     (λl L=>∃(a1:aM)(c1:Nat)(a2:aM)(c2:Nat)(ao:aM)(co b4 b8 b9:Nat),Le [(3,iv many),(4,bg b4),(8,bg b8),(9,bg b9),(11,iv D),(12,.slice ao old.length co),(13,.slice a1 ll.length c1),(14,.slice a2 stays.length c2),(22,iv i),(23,.bool (stays.contains (old.getD i ak.ah)))] l/\cC [.aQ (.slice a1 ll.length c1) 83 5 (ai ll),.aQ (.slice a2 stays.length c2) 83 5 (ai stays),.aQ (.slice ao old.length co) 83 5 (ai old),.box b4 (se v' y) 81 false,.box b8 [eT,eT,eT,cr,eT,cr,eT,.bool false] 81 false,.box b9 [cr,cr,cr,cr,cr,cr,cr] 85 false,.aQ (.slice v'.r 64 v'.rc) 9 1 (ai y.ez),.aQ (.slice v'.f 64 v'.fc) 3 1 (ai y.bc),.aQ (.slice v'.l 64 v'.lc) 3 1 (ai y.dw),.aQ (.slice v'.g y.cP.length v'.gc) 83 5 (ai y.cP),.aQ (.slice v'.d y.eu.length v'.dc) 83 5 (ai y.eu)] L) stays.length ⟨0,false,_,_,_,_,_,_,_,_,_,bj,ar,ag,ag,rfl⟩ ?_ ?_
    .rintro k l L ⟨j,kept,a1,c1,a2,c2,ao,co,b4,b8,b9,hl,hL,rfl,hj,RT⟩;refine W.le ?_ hl hL;clear hl hL;have e:=λh:j<stays.length=>fI stays ak.ah h
     refine' cR
     .refine⟨_,?_,j+1,_,_,_,_,_,_,_,_,_,_,bj,ar,rfl,ag,?_⟩
      .omega
      .rw[e ag,Ig,<-RT,hg];rfl
     .refine⟨_,?_,j+1,true,_,_,_,_,_,_,_,_,_,bj,ar,rfl,ag,?_⟩
      .omega
      .rw[e ag,Ig,<-RT,ur];rfl
     .have hj':j=stays.length:=by omega
      subst hj';rw[gY] at RT;subst RT;exact⟨_,_,_,_,_,_,_,_,_,bj,ar⟩
    .rintro l L ⟨a1,c1,a2,c2,ao,co,b4,b8,b9,hl,hL⟩;refine aq ?_;refine W.le ?_ hl hL;clear hl hL;repeat' (first|refine' aW|refine' L8|refine' av|fail)
     .rw[if_pos hc] at YT;refine⟨_,?_,i+1,_,_,_,_,_,_,_,_,_,_,_,bj,ar,rfl,ag,hy.free yA,YT⟩;omega
     .rw[if_neg (by rw[hc];simp)] at YT;refine⟨_,?_,i+1,y,v',_,_,_,_,_,_,_,_,_,bj,ar,rfl,ag,hy.mono ag,YT⟩;omega
   .have fF:i=old.length:=by omega
    subst fF;rw[iI] at YT;refine' cR;(all_goals try exact pJ);exact⟨y,v',_,_,_,_,_,bj,ar,YT⟩
  .rintro l L ⟨y,v',a1,c1,b4,b8,b9,hl,hL,YT⟩;refine aq ?_;refine W.le ?_ hl hL;clear hl hL;rw[YT];refine' cR
   .rw[show ll.headD bA=ll.getD 0 ak.ah from by cases ll<;>rfl];refine' dX
    .rfl
    .intro hc;cases hc
   .have hl0:ll=[]:=mO ag;subst hl0;refine' dX
    .rfl
    .intro hc;cases hc
variable {da:au}
section
variable {p:jF}
structure Kp (st da:au):Prop where
 g:da.cP=st.cP
 d:da.eu=st.eu
 t:da.fJ=st.fJ
 k:da.oV=st.oV
 s:da.same=st.same
theorem Kp.refl (st:au):Kp st st:=⟨rfl,rfl,rfl,rfl,rfl⟩
theorem Kp.trans {a b c:au}(h:Kp a b)(k:Kp b c):Kp a c:=⟨k.g.trans h.g,k.d.trans h.d,k.t.trans h.t,k.k.trans h.k,k.s.trans h.s⟩
theorem Kp.fK {st da:au}(h:Kp st da)(v:SA):fK v da=fK v st:=by unfold Go.Pl.fK se;rw[h.g,h.d,h.t,h.k,h.s]
theorem Nn {st da:au}{s:az}{level:Int}(h:bk st s level=some (da,p)):Kp st da:=by
 unfold Go.Pl.bk at h;split at h
 .cases h
 .split at h
  .cases h
  .cases h;exact⟨rfl,rfl,rfl,rfl,rfl⟩
theorem abU {st da:au}{l:dg}{level:Int}{old p:jF}(h:dA n st)(h4:l.length=4)(hf:O5 st l level old=some (da,p)):dA (n+1) da/\Kp st da/\bC p=true:=by
 unfold O5 at hf;split at hf
 .cases hf;exact⟨h.mono ag,Kp.refl _,bJ⟩
 .simp only at hf;split at hf
  .rename_i hc;cases hf
   simp only[bO,bQ] at hc;refine⟨h.mono ag,Kp.refl _,?_⟩;have:=hc.1.2;simp[fits] at this;exact this.1.1.1
  .have:=h.bk (by have:=yb h4;omega) hf;exact⟨this.1,Nn hf,this.2.1⟩
theorem E6 {level:Int}:∀(k:Nat){L was:dg}{st:au}{stays out:dg}{n:Nat},L.length=4*k->dA n st->(∀p∈out,bC p=true)->
  dA (n+k) (kz level L was st stays out).1/\Kp st (kz level L was st stays out).1/\∀r,(kz level L was st stays out).2=some r->r.2.length=out.length+k/\∀p∈r.2,bC p=true
 |0,L,was,st,stays,out,n,hL,h,ho=>by
  have:L=[]:=mO ag;rw[E5 this];exact⟨h,Kp.refl _,λr hr=>by cases hr;exact⟨rfl,ho⟩⟩
 |k+1,L,was,st,stays,out,n,hL,h,ho=>by
  match L,hL with
  |a::b::c::d::L,hL=>
   rw[kz];cases hf:O5 st [a,b,c,d] level (was.headD bA) with
   |none=>exact⟨h.mono ag,Kp.refl _,λr hr=>by cases hr⟩
   |some x=>
    obtain⟨st1,p⟩:=x;obtain⟨h1,h2,h3⟩:=abU h rfl hf;simp only;obtain⟨h4,h5,h6⟩:=E6 k (L:=L) (was:=was.tail) (stays:=if p=was.headD bA then stays++[p] else stays) (out:=out++[p]) (by simp at hL;omega) h1 (λq hq=>by
     rcases eZ.1 hq with hq|hq
     .exact ho q hq
     .have:q=p:=by simpa using hq
      rw[this];exact h3)
    refine⟨by rw[show n+(k+1)=n+1+k by omega];exact h4,h2.trans h5,λr hr=>?_⟩;obtain⟨h7,h8⟩:=h6 r hr;exact⟨by rw[h7];simp;omega,h8⟩
theorem E7 {t:cB}{depth:Int}:∀(m:Nat){level:Int}{l:dg}{st:au}{stays:dg}{n:Nat},l.length<=16->dA n st->(∀p∈l,bC p=true)->
  dA (n+m*5) (iB t depth m level l st stays).1/\Kp st (iB t depth m level l st stays).1/\∀r,(iB t depth m level l st stays).2=some r->∀p∈r.2,bC p=true
 |0,level,l,st,stays,n,hl,h,hp=>by
  rw[iB];exact⟨h,Kp.refl _,λr hr=>by cases hr;exact hp⟩
 |m+1,level,l,st,stays,n,hl,h,hp=>by
  rw[iB];obtain⟨hP1,hP2,hP3⟩:=BW l;obtain⟨h1,h2,h3⟩:=E6 (level:=level) ((fj l).length/ 4) (L:=fj l) (was:=jb st t depth level) (st:=st) (stays:=stays) (out:=[]) ag h ay;rcases hg:kz level (fj l) (jb st t depth level) st stays [] with⟨st1,_|⟨Gu,o⟩⟩
  .rw[hg] at h1 h2;exact⟨h1.mono ag,h2,λr hr=>by cases hr⟩
  .rw[hg] at h1 h2 h3;obtain⟨h4,h5⟩:=h3 _ rfl;simp only at h1 h2 h4 h5⊢;obtain⟨h6,h7,h8⟩:=E7 m (t:=t) (depth:=depth) (level:=level+1) (stays:=Gu) (by simp at h4;omega) (h1.mono (show _<=n+5 by omega)) h5;exact⟨h6.mono ag,h2.trans h7,h8⟩
theorem wq {t:cB}{st:au}{lv:dg}{many:Int}(h:dA n st)(ht:bC t.cI=true)(hl:lv.length=16)(hp:∀p∈lv,bC p=true)(hm:0<=many/\many<=16):
  dA (n+20) (ij st t lv many).1/\((ij st t lv many).2=none->Kp st (ij st t lv many).1)/\∀t',(ij st t lv many).2=some t'->ek t'/\t'.many=many:=by
 have hd:=Pg.fD many;obtain⟨h1,h2,h3⟩:=E7 (t:=t) (depth:=cQ many) (cQ many).toNat (level:=1) (l:=lv.take many.toNat) (st:=st) (stays:=[]) (by rw[cW];omega) h (λp pY=>hp p (KP pY));obtain⟨KC,tA⟩:=Nk (st:=st) ht;have pz:ij st t lv many=match iB t (cQ many) (cQ many).toNat 1 (lv.take many.toNat) st [] with
  |(x,none)=>(x,none)
  |(x,some (stays,l))=>(dI ((fL st t).filter λp=>!(stays.contains p)) x,some ⟨l.headD bA,cQ many,many⟩):=rfl
 rw[pz];rcases JO:iB t (cQ many) (cQ many).toNat 1 (lv.take many.toNat) st [] with⟨x,_|⟨stays,l⟩⟩
 .rw[JO] at h1 h2;exact⟨h1.mono ag,λ_=>h2,λt' ht'=>by cases ht'⟩
 .rw[JO] at h1 h2 h3;simp only at h1 h2⊢;have hf:=yI (λp=>!(stays.contains p)) (fL st t);have h4:=dA.dI (st:=x) ((fL st t).filter λp=>!(stays.contains p)) h1 (λp pY=>tA p (pD.1 pY).1);refine⟨h4.mono ag,λhc=>(by cases hc),λt' ht'=>?_⟩;cases ht'
  refine⟨⟨?_,hm,hd⟩,rfl⟩;cases l with
  |nil=>exact(by decide:bC bA=true)
  |cons p l=>exact h3 _ rfl p ay
end
def Co (t:cB)(ok:Bool):Value->Value:=λV=>.tuple ⟨[V,tv t,.bool ok]⟩
end Go.Pl
