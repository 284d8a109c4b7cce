/- Lemmas of the proof. No conditions. -/
import Derived.Test.YtjaeddbblleomaaGreatDoorAe11
set_option maxRecDepth 100000
set_option maxHeartbeats 4000000
set_option linter.unusedVariables false
set_option linter.unusedSimpArgs false
open Go.Proofs.Tryz
namespace Go.Pl
open Go Go.Ev Go.Lg Go.Proofs
theorem OV {E:dy}{l:Kn}{L:bn}{a:aH}{br c p d:Nat}{code:ay}{rs:List ResultVar}{x:Ex}{p':Nat}{nm:dx}{th:eV}{an:aH}{cn:Nat}{at_:aH}{ct i:Nat}{q:bU}(hx:x= .normal\/x= .ret)(hr:pV E l L rs [.agg ⟨fT an cn nm at_ ct th⟩])(hL:cr [nU br a code.length c p',cj an cn nm,.aJ (.slice at_ th.length ct) 37 3 (ah (th.set i q))] L)(hp:p'<=p+d)(hD:ga ⟨nm,th.set i q⟩):ux E rs (λR L=>∃(p':Nat)(f:Flat)(an:aH)(cn:Nat)(a0:aH)(p0:dx)(c0:Nat)(at_:aH)(ct:Nat),p'<=p+d/\ga f/\Sub 2 a0 p0 an f.ad/\R= .agg ⟨fT an cn f.ad at_ ct f.ae⟩/\L=[nU br a code.length c p',cj a0 c0 p0,dD at_ ct f.ae]) x l L:=by
 have e:(th.set i q).length=th.length:=gZ;refine QN (f:=⟨nm,th.set i q⟩) (an:=an) (cn:=cn) (a0:=an) (p0:=nm) (c0:=cn) (at_:=at_) (ct:=ct) hx ?_ ?_ hp Sub.all hD
 .dsimp only[fT];rw[e];exact hr
 .dsimp only[dD];rw[e];exact hL
theorem Ja (s:St)(br:Nat)(a:aH)(code:ay)(c p:Nat)(hc:code.length<=2000)(hp:p<=60000)(hr:uW s a code)(hm:∀i∈ai a,i∉[nU br a code.length c p].flatMap It.aS):
  X4 aU aW 10 [aP br] s br a code c p 4000:=by
 have hd:s9 ⟨s,[nU br a code.length c p].flatMap It.aS,ai a⟩ a code:=⟨hr,λb hb=>hb,hm⟩;refine aO f10 ?_;(repeat' (first|refine' aX|((with_reducible apply WO.callDS);exact aD;exact eu;assumption;(intro s hr hm;exact X1 s _ _ _ _ _ (by assumption) af hr hm);intro _ _ p_files v_files st_files t_files hp_files X6 X7 X8 _ _;obtain⟨zf,Ts,sw⟩:=Pg.Ja X6)|((with_reducible apply WO.callOf);exact aD;(intro s hr;exact XN s _ _ (X7.mono af) _ X8 _ Ts hr);exact ez;intro _ _ a_of c_of b_of d_of _ _)|refine' ar|fail))
 have hD:=ga.of sw;have xy:0<zf.ad.length:=oX.2 sw.n0;have ZE:0<zf.ae.length:=oX.2 sw.t0;have nf:=hD.nl;have qM:=hD.tl;(repeat' (first|refine' aX|((with_reducible apply WO.N2);exact aD;(intro s h1 h2;exact Dd s _ _ _ _ _ _ (by have:=sw.nl;omega) (by have:=sw.tl;omega) h1 h2);exact cu;exact cu;intro _ _ a_cp c_cp b_cp d_cp _ _)|refine' AM|refine' zc176|refine' zc177|refine' P5|((with_reducible apply WO.stId);exact gO;exact gO;exact wT;exact mv;intro _)|((with_reducible apply WO.stTid);exact gO;exact gO;exact wT;exact mv;intro _)|((with_reducible apply WO.stTfo);exact gO;exact gO;exact wT;exact mv;intro _)|refine' P4|refine' ar|fail))
 all_goals try refine cI
 .exact X5 bB bj aq af (by exact hD.setN _ ⟨pathsD _ h_path,(hD.nm _ (aF af _)).2⟩)
 .exact X5 bB bj aq af (by exact hD.setN _ (by dsimp only;exact⟨(hD.nm _ (aF af _)).1,af,af⟩))
 .exact OV bB bj aq af (by exact hD.setT _ (by dsimp only;exact⟨af,af,(hD.th _ (aF af _)).2.2⟩))
 .exact OV bB bj aq af (by exact hD.setT _ (by dsimp only;exact⟨(hD.th _ (aF af _)).1,(hD.th _ (aF af _)).2.1,(hD.th _ (aF af _)).2.2⟩))
 .exact OV bB bj aq af (by exact hD.setT _ (by dsimp only;exact⟨(hD.th _ (aF af _)).1,(hD.th _ (aF af _)).2.1,af⟩))
 .exact QN (f:=⟨zf.ad.take _,zf.ae⟩) bB (by(exact bj)) (by(exact aq)) af Gs (by exact hD.cut _)
 .exact QN (f:=zf) bB (by(exact bj)) (by(exact aq)) af Sub.all (by exact hD)
section
variable {E:dy}{X:dM}{Γ:gY}{l:Kn}{L R:bn}{K:KO}{g:FuncId}{xs:List Operand}{ts:Array TypeId}{vs:aQ}{a:aH}{br c p d n:Nat}{code:ay}
abbrev X9 (E:dy)(X:dM)(g:FuncId)(vs:aQ)(s:St)(a:aH)(code:ay):Prop:=fI E X g vs s [] (ai a) λR L=>∃(br:Nat)(a2:aH)(c2:Nat)(qj:ay),SubC a code a2 qj/\qj.length<=2000/\R=aP br/\L=[nU br a2 qj.length c2 0]
theorem WO.callOp (hx:ky l xs vs)(h:∀s,uW s a code->XS code.length c->X9 E X g vs s a code)(hd:s9 Γ a code)(hv:XS code.length c)(k:∀m m' br a2 c2 (qj:ay),SubC a code a2 qj->qj.length<=2000->s9 Γ a2 qj->kb L m->m<=m'->K (aP br) (nU br a2 qj.length c2 0::L) m m' (λi=>i∈ai a\/i∈([]:bn).flatMap It.aS\/(m<=i/\i<m')) (λi=>i∈([]:bn).flatMap It.aS\/(m<=i/\i<m'))):WO E X Γ l (.call ⟨.value (.func g),⟨xs⟩,ts⟩) L K:=
 WO.call (Lm:=[]) (R:=L) (A:=ai a) hx (.refl _) (λs hi=>(hd.row hi).2) (λs hi=>h s (hd.row hi).1 hv) (by rintro r L' m m' ho hm ⟨br,a2,c2,qj,h1,h2,rfl,rfl⟩;exact k m m' br a2 c2 qj h1 h2 (hd.sub h1) ho hm)
theorem WO.callDF (hx:ky l xs vs)(hp:oz [nU br a code.length c p] L R)(hh:s9 Γ a code)(h:∀s,uW s a code->(∀i∈ai a,i∉[nU br a code.length c p].flatMap It.aS)->X4 E X g vs s br a code c p d)(k:∀m m' p' f an cn a0 p0 c0 at_ ct,p'<=p+d->ga f->Sub 2 a0 p0 an f.ad->kb L m->m<=m'->K (.agg ⟨fT an cn f.ad at_ ct f.ae⟩) (nU br a code.length c p'::cj a0 c0 p0::dD at_ ct f.ae::R) m m' (λi=>i∈ai a\/i∈[nU br a code.length c p].flatMap It.aS\/(m<=i/\i<m')) (λi=>i∈[nU br a code.length c p].flatMap It.aS\/(m<=i/\i<m'))):WO E X Γ l (.call ⟨.value (.func g),⟨xs⟩,ts⟩) L K:=
 WO.call (Lm:=[nU br a code.length c p]) (R:=R) hx hp.cR (λs hi=>(hh.row (hi.cR hp.cR|>.sub ⟨R,.refl _,np _ _⟩)).2) (λs hi=>h s (hh.row (hi.cR hp.cR|>.sub ⟨R,.refl _,np _ _⟩)).1 (s9.apart hh (hi.cR hp.cR))) (by rintro r' L' m m' ho hm ⟨p',f,an,cn,a0,p0,c0,at_,ct,h1,h2,h3,rfl,rfl⟩;exact k m m' p' f an cn a0 p0 c0 at_ ct h1 h2 h3 ho hm)
end
theorem Tt (s:St)(a:aH)(code:ay)(c:Nat)(hr:uW s a code)(hv:XS code.length c):X9 aU aW 9 [.slice a code.length c] s a code:=by
 refine' zaW
 have hv':XS code.length c:=hv;refine aO f9 ?_;(repeat' (first|refine' aX|((with_reducible apply WO.cutC);exact gO;exact gO;assumption;assumption;exact mv;intro _ c_cs)|refine' ar|fail))
 all_goals try refine cI
 .exact⟨bB,_,_,bj,aq,_,_,_,_,⟨rfl,_,rfl⟩,by rw[dg];omega,rfl,rfl⟩
 .exact⟨bB,_,_,bj,aq,_,_,_,code,⟨rfl,code.length,gS.symm⟩,af,rfl,rfl⟩
abbrev Ya (E:dy)(X:dM)(g:FuncId)(vs:aQ)(s:St)(a:aH):Prop:=fI E X g vs s [] (ai a) λR L=>∃(f:Flat)(o:Op)(an:aH)(cn:Nat)(a0:aH)(p0:dx)(c0:Nat)(at_:aH)(ct:Nat),ga f/\OpD o/\Sub 2 a0 p0 an f.ad/\R= .tuple ⟨[.agg ⟨fT an cn f.ad at_ ct f.ae⟩,ov o]⟩/\L=[cj a0 c0 p0,dD at_ ct f.ae]
theorem Fj (s:St)(a:aH)(code:ay)(c:Nat)(hr:uW s a code)(hv:XS code.length c):Ya aU aW 4 [.slice a code.length c] s a:=by
 refine' zaW
 have hv':XS code.length c:=hv;refine aO f4 ?_;(repeat' (first|refine' aX|((with_reducible apply WO.callOp);exact aD;(intro s h1 h2;exact Tt s _ _ _ h1 h2);assumption;assumption;intro _ _ b_o a_o c_o code_o hs_o hl_o hd_o _ _)|((with_reducible apply WO.callDF);exact aD;exact eu;assumption;(intro s hr hm;exact Ja s _ _ _ _ _ (by assumption) af hr hm);intro _ _ p_f f_f an_f cn_f a0_f p0_f c0_f at_f ct_f hp_f hD_f hs_f _ _)|refine' zc201|refine' ar|fail))
 all_goals try refine cI
 exact⟨bB,_,_,bj,aq,f_f,Da,_,_,_,_,_,_,_,hD_f,Wk,hs_f,rfl,rfl⟩
structure bY (s:St)(a a':aH)(f:Flat):Prop where
 n:bM s a f.ad.length 2 (ah f.ad)
 t:bM s a' f.ae.length 3 (ah f.ae)
structure VH (Γ:gY)(L:bn)(a a':aH)(f:Flat):Prop where
 n:jR Γ L a f.ad.length 2 (ah f.ad)
 t:jR Γ L a' f.ae.length 3 (ah f.ae)
abbrev jh (a a':aH):List Nat:=ai a++ai a'
abbrev kr (a:aH)(c:Nat)(a':aH)(c':Nat)(f:Flat):Value:=.agg ⟨fT a c f.ad a' c' f.ae⟩
section
variable {E:dy}{X:dM}{Γ:gY}{l:Kn}{L R:bn}{K:KO}{g:FuncId}{xs:List Operand}{ts:Array TypeId}{vs:aQ}{a a':aH}{f:Flat}{r:Value}{s:St}
theorem WO.kM (hx:ky l xs vs)(h:∀s,bY s a a' f->pW E X g vs s (jh a a') r)(hh:VH Γ L a a' f)(k:∀m m',kb L m->m<=m'->K r L m m' (λi=>i∈jh a a'\/i∈([]:bn).flatMap It.aS\/(m<=i/\i<m')) (λi=>i∈([]:bn).flatMap It.aS\/(m<=i/\i<m'))):WO E X Γ l (.call ⟨.value (.func g),⟨xs⟩,ts⟩) L K:=
 WO.tH hx (λs hi=>⟨λi hb=>by
   rcases fJ.1 hb with hb|hb
   .exact(hh.n.row hi).2 i hb
   .exact(hh.t.row hi).2 i hb,h s ⟨(hh.n.row hi).1,(hh.t.row hi).1⟩⟩) k
theorem fX.n (h:bY s a a' f):Rd ⟨s,([]:bn).flatMap It.aS,jh a a'⟩ a f.ad.length 2 (ah f.ad):=Rd.of h.n λ_ hb=>di _ hb
theorem fX.t (h:bY s a a' f):Rd ⟨s,([]:bn).flatMap It.aS,jh a a'⟩ a' f.ae.length 3 (ah f.ae):=Rd.of h.t λ_ hb=>dH _ hb
end
structure Hy (f:Flat):Prop where
 nl:f.ad.length<=1000
 tl:f.ae.length<=1000
 nm:∀x∈f.ad,x.ag.length<=5000/\ -1000<=x.id/\x.id<=1000
 th:∀x∈f.ae,-1000<=x.id/\x.id<=1000/\x.bh.length<=5000
theorem ga.s {f:Flat}(h:ga f):Hy f:=⟨by have:=h.nl;omega,by have:=h.tl;omega,λx hx=>by have:=h.nm x hx;have:=this.1.1;omega,λx hx=>by have:=h.th x hx;omega⟩
theorem ME {α:Type}{sz:Nat}[c9 α sz](P:α->Bool)(l:List α){i:Nat}(hi:i<l.length):((l.drop i).findIdx? P).map (·+i)=if P (l.getD i (c9.lW (α:=α) (sz:=sz))) then some i else((l.drop (i+1)).findIdx? P).map (·+(i+1)):=by
 rw[drop_cons (sz:=sz) hi,Pw];split
 .simp
 .rw[Option.map_map]
  congr 1
  funext j
  simp only[Function.comp];omega
theorem kN (s:St)(a:aH)(c:Nat)(a':aH)(c':Nat)(f:Flat)(hf:Hy f)(z:ay)(hr:bY s a a' f):bO 38 [kr a c a' c' f,sv z] s (jh a a') (iv (G4 (f.dt z))):=by
 have oK:=fX.n hr;have nf:=hf.nl;refine aO f38 ?_;(refine' cO)
 refine W.bH (λk l L=>∃(i b2:Nat),Le [(1,sv z),(2,aP b2),(5,iv (i:Int))] l/\cr [.box b2 (fT a c f.ad a' c' f.ae) 26 false] L/\k=f.ad.length-i/\i<=f.ad.length/\f.dt z=((f.ad.drop i).findIdx? λx=>decide (x.ag=z)).map (·+i))
  (λl L=>f.dt z=none) _ ⟨0,_,bd,aq,rfl,af,by simp[Flat.dt]⟩ ?_ ?_
 .rintro k l L ⟨i,b2,hl,hL,rfl,h1,h2⟩;refine W.le ?_ hl hL;clear hl hL;by_cases hi:i<f.ad.length
  .rw[ME _ _ hi] at h2;(refine' cO)
   all_goals try refine cI
   .rw[show f.dt z=some i from h2.trans (if_pos (dO jU))];(refine' av);rfl
   .exact⟨_,af,i+1,_,bd,aq,rfl,af,h2.trans (if_neg (by rw[cl];exact jU))⟩
  .have fG:i=f.ad.length:=by omega
   subst fG;rw[ig] at h2;(refine' cO)
   all_goals try refine cI
   all_goals exact h2
 .rintro l L h1;refine aj ?_;refine W.le ?_ (Le.nil _) (cr.nil _);(refine' cO)
  rw[h1];(refine' av);rfl
theorem qS (s:St)(a:aH)(c:Nat)(a':aH)(c':Nat)(f:Flat)(hf:Hy f)(z:Int)(hr:bY s a a' f):bO 40 [kr a c a' c' f,iv z] s (jh a a') (iv (G4 (f.cD z))):=by
 have qJ:=fX.t hr;have qM:=hf.tl;refine aO f40 ?_;(refine' cO)
 refine W.bH (λk l L=>∃(i b2:Nat),Le [(1,iv z),(2,aP b2),(5,iv (i:Int))] l/\cr [.box b2 (fT a c f.ad a' c' f.ae) 26 false] L/\k=f.ae.length-i/\i<=f.ae.length/\f.cD z=((f.ae.drop i).findIdx? λx=>decide (x.id=z)).map (·+i))
  (λl L=>f.cD z=none) _ ⟨0,_,bd,aq,rfl,af,by simp[Flat.cD]⟩ ?_ ?_
 .rintro k l L ⟨i,b2,hl,hL,rfl,h1,h2⟩;refine W.le ?_ hl hL;clear hl hL;by_cases hi:i<f.ae.length
  .rw[ME _ _ hi] at h2;(refine' cO)
   all_goals try refine cI
   .rw[show f.cD z=some i from h2.trans (if_pos (dO jU))];(refine' av);rfl
   .exact⟨_,af,i+1,_,bd,aq,rfl,af,h2.trans (if_neg (by rw[cl];exact jU))⟩
  .have fG:i=f.ae.length:=by omega
   subst fG;rw[ig] at h2;(refine' cO)
   all_goals try refine cI
   all_goals exact h2
 .rintro l L h1;refine aj ?_;refine W.le ?_ (Le.nil _) (cr.nil _);(refine' cO)
  rw[h1];(refine' av);rfl
theorem ID (s:St)(a:aH)(c:Nat)(a':aH)(c':Nat)(f:Flat)(hf:Hy f)(z:Int)(hr:bY s a a' f):bO 41 [kr a c a' c' f,iv z] s (jh a a') (.bool (f.gX z)):=by
 have oK:=fX.n hr;have qJ:=fX.t hr;have qM:=hf.tl;have kh:∀s,bY s a a' f->bO 40 [kr a c a' c' f,iv z] s (jh a a') (iv (G4 (f.cD z))):=λs hr=>qS s a c a' c' f hf z hr
 unfold Flat.gX;cases hz:f.cD z with
 |none=>
  rw[hz] at kh;have kh:∀s,bY s a a' f->bO 40 [kr a c a' c' f,iv z] s (jh a a') (iv (-1)):=kh;refine aO f41 ?_;(refine' GJ)
  all_goals try refine cI
  (refine' av);rfl
 |some k=>
  rw[hz] at kh;have kh:∀s,bY s a a' f->bO 40 [kr a c a' c' f,iv z] s (jh a a') (iv (k:Int)):=kh;have hk:k<f.ae.length:=(nq.1 hz).1;refine aO f41 ?_;(refine' GJ)
  all_goals try refine cI
  (refine' av);rfl
theorem Db (s:St)(a:aH)(c:Nat)(a':aH)(c':Nat)(f:Flat)(hf:Hy f)(z:Int)(hr:bY s a a' f):bO 82 [kr a c a' c' f,iv z] s (jh a a') (iv (f.many z)):=by
 have oK:=fX.n hr;have nf:=hf.nl;refine aO f82 ?_;(refine' cO)
 refine W.bH (λk l L=>∃(i n b2:Nat),Le [(1,iv z),(2,aP b2),(5,iv (n:Int)),(6,iv (i:Int))] l/\cr [.box b2 (fT a c f.ad a' c' f.ae) 26 false] L/\k=f.ad.length-i/\i<=f.ad.length/\n<=i/\f.many z=n+(f.ad.drop i).countP λx=>decide (x.id=z))
  (λl L=>Le [(5,iv (f.many z:Int))] l) _ ⟨0,0,_,bd,aq,rfl,af,af,by simp[Flat.many]⟩ ?_ ?_
 .rintro k l L ⟨i,n,b2,hl,hL,rfl,h1,h2,h3⟩;refine W.le ?_ hl hL;clear hl hL;by_cases hi:i<f.ad.length
  .rw[drop_cons hi,jI] at h3;(refine' cO)
   all_goals try refine cI
   .exact⟨_,af,i+1,n+1,_,bd,aq,rfl,af,af,by rw[h3,if_pos (dO jU)];omega⟩
   .exact⟨_,af,i+1,n,_,bd,aq,rfl,af,af,by rw[h3,if_neg (by rw[cl];exact jU)];omega⟩
  .have fG:i=f.ad.length:=by omega
   subst fG;rw[ig,JJ,wo] at h3;subst h3;(refine' cO)
   all_goals try refine cI
   all_goals exact bd
 .rintro l L hl;refine aj ?_;refine W.le ?_ hl (cr.nil _);(refine' cO)
  (refine' av);rfl
theorem K2 (s:St)(z:ay)(hz:z.length<=100000):bO 37 [sv z] s [] (.tuple ⟨[sv (aK z).1,sv (aK z).2]⟩):=by
 refine aO f37 ?_;(refine' cO)
 refine W.bH (λk l L=>∃(i n:Nat),Le [(0,sv z),(4,iv (n:Int)),(5,iv (i:Int))] l/\k=z.length-i/\i<=z.length/\n<=i/\(n=0\/n<z.length)/\sW z=sV i n (z.drop i))
  (λl L=>Le [(0,sv z),(4,iv (sW z:Int))] l/\(sW z=0\/sW z<z.length)) _ ⟨0,0,bd,rfl,af,af,.inl rfl,rfl⟩ ?_ ?_
 .rintro k l L ⟨i,n,hl,rfl,h1,h2,h4,h3⟩;refine W.le ?_ hl (cr.nil _);clear hl;by_cases hi:i<z.length
  .have hd:z.drop i=z.getD i 0::z.drop (i+1):=by
    rw[xH hi,aY,bk hi];rfl
   rw[hd,sV] at h3;(refine' cO)
   all_goals try refine cI
   .exact⟨_,af,i+1,i,bd,rfl,af,af,.inr hi,by rw[h3,if_pos (IF.1 jU)]⟩
   .exact⟨_,af,i+1,n,bd,rfl,af,af,h4,by rw[h3,if_neg (λh=>jU (IF.2 h))]⟩
  .have fG:i=z.length:=by omega
   subst fG;rw[ig,sV] at h3;subst h3;(refine' cO)
   all_goals try refine cI
   all_goals exact⟨bd,h4⟩
 .rintro l L ⟨hl,h4⟩;refine aj ?_;refine W.le ?_ hl (cr.nil _);clear hl;unfold aK;(refine' cO)
  all_goals try refine cI
  ·(refine' av)
   rw[if_pos af,show(min (1:Int) (z.length:Int)).toNat=min 1 z.length by omega];rfl
  ·(refine' av)
   rw[if_neg af];rfl
theorem sx (z:ay):(aK z).1.length<=z.length+1/\(aK z).2.length<=z.length:=by
 unfold aK;split<;>simp only[dh,mD,gp,dg]<;>omega
theorem Wn (s:St)(a:aH)(c:Nat)(a':aH)(c':Nat)(f:Flat)(hf:Hy f)(z:ay)(hr:bY s a a' f):bO 42 [kr a c a' c' f,sv z] s (jh a a') (iv (f.nw z)):=by
 have oK:=fX.n hr;have nf:=hf.nl;refine aO f42 ?_;(refine' cO)
 refine W.bH (λk l L=>∃(i n b2:Nat),Le [(1,sv z),(2,aP b2),(5,iv (n:Int)),(6,iv (i:Int))] l/\cr [.box b2 (fT a c f.ad a' c' f.ae) 26 false] L/\k=f.ad.length-i/\(i<=f.ad.length\/i=1)/\1<=i/\n<=i/\f.nw z=n+(f.ad.drop i).countP λx=>decide ((aK x.ag).1=z))
  (λl L=>Le [(5,iv (f.nw z:Int))] l) _ ⟨1,0,_,bd,aq,rfl,af,af,af,by simp[Flat.nw]⟩ ?_ ?_
 .rintro k l L ⟨i,n,b2,hl,hL,rfl,h1,h0,h2,h3⟩;refine W.le ?_ hl hL;clear hl hL;by_cases hi:i<f.ad.length
  .have ri:=(hf.nm _ (aF hi c9.lW)).1;rw[drop_cons hi,jI] at h3;(repeat' (first|refine' aX|refine' wb|refine' ar|fail))
   all_goals try refine cI
   .exact⟨_,af,i+1,n+1,_,bd,aq,rfl,af,af,af,by rw[h3,if_pos (dO jU)];omega⟩
   .exact⟨_,af,i+1,n,_,bd,aq,rfl,af,af,af,by rw[h3,if_neg (by rw[cl];exact jU)];omega⟩
  .rw[zt af,JJ,wo] at h3;subst h3;(refine' cO)
   all_goals try refine cI
   all_goals exact bd
 .rintro l L hl;refine aj ?_;refine W.le ?_ hl (cr.nil _);(refine' cO)
  (refine' av);rfl
abbrev dT:bU:=c9.lW (α:=bU)
abbrev dF:Fnd:=c9.lW (α:=Fnd)
theorem MF (f:Flat):f.kn=true↔(1<=f.ae.length/\f.ae.length<=16)/\(f.ae.getD 0 dT).id=0/\(f.ae.getD 0 dT).aM=true/\∀i,i<f.ae.length->f.sX i=true:=by
 unfold Flat.kn fR;simp only[cv,cl,iM,mH];constructor
 .rintro⟨⟨⟨h1,h2⟩,h3⟩,h4⟩;exact⟨af,h2,h3,h4⟩
 .rintro⟨h1,h2,h3,h4⟩;exact⟨⟨⟨af,h2⟩,h3⟩,h4⟩
end Go.Pl
